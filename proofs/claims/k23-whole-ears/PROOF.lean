import PyProof.Rows.All
import Wide.All
import OpenK.AllK
import Wide.FinOn
import HandS.ForMost
import HandS.Exc
import HandS.TryOnly
import HandS.ExcOwn
import HandS.WordsExc
import HandS.IsInst
import HandS.EndBits
import HandS.Style
import HandS.CallSlots
import HandS.SortInts
import HandS.RaiseMore
import HandS.Strs
import HandS.SetFor
import HandS.Wide
import HandS.ExcIs
import KE.KExcIs
import HandS.Deep
import HandS.Defaults
import HandS.Conv
import HandS.SortKw
import HandS.MakeKw
import HandS.MakeKwOnly
import HandS.OwnEq
import HandS.NamedTupGet
import PySem.Challenge.RW_evenline_k23_whole_ears
set_option Elab.async false
set_option linter.all false
set_option maxRecDepth 100000
set_option maxHeartbeats 4000000
set_option autoImplicit false
/-! Zl1: deep data, the small mutable heap, heap-free readings, their lifting to HandS -/
namespace Zl
open PySem L2

/-- a script's numbers: not too many, not too great -/
def cellsOk (cs : List Int) : Prop := cs.length ≤ 63 ∧ (cs.map fun x : Int => x.natAbs.log2).sum ≤ 1048576
/-- deep data: what a Python value is worth; ref: a thing that may change, or is not looked into -/
inductive D where
  | non | bl (b : Bool) | int (i : Int) | str (x : Str) | lst (ds : List D) | tup (ds : List D) | dct | exc (c : Str) | scr (ns : List Int) | ref (a : Addr)
/-- what may change -/
inductive MO where
  | lst (ds : List D) | ins (c : Str) (fs : List (Str × D)) | town
abbrev Mh := Addr → Option MO
def mup (M : Mh) (a : Addr) (o : MO) : Mh := fun b => if b = a then some o else M b
def mdel (M : Mh) (a : Addr) : Mh := fun b => if b = a then none else M b
@[simp] theorem mup_same {M : Mh} {a : Addr} {o : MO} : mup M a o a = some o := by unfold mup; rw [if_pos rfl]
theorem mup_ne {M : Mh} {a b : Addr} {o : MO} (h : b ≠ a) : mup M a o b = M b := by unfold mup; rw [if_neg h]
@[simp] theorem mdel_same {M : Mh} {a : Addr} : mdel M a a = none := by unfold mdel; rw [if_pos rfl]
theorem mdel_ne {M : Mh} {a b : Addr} (h : b ≠ a) : mdel M a b = M b := by unfold mdel; rw [if_neg h]
theorem mup_mup {M : Mh} {a : Addr} {o p : MO} : mup (mup M a o) a p = mup M a p := by
  funext b; unfold mup; split <;> rfl
theorem mdel_mup {M : Mh} {a : Addr} {o : MO} (h : M a = none) : mdel (mup M a o) a = M := by
  funext b; unfold mdel mup
  by_cases e : b = a
  · rw [if_pos e, e, h]
  · rw [if_neg e, if_neg e]
theorem ne_of_m {M : Mh} {a b : Addr} {o : MO} (h : M a = some o) (h' : M b = none) : a ≠ b := by
  intro e; subst e; rw [h] at h'; cases h'

abbrev Env := List (Option D)
/-- the value of a slot -/
def gt : Env → Nat → Option D
  | [], _ => none
  | d :: _, 0 => d
  | _ :: r, n + 1 => gt r n
/-- a slot stored -/
def st : Env → Nat → Option D → Env
  | [], _, _ => []
  | _ :: r, 0, x => x :: r
  | d :: r, n + 1, x => d :: st r n x
theorem st_len : ∀ (r : Env) (i : Nat) (x : Option D), (st r i x).length = r.length
  | [], _, _ => rfl
  | _ :: _, 0, _ => rfl
  | _ :: r, n + 1, x => congrArg (· + 1) (st_len r n x)
theorem gt_st_ne : ∀ (r : Env) (i j : Nat) (x : Option D), j ≠ i → gt (st r i x) j = gt r j
  | [], _, _, _, _ => rfl
  | _ :: _, 0, 0, _, h => absurd rfl h
  | _ :: _, 0, _ + 1, _, _ => rfl
  | _ :: _, _ + 1, 0, _, _ => rfl
  | _ :: r, i + 1, j + 1, x, h => gt_st_ne r i j x (fun e => h (congrArg (· + 1) e))
theorem gt_st_same : ∀ (r : Env) (i : Nat) (x : Option D) (d : D), gt (st r i x) i = some d → x = some d ∧ i < r.length
  | [], _, _, _, h => nomatch h
  | _ :: _, 0, _, _, h => ⟨h, Nat.succ_pos _⟩
  | _ :: r, i + 1, x, d, h => let ⟨a, b⟩ := gt_st_same r i x d h; ⟨a, Nat.succ_lt_succ b⟩
/-- slots forgotten -/
def zwipe (r : Env) : List Nat → Env
  | [] => r
  | v :: vs => st (zwipe r vs) v none

/-- an exception object of the class at C -/
def ExZ (C : Addr) (d : Option Addr) (a : Addr) : HO := .ext fun h => ∃ (oe : Obj) (vs : Array Value), h.get? a = some oe ∧ Zc (.ref C) d oe ∧ oe.data = .fields vs

/-- what never changes any more (f), and what others hold and nobody here touches (u) -/
structure Fz where
  f : Hp
  u : Hp
structure Le (F F' : Fz) : Prop where
  f : Same F.f F'.f
  u : F'.u = F.u
theorem Le.refl (F : Fz) : Le F F := ⟨Same.refl _, rfl⟩
theorem Le.trans {F F1 F2 : Fz} (a : Le F F1) (b : Le F1 F2) : Le F F2 := ⟨a.f.trans b.f, b.u.trans a.u⟩
structure Ge (F0 F : Fz) : Prop where
  f : Same F0.f F.f
  u : Same F0.u F.u
theorem Ge.trans {F0 F F1 : Fz} (a : Ge F0 F) (b : Le F F1) : Ge F0 F1 := ⟨a.f.trans b.f, by rw [b.u]; exact a.u⟩
theorem Ge.refl (F : Fz) : Ge F F := ⟨Same.refl _, Same.refl _⟩
def Fz.up (F : Fz) (p : Addr) (o : HO) : Fz := ⟨upd F.f p o, F.u⟩
mutual
inductive Rep (K : PySem.W.Frag) (mg : Str → Option Value) (F : Fz) : V → D → Prop
  | non : Rep K mg F .non .non
  | bl (b : Bool) : Rep K mg F (.bl b) (.bl b)
  | int (i : Int) : Rep K mg F (.int i) (.int i)
  | str {x : Str} : PyData.strOk x = true → x.length ≤ sizeLine → Rep K mg F (.str x) (.str x)
  | lst {a : Addr} {vs : List V} {ds : List D} : F.f a = some (.lst vs) → vs.length ≤ sizeLine → RepL K mg F vs ds → Rep K mg F (.ref a) (.lst ds)
  | tup {a : Addr} {vs : List V} {ds : List D} : SqT K F.f a vs → vs.length ≤ sizeLine → RepL K mg F vs ds → Rep K mg F (.ref a) (.tup ds)
  | dct {a : Addr} : F.f a = some (.dK []) → Rep K mg F (.ref a) .dct
  | exc {a C : Addr} {c : Str} {d : Option Addr} : mg c = some (.ref C) → F.f a = some (ExZ C d a) → (∀ dx, d = some dx → ∃ fs, F.f dx = some (.xd fs)) → Rep K mg F (.ref a) (.exc c)
  | scr {a : Addr} {ns : List Int} : SqL K F.f a (ns.map V.int) → cellsOk ns → Rep K mg F (.ref a) (.scr ns)
  | ref (a : Addr) : Rep K mg F (.ref a) (.ref a)
inductive RepL (K : PySem.W.Frag) (mg : Str → Option Value) (F : Fz) : List V → List D → Prop
  | nil : RepL K mg F [] []
  | cons {v : V} {vs : List V} {d : D} {ds : List D} : Rep K mg F v d → RepL K mg F vs ds → RepL K mg F (v :: vs) (d :: ds)
end

section
variable {K : PySem.W.Frag} {mg : Str → Option Value} {F F' F1 F2 : Fz} {H H' : Hp}
theorem same_sqT {f f' : Hp} {a : Addr} {xs : List V} (e : Same f f') (h : SqT K f a xs) : SqT K f' a xs := by
  rcases h with (h | ⟨o, h⟩) | h
  · exact .inl (.inl (e _ _ h))
  · exact .inl (.inr ⟨o, e _ _ h⟩)
  · exact .inr h
theorem same_upd {p : Addr} {o : HO} (h : H p = none) : Same H (upd H p o) := fun b x e => by
  rw [upd_ne (ne_of_none e h)]
  exact e
mutual
theorem Rep.monoF (e : Same F.f F'.f) : ∀ {v : V} {d : D}, Rep K mg F v d → Rep K mg F' v d
  | _, _, .non => .non
  | _, _, .bl b => .bl b
  | _, _, .int i => .int i
  | _, _, .str h h' => .str h h'
  | _, _, .lst h l r => .lst (e _ _ h) l (RepL.monoF e r)
  | _, _, .tup h l r => .tup (same_sqT e h) l (RepL.monoF e r)
  | _, _, .dct h => .dct (e _ _ h)
  | _, _, .exc h h' h2 => .exc h (e _ _ h') fun dx z => let ⟨fs, q⟩ := h2 dx z; ⟨fs, e _ _ q⟩
  | _, _, .scr h l => .scr (e.seq h) l
  | _, _, .ref a => .ref a
theorem RepL.monoF (e : Same F.f F'.f) : ∀ {vs : List V} {ds : List D}, RepL K mg F vs ds → RepL K mg F' vs ds
  | _, _, .nil => .nil
  | _, _, .cons h t => .cons (Rep.monoF e h) (RepL.monoF e t)
end
theorem Rep.mono (e : Le F F') {v : V} {d : D} (h : Rep K mg F v d) : Rep K mg F' v d := h.monoF e.f
theorem RepL.mono (e : Le F F') {vs : List V} {ds : List D} (h : RepL K mg F vs ds) : RepL K mg F' vs ds := h.monoF e.f
theorem RepL.length : ∀ {vs : List V} {ds : List D}, RepL K mg F vs ds → vs.length = ds.length
  | _, _, .nil => rfl
  | _, _, .cons _ t => congrArg (· + 1) t.length
theorem RepL.get : ∀ {vs : List V} {ds : List D} {i : Nat} {d : D}, RepL K mg F vs ds → ds[i]? = some d → ∃ v, vs[i]? = some v ∧ Rep K mg F v d
  | _, _, _, _, .nil, e => by simp at e
  | _, _, 0, _, .cons h _, e => by simp at e; subst e; exact ⟨_, rfl, h⟩
  | _, _, i + 1, d, .cons _ t, e => by
    obtain ⟨v, h1, h2⟩ := RepL.get (i := i) (d := d) t (by simpa using e)
    exact ⟨v, by simpa using h1, h2⟩
theorem RepL.getV : ∀ {vs : List V} {ds : List D} {i : Nat} {v : V}, RepL K mg F vs ds → vs[i]? = some v → ∃ d, ds[i]? = some d ∧ Rep K mg F v d
  | _, _, _, _, .nil, e => by simp at e
  | _, _, 0, _, .cons h _, e => by simp at e; subst e; exact ⟨_, rfl, h⟩
  | _, _, i + 1, v, .cons _ t, e => by
    obtain ⟨d, h1, h2⟩ := RepL.getV (i := i) (v := v) t (by simpa using e)
    exact ⟨d, by simpa using h1, h2⟩
theorem RepL.append : ∀ {vs ws : List V} {ds es : List D}, RepL K mg F vs ds → RepL K mg F ws es → RepL K mg F (vs ++ ws) (ds ++ es)
  | _, _, _, _, .nil, s => s
  | _, _, _, _, .cons h t, s => .cons h (RepL.append t s)
theorem RepL.drop : ∀ {vs : List V} {ds : List D} (n : Nat), RepL K mg F vs ds → RepL K mg F (vs.drop n) (ds.drop n)
  | _, _, 0, r => r
  | _, _, _ + 1, .nil => .nil
  | _, _, n + 1, .cons _ t => RepL.drop n t
theorem RepL.take : ∀ {vs : List V} {ds : List D} (n : Nat), RepL K mg F vs ds → RepL K mg F (vs.take n) (ds.take n)
  | _, _, 0, _ => .nil
  | _, _, _ + 1, .nil => .nil
  | _, _, n + 1, .cons r t => .cons r (RepL.take n t)
theorem RepL.set {v : V} {d : D} (r : Rep K mg F v d) : ∀ {vs : List V} {ds : List D} (i : Nat), RepL K mg F vs ds → RepL K mg F (vs.set i v) (ds.set i d)
  | _, _, _, .nil => .nil
  | _, _, 0, .cons _ t => .cons r t
  | _, _, i + 1, .cons q t => .cons q (RepL.set r i t)
theorem RepL.eraseIdx : ∀ {vs : List V} {ds : List D} (i : Nat), RepL K mg F vs ds → RepL K mg F (vs.eraseIdx i) (ds.eraseIdx i)
  | _, _, _, .nil => .nil
  | _, _, 0, .cons _ t => t
  | _, _, i + 1, .cons q t => .cons q (RepL.eraseIdx i t)
theorem RepL.reverse {vs : List V} {ds : List D} (h : RepL K mg F vs ds) : RepL K mg F vs.reverse ds.reverse := by
  induction vs generalizing ds with
  | nil => cases h; exact .nil
  | cons v vs ih =>
    cases h with
    | cons r t =>
      rw [List.reverse_cons, List.reverse_cons]
      exact (ih t).append (.cons r .nil)
theorem RepL.flat {vs : List V} {ds : List D} (h : RepL K mg F vs ds) : ∀ n : Nat, RepL K mg F (List.replicate n vs).flatten (List.replicate n ds).flatten
  | 0 => .nil
  | n + 1 => by
    rw [List.replicate_succ, List.replicate_succ, List.flatten_cons, List.flatten_cons]
    exact h.append (h.flat n)
theorem RepL.ints : ∀ (ns : List Int), RepL K mg F (ns.map V.int) (ns.map D.int)
  | [] => .nil
  | n :: r => .cons (.int n) (RepL.ints r)
theorem RepL.ints_of : ∀ {vs : List V} {ns : List Int}, RepL K mg F vs (ns.map D.int) → vs = ns.map V.int
  | _, [], h => by cases h; rfl
  | _, n :: r, h => by
    cases h with
    | cons a t => cases a; rw [RepL.ints_of (ns := r) t]; rfl
theorem RepL.strs_of : ∀ {vs : List V} {ns : List Str}, RepL K mg F vs (ns.map D.str) → vs = ns.map V.str
  | _, [], h => by cases h; rfl
  | _, n :: r, h => by
    cases h with
    | cons a t => cases a; rw [RepL.strs_of (ns := r) t]; rfl
theorem RepL.bls_of : ∀ {vs : List V} {ns : List Bool}, RepL K mg F vs (ns.map D.bl) → vs = ns.map V.bl
  | _, [], h => by cases h; rfl
  | _, n :: r, h => by
    cases h with
    | cons a t => cases a; rw [RepL.bls_of (ns := r) t]; rfl

/-- the slots -/
def RepE (K : PySem.W.Frag) (mg : Str → Option Value) (F : Fz) (s : St) (r : Env) : Prop := s.length = r.length ∧ ∀ i d, gt r i = some d → ∃ v, s[i]? = some (some v) ∧ Rep K mg F v d
theorem RepE.mono {s : St} {r : Env} (e : Le F F') (h : RepE K mg F s r) : RepE K mg F' s r := ⟨h.1, fun i d q => let ⟨v, a, b⟩ := h.2 i d q; ⟨v, a, b.mono e⟩⟩
theorem RepE.set {s : St} {r : Env} {v : V} {d : D} (i : Nat) (h : RepE K mg F s r) (q : Rep K mg F v d) : RepE K mg F (s.set i (some v)) (st r i (some d)) := by
  refine ⟨by rw [List.length_set, st_len]; exact h.1, fun j e z => ?_⟩
  by_cases hj : j = i
  · subst hj
    obtain ⟨a, b⟩ := gt_st_same _ _ _ _ z
    cases a
    exact ⟨v, List.getElem?_set_self (by rw [h.1]; exact b), q⟩
  · rw [gt_st_ne _ _ _ _ hj] at z
    obtain ⟨w, a, b⟩ := h.2 j e z
    exact ⟨w, by rw [List.getElem?_set_ne (Ne.symm hj)]; exact a, b⟩
theorem RepE.unset {s : St} {r : Env} (i : Nat) (h : RepE K mg F s r) : RepE K mg F (s.set i none) (st r i none) := by
  refine ⟨by rw [List.length_set, st_len]; exact h.1, fun j e z => ?_⟩
  by_cases hj : j = i
  · subst hj
    obtain ⟨a, b⟩ := gt_st_same _ _ _ _ z
    cases a
  · rw [gt_st_ne _ _ _ _ hj] at z
    obtain ⟨w, a, b⟩ := h.2 j e z
    exact ⟨w, by rw [List.getElem?_set_ne (Ne.symm hj)]; exact a, b⟩
theorem RepE.wipe {s : St} {r : Env} (h : RepE K mg F s r) : ∀ vs : List Nat, RepE K mg F (wipe s vs) (zwipe r vs)
  | [] => h
  | v :: vs => by
    show RepE K mg F ((L2.wipe s vs).set v none) (st (zwipe r vs) v none)
    exact (h.wipe vs).unset v

/-- what stands at a changing address -/
def RepO (K : PySem.W.Frag) (mg : Str → Option Value) (F : Fz) (H : Hp) (M : Mh) (a : Addr) : MO → Prop
  | .lst ds => ∃ vs, H a = some (.lst vs) ∧ vs.length ≤ sizeLine ∧ RepL K mg F vs ds
  | .ins c fs => ∃ C dx vs, mg c = some (.ref C) ∧ H a = some (.ins C dx (List.zip (fs.map (·.1)) vs)) ∧ RepL K mg F vs (fs.map (·.2))
  | .town => ∃ c n cells, H a = some (.lst [.ref c, .int n]) ∧ H c = some (.lst (cells.map V.int)) ∧ F.f c = none ∧ F.u c = none ∧ M c = none ∧ cells ≠ [] ∧ cellsOk cells ∧ ∀ t, M t = some .town → t = a
/-- F: what never changes any more; M: what may -/
structure Wd (K : PySem.W.Frag) (mg : Str → Option Value) (F : Fz) (H : Hp) (M : Mh) : Prop where
  sub : ∀ a o, F.f a = some o → H a = some o
  un : ∀ a o, F.u a = some o → H a = some o ∧ F.f a = none ∧ M a = none
  mu : ∀ a m, M a = some m → F.f a = none ∧ RepO K mg F H M a m
theorem Wd.tr {M : Mh} {a : Addr} {m : MO} (w : Wd K mg F H M) (h : M a = some m) : ∃ o, H a = some o := by
  obtain ⟨_, r⟩ := w.mu a m h
  cases m with
  | lst ds => obtain ⟨vs, e, _⟩ := r; exact ⟨_, e⟩
  | ins c fs => obtain ⟨C, dx, vs, _, e, _⟩ := r; exact ⟨_, e⟩
  | town => obtain ⟨c, n, cells, e, _⟩ := r; exact ⟨_, e⟩
theorem Wd.free {M : Mh} {a : Addr} (w : Wd K mg F H M) (h : H a = none) : M a = none ∧ F.f a = none ∧ F.u a = none := by
  refine ⟨?_, ?_, ?_⟩
  · cases e : M a with
    | none => rfl
    | some m => obtain ⟨o, q⟩ := w.tr e; rw [q] at h; cases h
  · cases e : F.f a with
    | none => rfl
    | some o => rw [w.sub a o e] at h; cases h
  · cases e : F.u a with
    | none => rfl
    | some o => rw [(w.un a o e).1] at h; cases h
/-- what is at b (not at p) looks the same, if p alone differs -/
theorem RepO.stay {M M' : Mh} {b : Addr} {m : MO} (e : Same F.f F'.f) (hb : H' b = H b) (hc : ∀ c, (∃ o, H c = some o) → F.f c = none → F.u c = none → M c = none → H' c = H c ∧ F'.f c = none ∧ F'.u c = none ∧ M' c = none) (ht : ∀ t, M' t = some .town → M t = some .town)
    (r : RepO K mg F H M b m) : RepO K mg F' H' M' b m := by
  cases m with
  | lst ds => obtain ⟨vs, h, l, q⟩ := r; exact ⟨vs, hb.trans h, l, q.monoF e⟩
  | ins c fs => obtain ⟨C, dx, vs, h0, h, q⟩ := r; exact ⟨C, dx, vs, h0, hb.trans h, q.monoF e⟩
  | town =>
    obtain ⟨c, n, cells, h1, h2, h3, h3', h4, h5, h6, h7⟩ := r
    obtain ⟨k1, k2, k2', k3⟩ := hc c ⟨_, h2⟩ h3 h3' h4
    exact ⟨c, n, cells, hb.trans h1, k1.trans h2, k2, k2', k3, h5, h6, fun t q => h7 t (ht t q)⟩
/-- a new thing is laid, frozen at once -/
theorem Wd.laidF {M : Mh} {p : Addr} {o : HO} (w : Wd K mg F H M) (hp : H p = none) : Le F (F.up p o) ∧ Wd K mg (F.up p o) (upd H p o) M := by
  obtain ⟨m0, f0, u0⟩ := w.free hp
  refine ⟨⟨same_upd f0, rfl⟩, fun a x e => ?_, fun a x e => ?_, fun a m e => ?_⟩
  · have e : upd F.f p o a = some x := e
    by_cases h : a = p
    · rw [h, upd_same] at e ⊢; exact e
    · rw [upd_ne h] at e ⊢; exact w.sub a x e
  · have h : a ≠ p := ne_of_none (show F.u a = some x from e) u0
    obtain ⟨q1, q2, q3⟩ := w.un a x e
    exact ⟨by rw [upd_ne h]; exact q1, (upd_ne h).trans q2, q3⟩
  · have h : a ≠ p := ne_of_m e m0
    obtain ⟨q, r⟩ := w.mu a m e
    refine ⟨(upd_ne h).trans q, r.stay (F' := F.up p o) (same_upd f0) (upd_ne h) (fun c ⟨x, hx⟩ hf hu hm => ?_) fun _ z => z⟩
    have hc : c ≠ p := ne_of_none hx hp
    exact ⟨upd_ne hc, (upd_ne hc).trans hf, hu, hm⟩
/-- a new thing is laid that may change -/
theorem Wd.laidM {M : Mh} {p : Addr} {o : HO} {m : MO} (w : Wd K mg F H M) (hp : H p = none) (hm : m ≠ .town) (r : RepO K mg F (upd H p o) (mup M p m) p m) : Wd K mg F (upd H p o) (mup M p m) := by
  obtain ⟨m0, f0, u0⟩ := w.free hp
  refine ⟨fun a x e => ?_, fun a x e => ?_, fun a m' e => ?_⟩
  · have h : a ≠ p := ne_of_none (w.sub a x e) hp
    rw [upd_ne h]; exact w.sub a x e
  · have h : a ≠ p := ne_of_none e u0
    obtain ⟨q1, q2, q3⟩ := w.un a x e
    exact ⟨by rw [upd_ne h]; exact q1, q2, by rw [mup_ne h]; exact q3⟩
  · by_cases h : a = p
    · subst h; rw [mup_same] at e; cases e; exact ⟨f0, r⟩
    · rw [mup_ne h] at e
      obtain ⟨q, r'⟩ := w.mu a m' e
      refine ⟨q, r'.stay (Same.refl _) (upd_ne h) (fun c ⟨x, hx⟩ hf hu hmc => ?_) fun t z => ?_⟩
      · have hc : c ≠ p := ne_of_none hx hp
        exact ⟨upd_ne hc, hf, hu, by rw [mup_ne hc]; exact hmc⟩
      · by_cases ht : t = p
        · subst ht; rw [mup_same] at z; cases z; exact absurd rfl hm
        · rw [mup_ne ht] at z; exact z
/-- a changing thing is changed -/
theorem Wd.write {M : Mh} {p : Addr} {o : HO} {m m0 : MO} (w : Wd K mg F H M) (hp : M p = some m0) (hm : m ≠ .town) (h0 : m0 ≠ .town) (r : RepO K mg F (upd H p o) (mup M p m) p m) : Wd K mg F (upd H p o) (mup M p m) := by
  obtain ⟨f0, _⟩ := w.mu p m0 hp
  refine ⟨fun a x e => ?_, fun a x e => ?_, fun a m' e => ?_⟩
  · have h : a ≠ p := fun z => by rw [z, f0] at e; cases e
    rw [upd_ne h]; exact w.sub a x e
  · obtain ⟨q1, q2, q3⟩ := w.un a x e
    have h : a ≠ p := fun z => by rw [z, hp] at q3; cases q3
    exact ⟨by rw [upd_ne h]; exact q1, q2, by rw [mup_ne h]; exact q3⟩
  · by_cases h : a = p
    · subst h; rw [mup_same] at e; cases e; exact ⟨f0, r⟩
    · rw [mup_ne h] at e
      obtain ⟨q, r'⟩ := w.mu a m' e
      refine ⟨q, r'.stay (Same.refl _) (upd_ne h) (fun c ⟨x, hx⟩ hf hu hmc => ?_) fun t z => ?_⟩
      · have hc : c ≠ p := fun z => by rw [z, hp] at hmc; cases hmc
        exact ⟨upd_ne hc, hf, hu, by rw [mup_ne hc]; exact hmc⟩
      · by_cases ht : t = p
        · subst ht; rw [mup_same] at z; cases z; exact absurd rfl hm
        · rw [mup_ne ht] at z; exact z
/-- a changing list is frozen -/
theorem Wd.freeze {M : Mh} {p : Addr} {ds : List D} (w : Wd K mg F H M) (hp : M p = some (.lst ds)) : ∃ F', Le F F' ∧ Wd K mg F' H (mdel M p) ∧ Rep K mg F' (.ref p) (.lst ds) := by
  obtain ⟨f0, vs, e, l, q⟩ := w.mu p _ hp
  have s : Le F (F.up p (.lst vs)) := ⟨same_upd f0, rfl⟩
  refine ⟨F.up p (.lst vs), s, ⟨fun a x z => ?_, fun a x z => ?_, fun a m z => ?_⟩, .lst upd_same l (q.mono s)⟩
  · have z : upd F.f p (.lst vs) a = some x := z
    by_cases h : a = p
    · subst h; rw [upd_same] at z; rw [← z]; exact e
    · rw [upd_ne h] at z; exact w.sub a x z
  · obtain ⟨q1, q2, q3⟩ := w.un a x z
    have h : a ≠ p := fun y => by rw [y, hp] at q3; cases q3
    exact ⟨q1, (upd_ne h).trans q2, by rw [mdel_ne h]; exact q3⟩
  · have h : a ≠ p := fun y => by rw [y, mdel_same] at z; cases z
    rw [mdel_ne h] at z
    obtain ⟨f1, r⟩ := w.mu a m z
    refine ⟨(upd_ne h).trans f1, r.stay (F' := F.up p (.lst vs)) s.f rfl (fun c _ hf hu hm => ?_) fun t y => ?_⟩
    · have hc : c ≠ p := fun y => by rw [y, hp] at hm; cases hm
      exact ⟨rfl, (upd_ne hc).trans hf, hu, by rw [mdel_ne hc]; exact hm⟩
    · have ht : t ≠ p := fun x => by rw [x, mdel_same] at y; cases y
      rw [mdel_ne ht] at y; exact y
/-- things are forgotten -/
theorem Wd.drop {M M' : Mh} (w : Wd K mg F H M) (h : ∀ a m, M' a = some m → M a = some m) : Wd K mg F H M' := by
  have nn : ∀ c, M c = none → M' c = none := fun c hm => by
    cases q : M' c with
    | none => rfl
    | some x => rw [h c x q] at hm; cases hm
  refine ⟨w.sub, fun a x e => let ⟨q1, q2, q3⟩ := w.un a x e; ⟨q1, q2, nn a q3⟩, fun a m e => ?_⟩
  obtain ⟨f, r⟩ := w.mu a m (h a m e)
  exact ⟨f, r.stay (Same.refl _) rfl (fun c _ hf hu hm => ⟨rfl, hf, hu, nn c hm⟩) fun t z => h t _ z⟩
/-- a thing of no one is put among the untouched -/
theorem Wd.hide {M : Mh} {a : Addr} {o : HO} (w : Wd K mg F H M) (h : H a = none) : Wd K mg ⟨F.f, upd F.u a o⟩ (upd H a o) M := by
  obtain ⟨m0, f0, u0⟩ := w.free h
  refine ⟨fun b x e => ?_, fun b x e => ?_, fun b m e => ?_⟩
  · have hb : b ≠ a := ne_of_none (w.sub b x e) h
    rw [upd_ne hb]; exact w.sub b x e
  · have e : upd F.u a o b = some x := e
    by_cases hb : b = a
    · subst hb; rw [upd_same] at e ⊢; exact ⟨e, f0, m0⟩
    · rw [upd_ne hb] at e ⊢; exact w.un b x e
  · have hb : b ≠ a := ne_of_m e m0
    obtain ⟨q, r⟩ := w.mu b m e
    refine ⟨q, r.stay (F := F) (F' := ⟨F.f, upd F.u a o⟩) (Same.refl _) (upd_ne hb) (fun c ⟨x, hx⟩ hf hu hm => ?_) fun _ z => z⟩
    have hc : c ≠ a := ne_of_none hx h
    exact ⟨upd_ne hc, hf, (upd_ne hc).trans hu, hm⟩
/-- .. and changed by its holder -/
theorem Wd.rehide {M : Mh} {a : Addr} {o o' : HO} (w : Wd K mg F H M) (h : F.u a = some o') : Wd K mg ⟨F.f, upd F.u a o⟩ (upd H a o) M := by
  obtain ⟨h0, f0, m0⟩ := w.un a o' h
  refine ⟨fun b x e => ?_, fun b x e => ?_, fun b m e => ?_⟩
  · have hb : b ≠ a := fun z => by rw [z, f0] at e; cases e
    rw [upd_ne hb]; exact w.sub b x e
  · have e : upd F.u a o b = some x := e
    by_cases hb : b = a
    · subst hb; rw [upd_same] at e ⊢; exact ⟨e, f0, m0⟩
    · rw [upd_ne hb] at e ⊢; exact w.un b x e
  · have hb : b ≠ a := ne_of_m e m0
    obtain ⟨q, r⟩ := w.mu b m e
    refine ⟨q, r.stay (F := F) (F' := ⟨F.f, upd F.u a o⟩) (Same.refl _) (upd_ne hb) (fun c ⟨x, hx⟩ hf hu hm => ?_) fun _ z => z⟩
    have hc : c ≠ a := fun z => by rw [z, h] at hu; cases hu
    exact ⟨upd_ne hc, hf, (upd_ne hc).trans hu, hm⟩
/-- fewer untouched ones -/
theorem Wd.less {M : Mh} {u : Hp} (w : Wd K mg F H M) (h : Same u F.u) : Wd K mg ⟨F.f, u⟩ H M := by
  refine ⟨w.sub, fun a o e => w.un a o (h a o e), fun b m e => ?_⟩
  obtain ⟨q, r⟩ := w.mu b m e
  refine ⟨q, r.stay (F := F) (F' := ⟨F.f, u⟩) (Same.refl _) rfl (fun c _ hf hu hm => ⟨rfl, hf, h.free hu, hm⟩) fun _ z => z⟩

abbrev QZ := D → Mh → Prop
abbrev ZE := Env → Mh → QZ → Prop
abbrev ZT := Env → Mh → (Bool → Mh → Prop) → Prop
abbrev ZA := Env → Mh → (List D → Mh → Prop) → Prop
structure ZEnds where
  nx : Env → Mh → Prop
  rt : QZ
  bk : Env → Mh → Prop := fun _ _ => False
  ct : Env → Mh → Prop := fun _ _ => False
abbrev ZS := ZEnds → Env → Mh → Prop
abbrev ZG := D → Env → Mh → (Env → Mh → Prop) → Prop
/-- an exception: its class's name, its fields -/
abbrev ZX := Str → List (Str × D) → Mh → Prop
abbrev ZW := Str → List (Str × D) → Env → Mh → Prop
abbrev ZSp := List D → Mh → QZ → ZX → Prop

/-- what is wanted of a value -/
def Kq (K : PySem.W.Frag) (mg : Str → Option Value) (F : Fz) (R : QZ) (Q : VK) : Prop := ∀ d M', R d M' → ∀ F' H' v, Le F F' → Wd K mg F' H' M' → Rep K mg F' v d → Q v H'
def upE (K : PySem.W.Frag) (mg : Str → Option Value) (F0 : Fz) (f : ZE) : TE := fun s H Q => ∃ (F : Fz) (r : Env) (M : Mh) (R : QZ), Ge F0 F ∧ Wd K mg F H M ∧ RepE K mg F s r ∧ f r M R ∧ Kq K mg F R Q
def upT (K : PySem.W.Frag) (mg : Str → Option Value) (F0 : Fz) (f : ZT) : TT := fun s H Q => ∃ (F : Fz) (r : Env) (M : Mh) (R : Bool → Mh → Prop), Ge F0 F ∧ Wd K mg F H M ∧ RepE K mg F s r ∧ f r M R ∧
  ∀ b M', R b M' → ∀ F' H', Le F F' → Wd K mg F' H' M' → Q b H'
def upA (K : PySem.W.Frag) (mg : Str → Option Value) (F0 : Fz) (f : ZA) : TA := fun s H Q => ∃ (F : Fz) (r : Env) (M : Mh) (R : List D → Mh → Prop), Ge F0 F ∧ Wd K mg F H M ∧ RepE K mg F s r ∧ f r M R ∧
  ∀ ds M', R ds M' → ∀ F' H' vs, Le F F' → Wd K mg F' H' M' → RepL K mg F' vs ds → Q vs H'
/-- what follows in a state -/
def Kn (K : PySem.W.Frag) (mg : Str → Option Value) (F : Fz) (R : Env → Mh → Prop) (Q : St → Hp → Prop) : Prop := ∀ r M, R r M → ∀ F' s H', Le F F' → Wd K mg F' H' M → RepE K mg F' s r → Q s H'
structure Ks (K : PySem.W.Frag) (mg : Str → Option Value) (F : Fz) (Z : ZEnds) (D : Ends) : Prop where
  nx : Kn K mg F Z.nx D.nx
  rt : Kq K mg F Z.rt D.rt
  bk : Kn K mg F Z.bk D.bk
  ct : Kn K mg F Z.ct D.ct
def upS (K : PySem.W.Frag) (mg : Str → Option Value) (F0 : Fz) (f : ZS) : TS := fun D s H => ∃ (F : Fz) (r : Env) (M : Mh) (Z : ZEnds), Ge F0 F ∧ Wd K mg F H M ∧ RepE K mg F s r ∧ f Z r M ∧ Ks K mg F Z D
def upG (K : PySem.W.Frag) (mg : Str → Option Value) (F0 : Fz) (g : ZG) : TG := fun v s H Q => ∃ (F : Fz) (r : Env) (M : Mh) (d : D) (R : Env → Mh → Prop), Ge F0 F ∧ Wd K mg F H M ∧ RepE K mg F s r ∧ Rep K mg F v d ∧ g d r M R ∧ Kn K mg F R Q
theorem Kq.mono {R : QZ} {Q : VK} (e : Le F F') (k : Kq K mg F R Q) : Kq K mg F' R Q := fun d M' h G H' v s w r => k d M' h G H' v (e.trans s) w r
theorem Kn.mono {R : Env → Mh → Prop} {Q : St → Hp → Prop} (e : Le F F') (k : Kn K mg F R Q) : Kn K mg F' R Q := fun d M' h G s' H' s w r => k d M' h G s' H' (e.trans s) w r
theorem Ks.mono {Z : ZEnds} {E : Ends} (e : Le F F') (k : Ks K mg F Z E) : Ks K mg F' Z E := ⟨k.nx.mono e, k.rt.mono e, k.bk.mono e, k.ct.mono e⟩

/-! ### judgements weakened -/
end
section
variable {X : Cx} {e : Expr}
theorem pe_imp {t t' : TE} (h : PE X e t) (i : ∀ s H Q, t' s H Q → t s H Q) : PE X e t' := ⟨fun pins s r H Q I q => h.run pins s r H Q I (i _ _ _ q)⟩
theorem pt_imp {t t' : TT} (h : PT X e t) (i : ∀ s H Q, t' s H Q → t s H Q) : PT X e t' := ⟨fun pins s r H Q I q => h.run pins s r H Q I (i _ _ _ q)⟩
theorem pw_imp {t t' : TT} (h : PW X e t) (i : ∀ s H Q, t' s H Q → t s H Q) : PW X e t' := ⟨fun w pins s r H Q I q => h.run w pins s r H Q I (i _ _ _ q)⟩
theorem pa_imp {es : List Expr} {t t' : TA} (h : PA X es t) (i : ∀ s H Q, t' s H Q → t s H Q) : PA X es t' := ⟨fun p pins s r H Q I q => h.run p pins s r H Q I (i _ _ _ q)⟩
theorem ps_imp {st : Stmt} {t t' : TS} (h : PS X st t) (i : ∀ E s H, t' E s H → t E s H) : PS X st t' := ⟨fun pins s r H E I q => h.run pins s r H E I (i _ _ _ q)⟩
theorem pss_imp {st : List Stmt} {t t' : TS} (h : PSs X st t) (i : ∀ E s H, t' E s H → t E s H) : PSs X st t' := ⟨fun pins s r H E I q => h.run pins s r H E I (i _ _ _ q)⟩
theorem pg_imp {t t' : TG} (h : PG X e t) (i : ∀ v s H Q, t' v s H Q → t v s H Q) : PG X e t' := ⟨fun pins s r H v u Q I rv q => h.run pins s r H v u Q I rv (i _ _ _ _ q)⟩
end
end Zl

/-! Zl2: expressions -/
namespace Zl
open PySem L2

/-! ### readings -/
/-- by a truth value -/
def bsel (b : Bool) (t u : Prop) : Prop := match b with | true => t | false => u
def onBl (d : D) (k : Bool → Prop) : Prop := match d with | .bl b => k b | _ => False
def onInt (d : D) (k : Int → Prop) : Prop := match d with | .int i => k i | _ => False
def zVar (i : Nat) : ZE := fun r M Q => match gt r i with | some d => Q d M | none => False
def zC (d : D) : ZE := fun _ M Q => Q d M
def z2 (f : D → D → Mh → QZ → Prop) (a b : ZE) : ZE := fun r M Q => a r M fun x M1 => b r M1 fun y M2 => f x y M2 Q
def z1 (f : D → Mh → QZ → Prop) (a : ZE) : ZE := fun r M Q => a r M fun x M1 => f x M1 Q
/-- the items of a list, frozen or changing -/
def zL (M : Mh) (d : D) (k : List D → Prop) : Prop := match d with
  | .lst ds => k ds
  | .ref p => (match M p with | some (.lst ds) => k ds | _ => False)
  | _ => False
/-- .. or of a tuple -/
def zLT (M : Mh) (d : D) (k : List D → Prop) : Prop := match d with
  | .tup ds => k ds
  | .lst ds => k ds
  | .ref p => (match M p with | some (.lst ds) => k ds | _ => False)
  | _ => False
@[simp] theorem zL_lst (M : Mh) (ds : List D) (k : List D → Prop) : zL M (.lst ds) k = k ds := rfl
theorem zL_ref {M : Mh} {p : Addr} {ds : List D} {k : List D → Prop} (h : M p = some (.lst ds)) : zL M (.ref p) k = k ds := by
  show (match M p with | some (.lst ds) => k ds | _ => False) = k ds
  rw [h]
@[simp] theorem zLT_lst (M : Mh) (ds : List D) (k : List D → Prop) : zLT M (.lst ds) k = k ds := rfl
@[simp] theorem zLT_tup (M : Mh) (ds : List D) (k : List D → Prop) : zLT M (.tup ds) k = k ds := rfl
theorem zLT_ref {M : Mh} {p : Addr} {ds : List D} {k : List D → Prop} (h : M p = some (.lst ds)) : zLT M (.ref p) k = k ds := by
  show (match M p with | some (.lst ds) => k ds | _ => False) = k ds
  rw [h]
/-- a new list: b tells whether it may change -/
def zNew (b : Bool) (ds : List D) (M : Mh) (Q : QZ) : Prop := match b with
  | true => ∀ p, M p = none → Q (.ref p) (mup M p (.lst ds))
  | false => Q (.lst ds) M
@[simp] theorem zNew_f (ds : List D) (M : Mh) (Q : QZ) : zNew false ds M Q = Q (.lst ds) M := rfl
@[simp] theorem zNew_t (ds : List D) (M : Mh) (Q : QZ) : zNew true ds M Q = ∀ p, M p = none → Q (.ref p) (mup M p (.lst ds)) := rfl

def dAdd (b : Bool) (x y : D) (M : Mh) (Q : QZ) : Prop := match x, y with
  | .int i, .int j => Q (.int (i + j)) M
  | .str s, .str t => s.length + t.length ≤ sizeLine ∧ Q (.str (s ++ t)) M
  | .lst xs, y => zL M y fun ys => xs.length + ys.length ≤ sizeLine ∧ zNew b (xs ++ ys) M Q
  | .ref p, y => zL M (.ref p) fun xs => zL M y fun ys => xs.length + ys.length ≤ sizeLine ∧ zNew b (xs ++ ys) M Q
  | _, _ => False
def dSub (x y : D) (M : Mh) (Q : QZ) : Prop := match x, y with
  | .int i, .int j => Q (.int (i - j)) M
  | _, _ => False
def dMul (b : Bool) (x y : D) (M : Mh) (Q : QZ) : Prop := match x, y with
  | .int i, .int j => CMul i j ∧ Q (.int (i * j)) M
  | .lst xs, .int k => -(2 ^ 63) ≤ k ∧ k < 2 ^ 63 ∧ xs.length * k.toNat ≤ sizeLine ∧ zNew b (List.replicate k.toNat xs).flatten M Q
  | .ref p, .int k => zL M (.ref p) fun xs => -(2 ^ 63) ≤ k ∧ k < 2 ^ 63 ∧ xs.length * k.toNat ≤ sizeLine ∧ zNew b (List.replicate k.toNat xs).flatten M Q
  | _, _ => False
def dDiv (x y : D) (M : Mh) (Q : QZ) : Prop := match x, y with
  | .int i, .int j => CDiv i j ∧ Q (.int (i / j)) M
  | _, _ => False
def dMod (x y : D) (M : Mh) (Q : QZ) : Prop := match x, y with
  | .int i, .int j => 0 < j ∧ Q (.int (i % j)) M
  | _, _ => False
def dPow (x y : D) (M : Mh) (Q : QZ) : Prop := match x, y with
  | .int i, .int j => CPow i j ∧ Q (.int (i ^ j.toNat)) M
  | _, _ => False
def dShr (x y : D) (M : Mh) (Q : QZ) : Prop := match x, y with
  | .int i, .int j => 0 ≤ j ∧ Q (.int (i / 2 ^ j.toNat)) M
  | _, _ => False
def dAnd (x y : D) (M : Mh) (Q : QZ) : Prop := match x, y with
  | .int i, .int j => Q (.int (Builtin.bitAnd i j)) M
  | _, _ => False
def dXor (x y : D) (M : Mh) (Q : QZ) : Prop := match x, y with
  | .int i, .int j => Q (.int (Builtin.bitXor i j)) M
  | _, _ => False
def dNeg (x : D) (M : Mh) (Q : QZ) : Prop := match x with
  | .int i => Q (.int (-i)) M
  | _ => False
def dCmp (p : Int → Int → Bool) (x y : D) (M : Mh) (Q : QZ) : Prop := match x, y with
  | .int i, .int j => Q (.bl (p i j)) M
  | _, _ => False
def pLt (i j : Int) : Bool := decide (i < j)
def pLe (i j : Int) : Bool := decide (i ≤ j)
def pGt (i j : Int) : Bool := decide (j < i)
def pGe (i j : Int) : Bool := decide (j ≤ i)

/-! ### equality of data -/
mutual
def toP : D → PyData
  | .non => .none
  | .bl b => .bool b
  | .int i => .int i
  | .str x => .str x
  | .lst ds => .list (toPs ds)
  | .tup ds => .tuple (toPs ds)
  | .dct => .none
  | .exc _ => .none
  | .scr _ => .none
  | .ref _ => .none
def toPs : List D → List PyData
  | [] => []
  | d :: r => toP d :: toPs r
end
mutual
/-- data through and through -/
def plain : D → Bool
  | .non | .bl _ | .int _ | .str _ => true
  | .lst ds => plains ds
  | .tup ds => plains ds
  | _ => false
def plains : List D → Bool
  | [] => true
  | d :: r => plain d && plains r
end
def eqD (x y : D) : Bool := PyData.eqv (toP x) (toP y)
def eqDs (x y : List D) : Bool := PyData.eqvAll (toPs x) (toPs y)
def dep (x : D) : Nat := (toP x).depth
mutual
/-- things as data: lists that may change, as they stand -/
inductive Rs (M : Mh) : D → D → Prop
  | refl (d : D) : Rs M d d
  | ref {p : Addr} {ds es : List D} : M p = some (.lst ds) → RsL M ds es → Rs M (.ref p) (.lst es)
  | lst {ds es : List D} : RsL M ds es → Rs M (.lst ds) (.lst es)
  | tup {ds es : List D} : RsL M ds es → Rs M (.tup ds) (.tup es)
inductive RsL (M : Mh) : List D → List D → Prop
  | nil : RsL M [] []
  | cons {d e : D} {ds es : List D} : Rs M d e → RsL M ds es → RsL M (d :: ds) (e :: es)
end
theorem RsL.refl (M : Mh) : ∀ ds : List D, RsL M ds ds
  | [] => .nil
  | d :: r => .cons (.refl d) (RsL.refl M r)
def zP (M : Mh) (d : D) (k : D → Prop) : Prop := ∃ e, Rs M d e ∧ k e
def dEq (x y : D) (M : Mh) (Q : QZ) : Prop := zP M x fun x => zP M y fun y => plain x = true ∧ plain y = true ∧ (dep x ≤ 64 ∨ dep y ≤ 64) ∧ Q (.bl (eqD x y)) M
def dNe (x y : D) (M : Mh) (Q : QZ) : Prop := zP M x fun x => zP M y fun y => plain x = true ∧ plain y = true ∧ (dep x ≤ 64 ∨ dep y ≤ 64) ∧ Q (.bl (!eqD x y)) M

section
variable {K : PySem.W.Frag} {mg : Str → Option Value} {F F0 : Fz} {H : Hp} {M : Mh}
mutual
theorem Rep.dp (w : Same F.f H) : ∀ {v : V} {d : D}, plain d = true → Rep K mg F v d → Dp K H v (toP d)
  | _, _, _, .non => .non
  | _, _, _, .bl b => .bl b
  | _, _, _, .int i => .int i
  | _, _, _, .str _ _ => .str _
  | _, _, p, .lst h _ r => .lst (SqL.of (w _ _ h)) (RepL.dp w p r)
  | _, _, p, .tup h _ r => .tup (same_sqT w h) (RepL.dp w p r)
  | _, _, p, .dct _ => absurd (show false = true from p) Bool.false_ne_true
  | _, _, p, .exc _ _ _ => absurd (show false = true from p) Bool.false_ne_true
  | _, _, p, .scr _ _ => absurd (show false = true from p) Bool.false_ne_true
  | _, _, p, .ref _ => absurd (show false = true from p) Bool.false_ne_true
theorem RepL.dp (w : Same F.f H) : ∀ {vs : List V} {ds : List D}, plains ds = true → RepL K mg F vs ds → DpAll K H vs (toPs ds)
  | _, _, _, .nil => .nil
  | _, _, p, .cons h t => by
    have q := Bool.and_eq_true_iff.mp (show (plain _ && plains _) = true from p)
    exact .cons (Rep.dp w q.1 h) (RepL.dp w q.2 t)
end
mutual
theorem Rep.lay : ∀ {v : V} {d : D}, Rep K mg F v d → (toP d).canLay0 = true
  | _, _, .non => by simp [toP, PyData.canLay0]
  | _, _, .bl b => by simp [toP, PyData.canLay0]
  | _, _, .int i => by simp [toP, PyData.canLay0]
  | _, _, .str h _ => by simpa [toP, PyData.canLay0] using h
  | _, _, .lst _ _ r => by simpa [toP, PyData.canLay0] using RepL.lay r
  | _, _, .tup _ _ r => by simpa [toP, PyData.canLay0] using RepL.lay r
  | _, _, .dct _ => by simp [toP, PyData.canLay0]
  | _, _, .exc _ _ _ => by simp [toP, PyData.canLay0]
  | _, _, .scr _ _ => by simp [toP, PyData.canLay0]
  | _, _, .ref a => by simp [toP, PyData.canLay0]
theorem RepL.lay : ∀ {vs : List V} {ds : List D}, RepL K mg F vs ds → PyData.canLayAll0 (toPs ds) = true
  | _, _, .nil => by simp [toPs, PyData.canLayAll0]
  | _, _, .cons h t => by
    have a := Rep.lay h
    have b := RepL.lay t
    simp [toPs, PyData.canLayAll0, a, b]
end
theorem Wd.same (w : Wd K mg F H M) : Same F.f H := fun a o e => w.sub a o e
mutual
theorem Rs.dp (w : Wd K mg F H M) : ∀ {v : V} {d e : D}, Rs M d e → Rep K mg F v d → (plain e = true → Dp K H v (toP e)) ∧ (toP e).canLay0 = true
  | _, _, _, .refl d, r => ⟨fun pl => r.dp w.same pl, r.lay⟩
  | _, _, _, .ref e q, r => by
    cases r
    obtain ⟨_, vs, hv, _, q2⟩ := w.mu _ _ e
    obtain ⟨h1, h2⟩ := RsL.dp w q q2
    exact ⟨fun pl => .lst (SqL.of hv) (h1 (by simpa [plain] using pl)), by simpa [toP, PyData.canLay0] using h2⟩
  | _, _, _, .lst q, r => by
    cases r with
    | lst e l q2 =>
      obtain ⟨h1, h2⟩ := RsL.dp w q q2
      exact ⟨fun pl => .lst (SqL.of (w.same _ _ e)) (h1 (by simpa [plain] using pl)), by simpa [toP, PyData.canLay0] using h2⟩
  | _, _, _, .tup q, r => by
    cases r with
    | tup e l q2 =>
      obtain ⟨h1, h2⟩ := RsL.dp w q q2
      exact ⟨fun pl => .tup (same_sqT w.same e) (h1 (by simpa [plain] using pl)), by simpa [toP, PyData.canLay0] using h2⟩
theorem RsL.dp (w : Wd K mg F H M) : ∀ {vs : List V} {ds es : List D}, RsL M ds es → RepL K mg F vs ds → (plains es = true → DpAll K H vs (toPs es)) ∧ PyData.canLayAll0 (toPs es) = true
  | _, _, _, .nil, r => by
    cases r
    exact ⟨fun _ => .nil, by simp [toPs, PyData.canLayAll0]⟩
  | _, _, _, .cons q t, r => by
    cases r with
    | cons h1 h2 =>
      obtain ⟨a1, a2⟩ := Rs.dp w q h1
      obtain ⟨b1, b2⟩ := RsL.dp w t h2
      refine ⟨fun pl => ?_, by simp [toPs, PyData.canLayAll0, a2, b2]⟩
      have pl := Bool.and_eq_true_iff.mp (show (plain _ && plains _) = true from pl)
      exact .cons (a1 pl.1) (b1 pl.2)
end
/-- from a thing to its data -/
theorem zP_out {d : D} {k : D → Prop} {v : V} (w : Wd K mg F H M) (r : Rep K mg F v d) (h : zP M d k) : ∃ d', k d' ∧ (plain d' = true → Dp K H v (toP d')) ∧ (toP d').canLay0 = true := by
  obtain ⟨e, q, h⟩ := h
  obtain ⟨h1, h2⟩ := Rs.dp w q r
  exact ⟨e, h, h1, h2⟩
/-- from a list to its items -/
theorem zL_out {d : D} {k : List D → Prop} {v : V} (w : Wd K mg F H M) (r : Rep K mg F v d) (h : zL M d k) : ∃ a vs ds, v = .ref a ∧ H a = some (.lst vs) ∧ vs.length ≤ sizeLine ∧ RepL K mg F vs ds ∧ k ds := by
  cases d with
  | lst ds =>
    cases r with
    | lst e l q => exact ⟨_, _, ds, rfl, w.sub _ _ e, l, q, h⟩
  | ref p =>
    cases r
    unfold zL at h
    cases e : M p with
    | none => simp [e] at h
    | some m =>
      cases m with
      | lst ds =>
        simp [e] at h
        obtain ⟨_, vs, hv, l, q⟩ := w.mu p _ e
        exact ⟨p, vs, ds, rfl, hv, l, q, h⟩
      | ins c fs => simp [e] at h
      | town => simp [e] at h
  | _ => exact False.elim h
theorem zLT_out {d : D} {k : List D → Prop} {v : V} (w : Wd K mg F H M) (r : Rep K mg F v d) (h : zLT M d k) : ∃ a vs ds, v = .ref a ∧ (SqL K H a vs ∨ SqT K H a vs) ∧ vs.length ≤ sizeLine ∧ RepL K mg F vs ds ∧ k ds := by
  cases d with
  | tup ds =>
    cases r with
    | tup e l q => exact ⟨_, _, ds, rfl, .inr (same_sqT w.same e), l, q, h⟩
  | lst ds =>
    obtain ⟨a, vs, es, e, h1, h2, h3, h4⟩ := zL_out (d := .lst ds) (k := k) w r h
    exact ⟨a, vs, es, e, .inl (SqL.of h1), h2, h3, h4⟩
  | ref p =>
    obtain ⟨a, vs, es, e, h1, h2, h3, h4⟩ := zL_out (d := .ref p) (k := k) w r h
    exact ⟨a, vs, es, e, .inl (SqL.of h1), h2, h3, h4⟩
  | _ => exact False.elim h
/-- a new list -/
theorem zNew_out {b : Bool} {vs : List V} {ds : List D} {R : QZ} {Q : VK} (w : Wd K mg F H M) (l : vs.length ≤ sizeLine) (q : RepL K mg F vs ds) (h : zNew b ds M R) (k : Kq K mg F R Q) : ∀ p, H p = none → Q (.ref p) (upd H p (.lst vs)) := by
  intro p hp
  obtain ⟨m0, f0, u0⟩ := w.free hp
  cases b with
  | false =>
    obtain ⟨s, w'⟩ := w.laidF (o := .lst vs) hp
    exact k _ _ h _ _ _ s w' (.lst upd_same l (q.mono s))
  | true =>
    refine k _ _ (h p m0) F _ _ (Le.refl F) (w.laidM hp (by intro z; cases z) ⟨vs, upd_same, l, q⟩) (.ref p)
theorem zTup_out {vs : List V} {ds : List D} {R : QZ} {Q : VK} (w : Wd K mg F H M) (l : vs.length ≤ sizeLine) (q : RepL K mg F vs ds) (h : R (.tup ds) M) (k : Kq K mg F R Q) : ∀ p, H p = none → Q (.ref p) (upd H p (.tup vs)) := by
  intro p hp
  obtain ⟨s, w'⟩ := w.laidF (o := .tup vs) hp
  exact k _ _ h _ _ _ s w' (.tup (SqT.of upd_same) l (q.mono s))
end

/-! ### lifting -/
/-- a two-place operation's soundness -/
def Snd2 (K : PySem.W.Frag) (mg : Str → Option Value) (r : R2) (f : D → D → Mh → QZ → Prop) : Prop := ∀ (F : Fz) (H : Hp) (M : Mh) (x y : V) (a b : D) (Q : VK) (R : QZ), Wd K mg F H M → Rep K mg F x a → Rep K mg F y b → f a b M R → Kq K mg F R Q → r x y H Q
def Snd1 (K : PySem.W.Frag) (mg : Str → Option Value) (r : V → Hp → VK → Prop) (f : D → Mh → QZ → Prop) : Prop := ∀ (F : Fz) (H : Hp) (M : Mh) (x : V) (a : D) (Q : VK) (R : QZ), Wd K mg F H M → Rep K mg F x a → f a M R → Kq K mg F R Q → r x H Q
/-- .. of a call by values -/
def SndA (K : PySem.W.Frag) (mg : Str → Option Value) (r : List V → Hp → VK → Prop) (f : List D → Mh → QZ → Prop) : Prop := ∀ (F : Fz) (H : Hp) (M : Mh) (xs : List V) (ds : List D) (Q : VK) (R : QZ), Wd K mg F H M → RepL K mg F xs ds → f ds M R → Kq K mg F R Q → r xs H Q
section
variable {X : Cx} {F0 : Fz}
abbrev UE (X : Cx) (F0 : Fz) (f : ZE) : TE := upE X.K X.mg F0 f
abbrev UT (X : Cx) (F0 : Fz) (f : ZT) : TT := upT X.K X.mg F0 f
abbrev UA (X : Cx) (F0 : Fz) (f : ZA) : TA := upA X.K X.mg F0 f
abbrev US (X : Cx) (F0 : Fz) (f : ZS) : TS := upS X.K X.mg F0 f
abbrev UG (X : Cx) (F0 : Fz) (f : ZG) : TG := upG X.K X.mg F0 f
theorem up2 {K : PySem.W.Frag} {mg : Str → Option Value} {fa fb : ZE} {r : R2} {f : D → D → Mh → QZ → Prop} (s2 : Snd2 K mg r f) {s : St} {H : Hp} {Q : VK} (h : upE K mg F0 (z2 f fa fb) s H Q) : tOp r (upE K mg F0 fa) (upE K mg F0 fb) s H Q := by
  obtain ⟨F, rr, M, R, s0, w, e, h, k⟩ := h
  refine ⟨F, rr, M, _, s0, w, e, h, fun x M1 h1 F1 H1 v s1 w1 r1 => ⟨F1, rr, M1, _, s0.trans s1, w1, e.mono s1, h1, fun y M2 h2 F2 H2 u s3 w2 r2 => ?_⟩⟩
  exact s2 F2 H2 M2 v u x y Q R w2 (r1.mono s3) r2 h2 (k.mono (s1.trans s3))
theorem ze_op {a b : Expr} {op : Operator} {pos : Pos} {fa fb : ZE} {r : R2} {f : D → D → Mh → QZ → Prop} (ho : OpR X (binaryOp op) r) (s2 : Snd2 X.K X.mg r f) (ha : PE X a (UE X F0 fa)) (hb : PE X b (UE X F0 fb)) :
    PE X (.BinOp a op b pos) (UE X F0 (z2 f fa fb)) := pe_imp (pe_op ho ha hb) fun _ _ _ h => up2 s2 h
theorem ze_un {a : Expr} {op : UnaryOp} {pos : Pos} {fa : ZE} {r : V → Hp → VK → Prop} {f : D → Mh → QZ → Prop} (ho : UnR X (unaryOp op) r) (s1 : Snd1 X.K X.mg r f) (ha : PE X a (UE X F0 fa)) : PE X (.UnaryOp op a pos) (UE X F0 (z1 f fa)) := by
  refine pe_imp (pe_un ho ha) fun s H Q h => ?_
  obtain ⟨F, rr, M, R, s0, w, e, h, k⟩ := h
  exact ⟨F, rr, M, _, s0, w, e, h, fun x M1 h1 F1 H1 v s2 w1 r1 => s1 F1 H1 M1 v x Q R w1 r1 h1 (k.mono s2)⟩
theorem ze_cmp {a b : Expr} {op : CmpOp} {pos : Pos} {fa fb : ZE} {r : R2} {f : D → D → Mh → QZ → Prop} (ho : OpR X (compareOp op) r) (s2 : Snd2 X.K X.mg r f) (ha : PE X a (UE X F0 fa)) (hb : PE X b (UE X F0 fb)) (hm : behindInMarks op b = false) :
    PE X (.Compare a [op] [b] pos) (UE X F0 (z2 f fa fb)) := pe_imp (pe_cmpR ho ha hb hm) fun _ _ _ h => up2 s2 h
/-- a bool as a test -/
def zB (t : ZE) : ZT := fun r M Q => t r M fun d M1 => onBl d fun b => Q b M1
theorem upB {K : PySem.W.Frag} {mg : Str → Option Value} {f : ZE} {s : St} {H : Hp} {Q : Bool → Hp → Prop} (h : upT K mg F0 (zB f) s H Q) : upE K mg F0 f s H fun x H' => ∃ k, x = .bl k ∧ Q k H' := by
  obtain ⟨F, rr, M, R, s0, w, e, h, k⟩ := h
  refine ⟨F, rr, M, _, s0, w, e, h, fun x M1 h1 F1 H1 v s2 w1 r1 => ?_⟩
  cases x with
  | bl b => cases r1; exact ⟨b, rfl, k b M1 h1 F1 H1 s2 w1⟩
  | _ => exact False.elim h1
theorem zt_cmp {a b : Expr} {op : CmpOp} {pos : Pos} {fa fb : ZE} {r : R2} {f : D → D → Mh → QZ → Prop} (ho : OpR X (compareOp op) r) (s2 : Snd2 X.K X.mg r f) (ha : PE X a (UE X F0 fa)) (hb : PE X b (UE X F0 fb)) (hm : behindInMarks op b = false) :
    PT X (.Compare a [op] [b] pos) (UT X F0 (zB (z2 f fa fb))) := pt_imp (pt_cmpR ho ha hb hm) fun s H Q h => by
  have q := upB h
  exact up2 s2 q
theorem zt_val {a : Expr} {fa : ZE} (ha : PE X a (UE X F0 fa)) (he : ∀ whole, isTrue a X.env whole = (do let v ← whole; standAt a.pos; holding [v] (truthy v)) := by intro _; rfl) : PT X a (UT X F0 (zB fa)) :=
  pt_imp (pt_val ha he) fun s H Q h => upB h
/-! names, constants -/
theorem ze_var (i : Nat) {x : Str} {pos : Pos} (hN : X.N[i]? = some x := by rfl) (hv : Vis X.env.scope x := by first | exact Or.inl rfl | exact Or.inr (Or.inl rfl) | exact Or.inr (Or.inr rfl)) (hd : (x == ("__debug__" : Str)) = false := by decide)
    (hcd : (x == ("__classdict__" : Str)) = false := by decide) : PE X (.Name x pos) (UE X F0 (zVar i)) := by
  refine pe_imp (pe_var hN hv hd hcd) fun s H Q h => ?_
  obtain ⟨F, rr, M, R, s0, w, e, h, k⟩ := h
  unfold zVar at h
  cases q : gt rr i with
  | none => simp [q] at h
  | some d =>
    simp [q] at h
    obtain ⟨v, h1, h2⟩ := e.2 i d q
    exact ⟨v, h1, k d M h F H v (Le.refl F) w h2⟩
theorem up_c {K : PySem.W.Frag} {mg : Str → Option Value} {v : V} {d : D} (hr : ∀ F, Rep K mg F v d) {s : St} {H : Hp} {Q : VK} (h : upE K mg F0 (zC d) s H Q) : Q v H := by
  obtain ⟨F, rr, M, R, s0, w, e, h, k⟩ := h
  exact k d M h F H v (Le.refl F) w (hr F)
theorem ze_int {i : Int} {j : Nat} {pos : Pos} : PE X (.Constant (.int i) j pos) (UE X F0 (zC (.int i))) := pe_imp pe_int fun _ _ _ h => up_c (fun _ => .int i) h
theorem ze_bl {b : Bool} {j : Nat} {pos : Pos} : PE X (.Constant (.bool b) j pos) (UE X F0 (zC (.bl b))) := pe_imp pe_bl fun _ _ _ h => up_c (fun _ => .bl b) h
theorem ze_non {j : Nat} {pos : Pos} : PE X (.Constant .none j pos) (UE X F0 (zC .non)) := pe_imp pe_non fun _ _ _ h => up_c (fun _ => .non) h
theorem ze_str {x : Str} {j : Nat} {pos : Pos} (h1 : PyData.strOk x = true := by decide +kernel) (h2 : x.length ≤ sizeLine := by decide +kernel) : PE X (.Constant (.str x) j pos) (UE X F0 (zC (.str x))) := pe_imp pe_str fun _ _ _ h => up_c (fun _ => .str h1 h2) h
theorem ze_glob {x : Str} {v : V} {u : Value} {d : D} {pos : Pos} (hg : Gl X x) (hm : X.mg x = some u) (r : RelV v u) (hr : ∀ F, Rep X.K X.mg F v d) (hd : (x == ("__debug__" : Str)) = false := by decide) : PE X (.Name x pos) (UE X F0 (zC d)) :=
  pe_imp (pe_glob hg hm r hd) fun _ _ _ h => up_c hr h
/-! and, or, not, if -/
def zAnd (t u : ZT) : ZT := fun r M Q => t r M fun b M1 => bsel b (u r M1 Q) (Q false M1)
def zOr (t u : ZT) : ZT := fun r M Q => t r M fun b M1 => bsel b (Q true M1) (u r M1 Q)
def zNot (t : ZT) : ZT := fun r M Q => t r M fun b M1 => Q (!b) M1
def zAndV (a b : ZE) : ZE := fun r M Q => a r M fun d M1 => onBl d fun c => bsel c (b r M1 Q) (Q (.bl false) M1)
def zOrV (a b : ZE) : ZE := fun r M Q => a r M fun d M1 => onBl d fun c => bsel c (Q (.bl true) M1) (b r M1 Q)
def zNotV (a : ZE) : ZE := fun r M Q => a r M fun d M1 => onBl d fun b => Q (.bl (!b)) M1
def zIfE (t : ZT) (a b : ZE) : ZE := fun r M Q => t r M fun c M1 => bsel c (a r M1 Q) (b r M1 Q)
variable {a b c : Expr} {rest : List Expr} {pos : Pos} {fa fb : ZE} {ta tb : ZT}
theorem zw_and1 (ha : PT X a (UT X F0 ta)) : PW X (.BoolOp .And [a] pos) (UT X F0 ta) := pw_and1 ha
theorem zw_or1 (ha : PT X a (UT X F0 ta)) : PW X (.BoolOp .Or [a] pos) (UT X F0 ta) := pw_or1 ha
theorem zw_and (ha : PT X a (UT X F0 ta)) (hb : PW X (.BoolOp .And (b :: rest) pos) (UT X F0 tb)) : PW X (.BoolOp .And (a :: b :: rest) pos) (UT X F0 (zAnd ta tb)) := pw_imp (pw_and ha hb) fun s H Q h => by
  obtain ⟨F, rr, M, R, s0, w, e, h, k⟩ := h
  refine ⟨F, rr, M, _, s0, w, e, h, fun d M1 h1 F1 H1 s2 w1 => ?_⟩
  cases d with
  | true => exact ⟨F1, rr, M1, R, s0.trans s2, w1, e.mono s2, h1, fun b M2 h2 F2 H2 s3 w2 => k b M2 h2 F2 H2 (s2.trans s3) w2⟩
  | false => exact k false M1 h1 F1 H1 s2 w1
theorem zw_or (ha : PT X a (UT X F0 ta)) (hb : PW X (.BoolOp .Or (b :: rest) pos) (UT X F0 tb)) : PW X (.BoolOp .Or (a :: b :: rest) pos) (UT X F0 (zOr ta tb)) := pw_imp (pw_or ha hb) fun s H Q h => by
  obtain ⟨F, rr, M, R, s0, w, e, h, k⟩ := h
  refine ⟨F, rr, M, _, s0, w, e, h, fun d M1 h1 F1 H1 s2 w1 => ?_⟩
  cases d with
  | false => exact ⟨F1, rr, M1, R, s0.trans s2, w1, e.mono s2, h1, fun b M2 h2 F2 H2 s3 w2 => k b M2 h2 F2 H2 (s2.trans s3) w2⟩
  | true => exact k true M1 h1 F1 H1 s2 w1
theorem zt_w (h : PW X a (UT X F0 ta)) : PT X a (UT X F0 ta) := h.pt
theorem zt_not (ha : PT X a (UT X F0 ta)) : PT X (.UnaryOp .Not a pos) (UT X F0 (zNot ta)) := pt_imp (pt_not ha) fun s H Q h => by
  obtain ⟨F, rr, M, R, s0, w, e, h, k⟩ := h
  exact ⟨F, rr, M, _, s0, w, e, h, fun d M1 h1 F1 H1 s2 w1 => k _ M1 h1 F1 H1 s2 w1⟩
theorem ze_one {op : BoolOp} (h : PE X a (UE X F0 fa)) : PE X (.BoolOp op [a] pos) (UE X F0 fa) := pe_one h
theorem ze_and (ha : PE X a (UE X F0 fa)) (hb : PE X (.BoolOp .And (b :: rest) pos) (UE X F0 fb)) : PE X (.BoolOp .And (a :: b :: rest) pos) (UE X F0 (zAndV fa fb)) := pe_imp (pe_and ha hb) fun s H Q h => by
  obtain ⟨F, rr, M, R, s0, w, e, h, k⟩ := h
  refine ⟨F, rr, M, _, s0, w, e, h, fun d M1 h1 F1 H1 v s2 w1 r1 => ?_⟩
  cases d with
  | bl c =>
    cases r1
    refine ⟨c, rfl, ?_⟩
    cases c with
    | true => exact ⟨F1, rr, M1, R, s0.trans s2, w1, e.mono s2, h1, k.mono s2⟩
    | false => exact k _ M1 h1 F1 H1 _ s2 w1 (.bl false)
  | _ => exact False.elim h1
theorem ze_or (ha : PE X a (UE X F0 fa)) (hb : PE X (.BoolOp .Or (b :: rest) pos) (UE X F0 fb)) : PE X (.BoolOp .Or (a :: b :: rest) pos) (UE X F0 (zOrV fa fb)) := pe_imp (pe_or ha hb) fun s H Q h => by
  obtain ⟨F, rr, M, R, s0, w, e, h, k⟩ := h
  refine ⟨F, rr, M, _, s0, w, e, h, fun d M1 h1 F1 H1 v s2 w1 r1 => ?_⟩
  cases d with
  | bl c =>
    cases r1
    refine ⟨c, rfl, ?_⟩
    cases c with
    | false => exact ⟨F1, rr, M1, R, s0.trans s2, w1, e.mono s2, h1, k.mono s2⟩
    | true => exact k _ M1 h1 F1 H1 _ s2 w1 (.bl true)
  | _ => exact False.elim h1
theorem ze_not (ha : PE X a (UE X F0 fa)) : PE X (.UnaryOp .Not a pos) (UE X F0 (zNotV fa)) := pe_imp (pe_not ha) fun s H Q h => by
  obtain ⟨F, rr, M, R, s0, w, e, h, k⟩ := h
  refine ⟨F, rr, M, _, s0, w, e, h, fun d M1 h1 F1 H1 v s2 w1 r1 => ?_⟩
  cases d with
  | bl c => cases r1; exact ⟨c, rfl, k _ M1 h1 F1 H1 _ s2 w1 (.bl _)⟩
  | _ => exact False.elim h1
theorem ze_if (hc : PT X c (UT X F0 ta)) (ha : PE X a (UE X F0 fa)) (hb : PE X b (UE X F0 fb)) : PE X (.IfExp c a b pos) (UE X F0 (zIfE ta fa fb)) := pe_imp (pe_ifExp hc ha hb) fun s H Q h => by
  obtain ⟨F, rr, M, R, s0, w, e, h, k⟩ := h
  refine ⟨F, rr, M, _, s0, w, e, h, fun d M1 h1 F1 H1 s2 w1 => ?_⟩
  cases d with
  | true => exact ⟨F1, rr, M1, R, s0.trans s2, w1, e.mono s2, h1, k.mono s2⟩
  | false => exact ⟨F1, rr, M1, R, s0.trans s2, w1, e.mono s2, h1, k.mono s2⟩
/-! a chain a < b < c -/
def zChain (f g : D → D → Mh → QZ → Prop) (a b c : ZE) : ZE := fun r M Q => a r M fun x M1 => b r M1 fun y M2 => f x y M2 fun z M3 => onBl z fun k => bsel k (c r M3 fun u M4 => g y u M4 Q) (Q (.bl false) M3)
theorem upChain {K : PySem.W.Frag} {mg : Str → Option Value} {fc : ZE} {r r' : R2} {f f' : D → D → Mh → QZ → Prop} (s2 : Snd2 K mg r f) (s2' : Snd2 K mg r' f') {s : St} {H : Hp} {Q : VK} (h : upE K mg F0 (zChain f f' fa fb fc) s H Q) :
    tChain r r' (upE K mg F0 fa) (upE K mg F0 fb) (upE K mg F0 fc) s H Q := by
  obtain ⟨F, rr, M, R, s0, w, e, h, k⟩ := h
  refine ⟨F, rr, M, _, s0, w, e, h, fun x M1 h1 F1 H1 v s1 w1 r1 => ⟨F1, rr, M1, _, s0.trans s1, w1, e.mono s1, h1, fun y M2 h2 F2 H2 u s3 w2 r2 => ?_⟩⟩
  refine s2 F2 H2 M2 v u x y _ _ w2 (r1.mono s3) r2 h2 fun z M3 h3 F3 H3 zv s4 w3 r3 => ?_
  cases z with
  | bl b =>
    cases r3
    refine ⟨b, rfl, ?_⟩
    have s5 := (s1.trans s3).trans s4
    cases b with
    | true =>
      exact ⟨F3, rr, M3, _, s0.trans s5, w3, e.mono s5, h3, fun p M4 h4 F4 H4 q s6 w4 r4 => s2' F4 H4 M4 u q y p Q R w4 (r2.mono (s4.trans s6)) r4 h4 (k.mono (s5.trans s6))⟩
    | false => exact k _ M3 h3 F3 H3 _ s5 w3 (.bl false)
  | _ => exact False.elim h3
theorem ze_chain {op op' : CmpOp} {fc : ZE} {r r' : R2} {f f' : D → D → Mh → QZ → Prop} (ho : OpR X (compareOp op) r) (s2 : Snd2 X.K X.mg r f) (ho' : OpR X (compareOp op') r') (s2' : Snd2 X.K X.mg r' f') (ha : PE X a (UE X F0 fa)) (hb : PE X b (UE X F0 fb)) (hc : PE X c (UE X F0 fc))
    (hm : lastMarks [op, op'] [b, c] = false := by with_unfolding_all rfl) :
    PE X (.Compare a [op, op'] [b, c] pos) (UE X F0 (zChain f f' fa fb fc)) := pe_imp (pe_chain ho ho' ha hb hc (hm := hm)) fun _ _ _ h => upChain s2 s2' h
theorem zt_chain {op op' : CmpOp} {fc : ZE} {r r' : R2} {f f' : D → D → Mh → QZ → Prop} (ho : OpR X (compareOp op) r) (s2 : Snd2 X.K X.mg r f) (ho' : OpR X (compareOp op') r') (s2' : Snd2 X.K X.mg r' f') (ha : PE X a (UE X F0 fa)) (hb : PE X b (UE X F0 fb)) (hc : PE X c (UE X F0 fc))
    (hm : lastMarks [op, op'] [b, c] = false := by with_unfolding_all rfl) :
    PT X (.Compare a [op, op'] [b, c] pos) (UT X F0 (zB (zChain f f' fa fb fc))) := pt_imp (pt_chain ho ho' ha hb hc (hm := hm)) fun s H Q h => by
  have q := upB h
  exact upChain s2 s2' q
/-! argument lists, displays -/
def zNil : ZA := fun _ M Q => Q [] M
def zCons (a : ZE) (t : ZA) : ZA := fun r M Q => a r M fun x M1 => t r M1 fun xs M2 => Q (x :: xs) M2
theorem za_nil : PA X [] (UA X F0 zNil) := pa_imp pa_nil fun s H Q h => by
  obtain ⟨F, rr, M, R, s0, w, e, h, k⟩ := h
  exact k [] M h F H [] (Le.refl F) w .nil
theorem za_cons {es : List Expr} {t : ZA} (ha : PE X a (UE X F0 fa)) (ht : PA X es (UA X F0 t)) (hs : starEach (a :: es) X.env = (false, eval a X.env) :: starEach es X.env := by rfl) : PA X (a :: es) (UA X F0 (zCons fa t)) := pa_imp (pa_cons ha ht hs) fun s H Q h => by
  obtain ⟨F, rr, M, R, s0, w, e, h, k⟩ := h
  refine ⟨F, rr, M, _, s0, w, e, h, fun x M1 h1 F1 H1 v s1 w1 r1 => ⟨F1, rr, M1, _, s0.trans s1, w1, e.mono s1, h1, fun xs M2 h2 F2 H2 vs s3 w2 r2 => ?_⟩⟩
  exact k _ M2 h2 F2 H2 _ (s1.trans s3) w2 (.cons (r1.mono s3) r2)
def zTup (t : ZA) : ZE := fun r M Q => t r M fun ds M1 => ds.length ≤ sizeLine ∧ Q (.tup ds) M1
def zLst (b : Bool) (t : ZA) : ZE := fun r M Q => t r M fun ds M1 => ds.length ≤ sizeLine ∧ zNew b ds M1 Q
theorem ze_tup {es : List Expr} {t : ZA} {x1 : Nat} (h : PA X es (UA X F0 t)) : PE X (.Tuple es x1 pos) (UE X F0 (zTup t)) := pe_imp (pe_tup h) fun s H Q h => by
  obtain ⟨F, rr, M, R, s0, w, e, h, k⟩ := h
  refine ⟨F, rr, M, _, s0, w, e, h, fun ds M1 h1 F1 H1 vs s1 w1 r1 => ?_⟩
  have l : vs.length ≤ sizeLine := by rw [r1.length]; exact h1.1
  exact ⟨l, zTup_out w1 l r1 h1.2 (k.mono s1)⟩
theorem ze_lst (b : Bool) {es : List Expr} {t : ZA} (h : PA X es (UA X F0 t)) : PE X (.List es pos) (UE X F0 (zLst b t)) := pe_imp (pe_lst h) fun s H Q h => by
  obtain ⟨F, rr, M, R, s0, w, e, h, k⟩ := h
  refine ⟨F, rr, M, _, s0, w, e, h, fun ds M1 h1 F1 H1 vs s1 w1 r1 => ?_⟩
  have l : vs.length ≤ sizeLine := by rw [r1.length]; exact h1.1
  exact ⟨l, zNew_out w1 l r1 h1.2 (k.mono s1)⟩
end
end Zl

/-! Zl3: operators, subscripts, statements -/
namespace Zl
open PySem L2
section
variable {K : PySem.W.Frag} {mg : Str → Option Value}
theorem strOk_app {s t : Str} (h : PyData.strOk s = true) (h' : PyData.strOk t = true) : PyData.strOk (s ++ t) = true := by
  unfold PyData.strOk at *
  show (s.cps ++ t.cps).all _ = true
  rw [Array.all_append, h, h']; rfl
theorem len_app (s t : Str) : (s ++ t).length = s.length + t.length := by
  show (s.cps ++ t.cps).size = _
  rw [Array.size_append]; rfl
/-! ### soundness of operators -/
def rAddZ : R2 := fun x y H Q => rI0 (fun i j => .int (i + j)) x y H Q ∨ ((∃ i j, x = .str i ∧ y = .str j ∧ i.length + j.length ≤ sizeLine ∧ Q (.str (i ++ j)) H) ∨ rCat x y H Q)
theorem snd_add (b : Bool) : Snd2 K mg rAddZ (dAdd b) := by
  intro F H M x y p q Q R w rx ry h k
  cases p with
  | int i =>
    cases q with
    | int j => cases rx; cases ry; exact .inl ⟨i, j, rfl, rfl, k _ _ h _ _ _ (Le.refl F) w (.int _)⟩
    | _ => exact False.elim h
  | str i =>
    cases q with
    | str j =>
      cases rx with
      | str a1 a2 =>
        cases ry with
        | str b1 b2 =>
          obtain ⟨h1, h2⟩ := h
          exact .inr (.inl ⟨i, j, rfl, rfl, h1, k _ _ h2 _ _ _ (Le.refl F) w (.str (strOk_app a1 b1) (by rw [len_app]; exact h1))⟩)
    | _ => exact False.elim h
  | lst xs =>
    have h' : zL M q fun ys => xs.length + ys.length ≤ sizeLine ∧ zNew b (xs ++ ys) M R := h
    obtain ⟨a, vs, ds, rfl, e, l, rl, e2⟩ := zL_out (d := .lst xs) (k := fun ds => ds = xs) w rx rfl
    subst e2
    obtain ⟨a', vs', ds', rfl, e', l', rl', h1, h2⟩ := zL_out w ry h'
    refine .inr (.inr ⟨a, a', vs, vs', rfl, rfl, e, e', by rw [rl.length, rl'.length]; exact h1, zNew_out w (by rw [List.length_append, rl.length, rl'.length]; exact h1) (rl.append rl') h2 k⟩)
  | ref pa =>
    have h' : zL M (.ref pa) fun xs => zL M q fun ys => xs.length + ys.length ≤ sizeLine ∧ zNew b (xs ++ ys) M R := h
    obtain ⟨a, vs, ds, rfl, e, l, rl, h'⟩ := zL_out w rx h'
    obtain ⟨a', vs', ds', rfl, e', l', rl', h1, h2⟩ := zL_out w ry h'
    refine .inr (.inr ⟨a, a', vs, vs', rfl, rfl, e, e', by rw [rl.length, rl'.length]; exact h1, zNew_out w (by rw [List.length_append, rl.length, rl'.length]; exact h1) (rl.append rl') h2 k⟩)
  | _ => exact False.elim h
theorem sndI {C : Int → Int → Prop} {g : Int → Int → Int} {f : D → D → Mh → QZ → Prop} (hf : ∀ x y M Q, f x y M Q → ∃ i j, x = .int i ∧ y = .int j ∧ C i j ∧ Q (.int (g i j)) M) : Snd2 K mg (rI C fun i j => .int (g i j)) f := by
  intro F H M x y p q Q R w rx ry h k
  obtain ⟨i, j, rfl, rfl, c, h2⟩ := hf _ _ _ _ h
  cases rx; cases ry
  exact ⟨i, j, rfl, rfl, c, k _ _ h2 _ _ _ (Le.refl F) w (.int _)⟩
theorem sndI0 {g : Int → Int → Int} {f : D → D → Mh → QZ → Prop} (hf : ∀ x y M Q, f x y M Q → ∃ i j, x = .int i ∧ y = .int j ∧ Q (.int (g i j)) M) : Snd2 K mg (rI0 fun i j => .int (g i j)) f := by
  intro F H M x y p q Q R w rx ry h k
  obtain ⟨i, j, rfl, rfl, h2⟩ := hf _ _ _ _ h
  cases rx; cases ry
  exact ⟨i, j, rfl, rfl, k _ _ h2 _ _ _ (Le.refl F) w (.int _)⟩
theorem sndB0 {g : Int → Int → Bool} : Snd2 K mg (rI0 fun i j => .bl (g i j)) (dCmp g) := by
  intro F H M x y p q Q R w rx ry h k
  cases p with
  | int i =>
    cases q with
    | int j => cases rx; cases ry; exact ⟨i, j, rfl, rfl, k _ _ h _ _ _ (Le.refl F) w (.bl _)⟩
    | _ => exact False.elim h
  | _ => exact False.elim h
theorem snd_sub : Snd2 K mg (rI0 fun i j => .int (i - j)) dSub := sndI0 fun x y M Q h => by
  unfold dSub at h; split at h
  · exact ⟨_, _, rfl, rfl, h⟩
  · exact h.elim
theorem snd_div : Snd2 K mg (rI CDiv fun i j => .int (i / j)) dDiv := sndI fun x y M Q h => by
  unfold dDiv at h; split at h
  · exact ⟨_, _, rfl, rfl, h.1, h.2⟩
  · exact h.elim
theorem snd_mod : Snd2 K mg (rI (fun _ j => 0 < j) fun i j => .int (i % j)) dMod := sndI fun x y M Q h => by
  unfold dMod at h; split at h
  · exact ⟨_, _, rfl, rfl, h.1, h.2⟩
  · exact h.elim
theorem snd_pow : Snd2 K mg (rI CPow fun i j => .int (i ^ j.toNat)) dPow := sndI fun x y M Q h => by
  unfold dPow at h; split at h
  · exact ⟨_, _, rfl, rfl, h.1, h.2⟩
  · exact h.elim
theorem snd_shr : Snd2 K mg (rI (fun _ j => 0 ≤ j) fun i j => .int (i / 2 ^ j.toNat)) dShr := sndI fun x y M Q h => by
  unfold dShr at h; split at h
  · exact ⟨_, _, rfl, rfl, h.1, h.2⟩
  · exact h.elim
theorem snd_and : Snd2 K mg (rI0 fun i j => .int (Builtin.bitAnd i j)) dAnd := sndI0 fun x y M Q h => by
  unfold dAnd at h; split at h
  · exact ⟨_, _, rfl, rfl, h⟩
  · exact h.elim
theorem snd_xor : Snd2 K mg (rI0 fun i j => .int (Builtin.bitXor i j)) dXor := sndI0 fun x y M Q h => by
  unfold dXor at h; split at h
  · exact ⟨_, _, rfl, rfl, h⟩
  · exact h.elim
theorem snd_neg : Snd1 K mg (rU fun i => .int (-i)) dNeg := by
  intro F H M x p Q R w rx h k
  cases p with
  | int i => cases rx; exact ⟨i, rfl, k _ _ h _ _ _ (Le.refl F) w (.int _)⟩
  | _ => exact False.elim h
def rMulZ : R2 := fun x y H Q => rI CMul (fun i j => .int (i * j)) x y H Q ∨ rRep x y H Q
theorem snd_mul (b : Bool) : Snd2 K mg rMulZ (dMul b) := by
  intro F H M x y p q Q R w rx ry h k
  cases p with
  | int i =>
    cases q with
    | int j => cases rx; cases ry; exact .inl ⟨i, j, rfl, rfl, h.1, k _ _ h.2 _ _ _ (Le.refl F) w (.int _)⟩
    | _ => exact False.elim h
  | lst xs =>
    cases q with
    | int j =>
      cases ry
      obtain ⟨a, vs, ds, rfl, e, l, rl, e2⟩ := zL_out (d := .lst xs) (k := fun ds => ds = xs) w rx rfl
      subst e2
      obtain ⟨h1, h2, h3, h4⟩ := (show -(2 ^ 63) ≤ j ∧ j < 2 ^ 63 ∧ ds.length * j.toNat ≤ sizeLine ∧ zNew b (List.replicate j.toNat ds).flatten M R from h)
      have h3' : vs.length * j.toNat ≤ sizeLine := by rw [rl.length]; exact h3
      refine .inr ⟨a, j, vs, rfl, rfl, e, h1, h2, h3', zNew_out w ?_ (rl.flat _) h4 k⟩
      rw [List.length_flatten, List.map_replicate, List.sum_replicate_nat, Nat.mul_comm]; exact h3'
    | _ => exact False.elim h
  | ref pa =>
    cases q with
    | int j =>
      cases ry
      have h' : zL M (.ref pa) fun xs => -(2 ^ 63) ≤ j ∧ j < 2 ^ 63 ∧ xs.length * j.toNat ≤ sizeLine ∧ zNew b (List.replicate j.toNat xs).flatten M R := h
      obtain ⟨a, vs, ds, rfl, e, l, rl, h1, h2, h3, h4⟩ := zL_out w rx h'
      have h3' : vs.length * j.toNat ≤ sizeLine := by rw [rl.length]; exact h3
      refine .inr ⟨a, j, vs, rfl, rfl, e, h1, h2, h3', zNew_out w ?_ (rl.flat _) h4 k⟩
      rw [List.length_flatten, List.map_replicate, List.sum_replicate_nat, Nat.mul_comm]; exact h3'
    | _ => exact False.elim h
  | _ => exact False.elim h
/-! equality -/
def rEqZ (K : PySem.W.Frag) : R2 := fun x y H Q => ∃ d e, Dp K H x d ∧ Dp K H y e ∧ d.canLay0 = true ∧ e.canLay0 = true ∧ (d.depth ≤ 64 ∨ e.depth ≤ 64) ∧ Q (.bl (PyData.eqv d e)) H
def rNeZ (K : PySem.W.Frag) : R2 := fun x y H Q => ∃ d e, Dp K H x d ∧ Dp K H y e ∧ d.canLay0 = true ∧ e.canLay0 = true ∧ (d.depth ≤ 64 ∨ e.depth ≤ 64) ∧ Q (.bl (!PyData.eqv d e)) H
theorem op_eqZ {X : Cx} (hu : X.A.units + 64 < cLine) : OpR X (compareOp .Eq) (rEqZ X.K) := by
  intro pins s r H x y v u Q I rx ry h
  obtain ⟨d, e, hd, he, sd, se, dp, q⟩ := h
  obtain ⟨_, r1⟩ := Dp.reads I d x v hd rx
  obtain ⟨_, r2⟩ := Dp.reads I e y u he ry
  exact SeqAt.compareEq_reads r1 r2 sd se (by omega) ⟨.bl _, H, I, rfl, q⟩
theorem op_neZ {X : Cx} (hu : X.A.units + 64 < cLine) : OpR X (compareOp .NotEq) (rNeZ X.K) := by
  intro pins s r H x y v u Q I rx ry h
  obtain ⟨d, e, hd, he, sd, se, dp, q⟩ := h
  obtain ⟨_, r1⟩ := Dp.reads I d x v hd rx
  obtain ⟨_, r2⟩ := Dp.reads I e y u he ry
  exact SeqAt.compareNe_reads r1 r2 sd se (by omega) ⟨.bl _, H, I, rfl, q⟩
theorem snd_eq : Snd2 K mg (rEqZ K) dEq := by
  intro F H M x y p q Q R w rx ry h k
  obtain ⟨d, h, hd, ld⟩ := zP_out w rx h
  obtain ⟨e, h, he, le⟩ := zP_out w ry h
  obtain ⟨h1, h2, h3, h4⟩ := h
  exact ⟨toP d, toP e, hd h1, he h2, ld, le, h3, k _ _ h4 _ _ _ (Le.refl F) w (.bl _)⟩
theorem snd_ne : Snd2 K mg (rNeZ K) dNe := by
  intro F H M x y p q Q R w rx ry h k
  obtain ⟨d, h, hd, ld⟩ := zP_out w rx h
  obtain ⟨e, h, he, le⟩ := zP_out w ry h
  obtain ⟨h1, h2, h3, h4⟩ := h
  exact ⟨toP d, toP e, hd h1, he h2, ld, le, h3, k _ _ h4 _ _ _ (Le.refl F) w (.bl _)⟩
/-! in -/
def flatD : D → Bool
  | .non | .bl _ | .int _ | .str _ => true
  | _ => false
theorem flat_of {F : Fz} {v : V} {d : D} (r : Rep K mg F v d) (h : flatD d = true) : flatV v = true := by
  cases r <;> first | rfl | exact absurd h Bool.false_ne_true
theorem eqV_of {F : Fz} {v u : V} {d e : D} (r : Rep K mg F v d) (r' : Rep K mg F u e) (h : flatD d = true) (h' : flatD e = true) : eqV v u = eqD d e := by
  unfold eqD
  cases r <;> first | exact absurd h Bool.false_ne_true | (cases r' <;> first | exact absurd h' Bool.false_ne_true | (simp [eqV, toP, PyData.eqv]))
theorem flats_of {F : Fz} : ∀ {vs : List V} {ds : List D}, RepL K mg F vs ds → ds.all flatD = true → vs.all flatV = true
  | _, _, .nil, _ => rfl
  | _, _, .cons h t, q => by
    rw [List.all_cons, Bool.and_eq_true] at q
    rw [List.all_cons, flat_of h q.1, flats_of t q.2]; rfl
def inD (x : D) (ds : List D) : Bool := ds.any fun y => eqD y x
theorem inV_of {F : Fz} {v : V} {d : D} (r : Rep K mg F v d) (f : flatD d = true) : ∀ {vs : List V} {ds : List D}, RepL K mg F vs ds → ds.all flatD = true → inV v vs = inD d ds
  | _, _, .nil, _ => rfl
  | _, _, .cons h t, q => by
    rw [List.all_cons, Bool.and_eq_true] at q
    have ih := inV_of r f t q.2
    unfold inV inD at *
    rw [List.any_cons, List.any_cons, eqV_of h r q.1 f, ih]
def dIn (neg : Bool) (x y : D) (M : Mh) (Q : QZ) : Prop := match y with
  | .str z => (match x with | .str s => (match s.cps.toList with | [c] => Q (.bl (if neg then !decide (c ∈ z.cps.toList) else decide (c ∈ z.cps.toList))) M | _ => False) | _ => False)
  | y => zLT M y fun ys => flatD x = true ∧ ys.all flatD = true ∧ Q (.bl (if neg then !inD x ys else inD x ys)) M
def rInZ (K : PySem.W.Frag) (neg : Bool) : R2 := fun x y H Q => rIn K neg x y H Q ∨ ∃ (c : Nat) (z : Str), x = .str ⟨#[c]⟩ ∧ y = .str z ∧ Q (.bl (if neg then !decide (c ∈ z.cps.toList) else decide (c ∈ z.cps.toList))) H
theorem snd_in (neg : Bool) : Snd2 K mg (rInZ K neg) (dIn neg) := by
  intro F H M x y p q Q R w rx ry h k
  have gen : (zLT M q fun ys => flatD p = true ∧ ys.all flatD = true ∧ R (.bl (if neg then !inD p ys else inD p ys)) M) → rInZ K neg x y H Q := fun h => by
    obtain ⟨a, vs, ds, rfl, e, l, rl, h1, h2, h3⟩ := zLT_out w ry h
    refine .inl ⟨a, vs, rfl, e, flat_of rx h1, flats_of rl h2, ?_⟩
    rw [inV_of rx h1 rl h2]
    exact k _ _ h3 _ _ _ (Le.refl F) w (.bl _)
  cases q with
  | str z =>
    cases ry
    cases p with
    | str s =>
      cases rx
      unfold dIn at h
      dsimp only at h
      split at h
      · rename_i c e
        refine .inr ⟨c, z, ?_, rfl, k _ _ h _ _ _ (Le.refl F) w (.bl _)⟩
        obtain ⟨cs⟩ := s
        have e2 : cs = #[c] := by
          apply Array.ext'
          simpa using e
        rw [e2]
      · exact h.elim
    | _ => exact False.elim h
  | _ => exact gen h
theorem op_inZ {X : Cx} : OpR X (compareOp .In) (rInZ X.K false) := OpR.or op_in_seq op_in_sign
theorem op_notInZ {X : Cx} : OpR X (compareOp .NotIn) (rInZ X.K true) := OpR.or op_notIn_seq op_notIn_sign
/-! is -/
def isN : D → Bool
  | .non => true
  | _ => false
theorem isN_of {F : Fz} {v : V} {d : D} (r : Rep K mg F v d) : decide (v = .non) = isN d := by
  cases r <;> first | rfl | (simp [isN])
def dIs (x y : D) (M : Mh) (Q : QZ) : Prop := match y with
  | .non => Q (.bl (isN x)) M
  | .bl b => (match x with | .bl a => Q (.bl (decide (a = b))) M | _ => False)
  | _ => False
def dIsNot (x y : D) (M : Mh) (Q : QZ) : Prop := match y with
  | .non => Q (.bl (!isN x)) M
  | .bl b => (match x with | .bl a => Q (.bl (!decide (a = b))) M | _ => False)
  | _ => False
def rIsZ : R2 := fun x y H Q => (y = .non ∧ Q (.bl (decide (x = .non))) H) ∨ rIsB x y H Q
def rIsNotZ : R2 := fun x y H Q => (y = .non ∧ Q (.bl (!decide (x = .non))) H) ∨ rNotB x y H Q
theorem snd_is : Snd2 K mg rIsZ dIs := by
  intro F H M x y p q Q R w rx ry h k
  cases q with
  | non => cases ry; refine .inl ⟨rfl, ?_⟩; rw [isN_of rx]; exact k _ _ h _ _ _ (Le.refl F) w (.bl _)
  | bl b =>
    cases ry
    cases p with
    | bl a => cases rx; exact .inr ⟨a, b, rfl, rfl, k _ _ h _ _ _ (Le.refl F) w (.bl _)⟩
    | _ => exact False.elim h
  | _ => exact False.elim h
theorem snd_isNot : Snd2 K mg rIsNotZ dIsNot := by
  intro F H M x y p q Q R w rx ry h k
  cases q with
  | non => cases ry; refine .inl ⟨rfl, ?_⟩; rw [isN_of rx]; exact k _ _ h _ _ _ (Le.refl F) w (.bl _)
  | bl b =>
    cases ry
    cases p with
    | bl a => cases rx; exact .inr ⟨a, b, rfl, rfl, k _ _ h _ _ _ (Le.refl F) w (.bl _)⟩
    | _ => exact False.elim h
  | _ => exact False.elim h
/-! subscripts -/
def dIx (x i : D) (M : Mh) (Q : QZ) : Prop := match i with
  | .int i => (match x with
    | .str s => (match atI s.cps.toList i with | some c => Q (.str ⟨#[c]⟩) M | none => False)
    | x => zLT M x fun ds => match atI ds i with | some d => Q d M | none => False)
  | _ => False
theorem atI_rep {F : Fz} {vs : List V} {ds : List D} {i : Int} {d : D} (r : RepL K mg F vs ds) (h : atI ds i = some d) : ∃ v, atI vs i = some v ∧ Rep K mg F v d := by
  unfold atI at *
  rw [r.length]
  cases e : ixN ds.length i with
  | none => rw [e] at h; cases h
  | some j =>
    rw [e] at h
    exact r.get h
theorem atI_ok {s : Str} {i : Int} {c : Nat} (h : PyData.strOk s = true) (e : atI s.cps.toList i = some c) : PyData.strOk ⟨#[c]⟩ = true := by
  obtain ⟨j, _, e2, _⟩ := atI_get e
  have hm : c ∈ s.cps.toList := List.mem_of_getElem? e2
  unfold PyData.strOk at *
  rw [← Array.all_toList] at h ⊢
  have := List.all_eq_true.mp h c hm
  simpa using this
theorem snd_ix : Snd2 K mg (rIx K) dIx := by
  intro F H M x y p q Q R w rx ry h k
  cases q with
  | int i =>
    cases ry
    have gen : (zLT M p fun ds => match atI ds i with | some d => R d M | none => False) → rIx K x (.int i) H Q := fun h => by
      obtain ⟨a, vs, ds, rfl, e, l, rl, h⟩ := zLT_out w rx h
      cases q : atI ds i with
      | none => rw [q] at h; exact h.elim
      | some d =>
        rw [q] at h
        obtain ⟨v, e2, rv⟩ := atI_rep rl q
        have z := k _ _ h _ _ _ (Le.refl F) w rv
        rcases e with e | e
        · exact .inl ⟨a, vs, i, v, rfl, rfl, e, e2, z⟩
        · exact .inr (.inl ⟨a, vs, i, v, rfl, rfl, e, e2, z⟩)
    cases p with
    | str s =>
      cases rx with
      | str o1 o2 =>
        have h' : (match atI s.cps.toList i with | some c => R (.str ⟨#[c]⟩) M | none => False) := h
        cases e : atI s.cps.toList i with
        | none => rw [e] at h'; exact h'.elim
        | some c =>
          rw [e] at h'
          exact .inr (.inr ⟨s, i, c, rfl, rfl, o2, e, k _ _ h' _ _ _ (Le.refl F) w (.str (atI_ok o1 e) (by show 1 ≤ sizeLine; decide))⟩)
    | _ => exact gen h
  | _ => exact False.elim h
/-! slices -/
def cutD (ds : List D) (lo hi : Option Int) : List D := (ds.drop (HT.sIx ds.length 0 lo)).take (HT.sIx ds.length ds.length hi - HT.sIx ds.length 0 lo)
theorem RepL.cut {F : Fz} {vs : List V} {ds : List D} (lo hi : Option Int) (r : RepL K mg F vs ds) : RepL K mg F (cutV vs lo hi) (cutD ds lo hi) := by
  unfold cutV cutD
  rw [r.length]
  exact (r.drop _).take _
def ZO := Env → Mh → (Option Int → Mh → Prop) → Prop
def zNoPart : ZO := fun _ M Q => Q none M
def zPart (a : ZE) : ZO := fun r M Q => a r M fun d M1 => onInt d fun i => Q (some i) M1
def upO (K : PySem.W.Frag) (mg : Str → Option Value) (F0 : Fz) (f : ZO) : TO := fun s H Q => ∃ (F : Fz) (r : Env) (M : Mh) (R : Option Int → Mh → Prop), Ge F0 F ∧ Wd K mg F H M ∧ RepE K mg F s r ∧ f r M R ∧
  ∀ o M', R o M' → ∀ F' H', Le F F' → Wd K mg F' H' M' → Q o H'
def zSl (b : Bool) (a : ZE) (lo hi : ZO) : ZE := fun r M Q => a r M fun x M1 => lo r M1 fun l M2 => hi r M2 fun h M3 => match x with
  | .str s => Q (.str (cutS s l h)) M3
  | x => zL M3 x fun ds => zNew b (cutD ds l h) M3 Q
end
section
variable {X : Cx} {F0 : Fz} {a b c : Expr} {pos : Pos} {fa fb : ZE}
theorem zo_none : PO X none (upO X.K X.mg F0 zNoPart) := ⟨fun pins s r H Q I h => by
  obtain ⟨F, rr, M, R, s0, w, e, h, k⟩ := h
  exact po_none.run pins s r H Q I (k none M h F H (Le.refl F) w)⟩
theorem zo_some (ha : PE X a (UE X F0 fa)) : PO X (some a) (upO X.K X.mg F0 (zPart fa)) := ⟨fun pins s r H Q I h => by
  obtain ⟨F, rr, M, R, s0, w, e, h, k⟩ := h
  refine (po_some ha).run pins s r H Q I ⟨F, rr, M, _, s0, w, e, h, fun d M1 h1 F1 H1 v s1 w1 r1 => ?_⟩
  cases d with
  | int i => cases r1; exact ⟨i, rfl, k _ M1 h1 F1 H1 s1 w1⟩
  | _ => exact False.elim h1⟩
theorem strOk_cut {s : Str} (lo hi : Option Int) (h : PyData.strOk s = true) : PyData.strOk (cutS s lo hi) = true := by
  unfold PyData.strOk at *
  rw [← Array.all_toList] at h ⊢
  refine List.all_eq_true.mpr fun c hc => List.all_eq_true.mp h c ?_
  have hc' : c ∈ (s.cps.toList.drop (HT.sIx s.length 0 lo)).take (HT.sIx s.length s.length hi - HT.sIx s.length 0 lo) := by simpa [cutS] using hc
  exact List.mem_of_mem_drop (List.mem_of_mem_take hc')
theorem len_cut (s : Str) (lo hi : Option Int) : (cutS s lo hi).length ≤ s.length := by
  show (((s.cps.toList.drop _).take _).toArray).size ≤ s.cps.size
  rw [List.size_toArray, List.length_take, List.length_drop, Array.length_toList]
  omega
theorem ze_sl (b : Bool) {lo hi : Option Expr} {fl fh : ZO} {p2 : Pos} (ha : PE X a (UE X F0 fa)) (hl : PO X lo (upO X.K X.mg F0 fl)) (hh : PO X hi (upO X.K X.mg F0 fh)) : PE X (.Subscript a (.Slice lo hi none p2) pos) (UE X F0 (zSl b fa fl fh)) := by
  refine pe_imp (pe_slice (SlR.or sl_list sl_str) ha hl hh) fun s H Q h => ?_
  obtain ⟨F, rr, M, R, s0, w, e, h, k⟩ := h
  refine ⟨F, rr, M, _, s0, w, e, h, fun x M1 h1 F1 H1 v s1 w1 r1 => ⟨F1, rr, M1, _, s0.trans s1, w1, e.mono s1, h1, fun l M2 h2 F2 H2 s2 w2 => ⟨F2, rr, M2, _, (s0.trans s1).trans s2, w2, (e.mono s1).mono s2, h2, fun u M3 h3 F3 H3 s3 w3 => ?_⟩⟩⟩
  have r3 := (r1.mono s2).mono s3
  have k3 := k.mono ((s1.trans s2).trans s3)
  have gen : (zL M3 x fun ds => zNew b (cutD ds l u) M3 R) → rSlL X.K v l u H3 Q := fun h => by
    obtain ⟨p, vs, ds, rfl, e, ll, rl, h⟩ := zL_out w3 r3 h
    exact ⟨p, vs, rfl, SqL.of e, zNew_out w3 (Nat.le_trans (cutV_length _ _ _) ll) (rl.cut l u) h k3⟩
  cases x with
  | str z =>
    cases r3 with
    | str o1 o2 => exact .inr ⟨z, rfl, o2, k3 _ _ h3 _ _ _ (Le.refl F3) w3 (.str (strOk_cut _ _ o1) (Nat.le_trans (len_cut _ _ _) o2))⟩
  | _ => exact .inl (gen h3)
/-! operators as rules -/
theorem ze_add (n : Bool) (ha : PE X a (UE X F0 fa)) (hb : PE X b (UE X F0 fb)) : PE X (.BinOp a .Add b pos) (UE X F0 (z2 (dAdd n) fa fb)) := ze_op (OpR.or op_add (OpR.or op_add_str op_cat)) (snd_add n) ha hb
theorem ze_sub (ha : PE X a (UE X F0 fa)) (hb : PE X b (UE X F0 fb)) : PE X (.BinOp a .Sub b pos) (UE X F0 (z2 dSub fa fb)) := ze_op op_sub snd_sub ha hb
theorem ze_mul (n : Bool) (ha : PE X a (UE X F0 fa)) (hb : PE X b (UE X F0 fb)) : PE X (.BinOp a .Mult b pos) (UE X F0 (z2 (dMul n) fa fb)) := ze_op (OpR.or op_mul op_rep) (snd_mul n) ha hb
theorem ze_div (ha : PE X a (UE X F0 fa)) (hb : PE X b (UE X F0 fb)) : PE X (.BinOp a .FloorDiv b pos) (UE X F0 (z2 dDiv fa fb)) := ze_op op_fdiv snd_div ha hb
theorem ze_mod (ha : PE X a (UE X F0 fa)) (hb : PE X b (UE X F0 fb)) : PE X (.BinOp a .Mod b pos) (UE X F0 (z2 dMod fa fb)) := ze_op op_mod snd_mod ha hb
theorem ze_pow (ha : PE X a (UE X F0 fa)) (hb : PE X b (UE X F0 fb)) : PE X (.BinOp a .Pow b pos) (UE X F0 (z2 dPow fa fb)) := ze_op op_pow snd_pow ha hb
theorem ze_shr (ha : PE X a (UE X F0 fa)) (hb : PE X b (UE X F0 fb)) : PE X (.BinOp a .RShift b pos) (UE X F0 (z2 dShr fa fb)) := ze_op op_shr snd_shr ha hb
theorem ze_band (ha : PE X a (UE X F0 fa)) (hb : PE X b (UE X F0 fb)) : PE X (.BinOp a .BitAnd b pos) (UE X F0 (z2 dAnd fa fb)) := ze_op op_and snd_and ha hb
theorem ze_bxor (ha : PE X a (UE X F0 fa)) (hb : PE X b (UE X F0 fb)) : PE X (.BinOp a .BitXor b pos) (UE X F0 (z2 dXor fa fb)) := ze_op op_xor snd_xor ha hb
theorem ze_neg (ha : PE X a (UE X F0 fa)) : PE X (.UnaryOp .USub a pos) (UE X F0 (z1 dNeg fa)) := ze_un un_neg snd_neg ha
theorem ze_ix (ha : PE X a (UE X F0 fa)) (hb : PE X b (UE X F0 fb)) (hs : PlainIx b) : PE X (.Subscript a b pos) (UE X F0 (z2 dIx fa fb)) := pe_imp (pe_ix ix_seq ha hb hs) fun _ _ _ h => up2 snd_ix h
/-! ### statements -/
def zNext : ZS := fun E r M => E.nx r M
def zSeq (t u : ZS) : ZS := fun E r M => t { E with nx := u E } r M
def zBreak : ZS := fun E r M => E.bk r M
def zCont : ZS := fun E r M => E.ct r M
def zDrop (a : ZE) : ZS := fun E r M => a r M fun _ M1 => E.nx r M1
def zRet (a : ZE) : ZS := fun E r M => a r M E.rt
def zRetN : ZS := fun E _ M => E.rt .non M
def zIf (c : ZT) (t u : ZS) : ZS := fun E r M => c r M fun b M1 => bsel b (t E r M1) (u E r M1)
def zAsg (a : ZE) (g : ZG) : ZS := fun E r M => a r M fun d M1 => g d r M1 E.nx
def zgName (i : Nat) : ZG := fun d r M Q => Q (st r i (some d)) M
variable {st1 : Stmt} {rest : List Stmt} {t u : ZS}
theorem zss_nil : PSs X [] (US X F0 zNext) := pss_imp pss_nil fun E s H h => by
  obtain ⟨F, rr, M, Z, s0, w, e, h, k⟩ := h
  exact k.nx rr M h F s H (Le.refl F) w e
theorem zss_cons (h1 : PS X st1 (US X F0 t)) (h2 : PSs X rest (US X F0 u)) : PSs X (st1 :: rest) (US X F0 (zSeq t u)) := pss_imp (pss_cons h1 h2) fun E s H h => by
  obtain ⟨F, rr, M, Z, s0, w, e, h, k⟩ := h
  refine ⟨F, rr, M, { Z with nx := u Z }, s0, w, e, h, ⟨fun r' M' h' F' s' H' s1 w1 e1 => ?_, k.rt, k.bk, k.ct⟩⟩
  exact ⟨F', r', M', Z, s0.trans s1, w1, e1, h', k.mono s1⟩
theorem zss_one (h1 : PS X st1 (US X F0 t)) : PSs X [st1] (US X F0 t) := pss_one h1
theorem zs_pass : PS X (.Pass pos) (US X F0 zNext) := ps_imp ps_pass fun E s H h => by
  obtain ⟨F, rr, M, Z, s0, w, e, h, k⟩ := h
  exact k.nx rr M h F s H (Le.refl F) w e
theorem zs_break : PS X (.Break pos) (US X F0 zBreak) := ps_imp ps_break fun E s H h => by
  obtain ⟨F, rr, M, Z, s0, w, e, h, k⟩ := h
  exact k.bk rr M h F s H (Le.refl F) w e
theorem zs_continue : PS X (.Continue pos) (US X F0 zCont) := ps_imp ps_continue fun E s H h => by
  obtain ⟨F, rr, M, Z, s0, w, e, h, k⟩ := h
  exact k.ct rr M h F s H (Le.refl F) w e
theorem zs_expr (ha : PE X a (UE X F0 fa)) (hs : swapsWith a none pos.line X.env = pure false := by rfl) : PS X (.Expr a pos) (US X F0 (zDrop fa)) := ps_imp (ps_expr ha hs) fun E s H h => by
  obtain ⟨F, rr, M, Z, s0, w, e, h, k⟩ := h
  exact ⟨F, rr, M, _, s0, w, e, h, fun d M1 h1 F1 H1 v s1 w1 r1 => k.nx rr M1 h1 F1 s H1 s1 w1 (e.mono s1)⟩
theorem zs_ret (ha : PE X a (UE X F0 fa)) : PS X (.Return (some a) pos) (US X F0 (zRet fa)) := ps_imp (ps_ret ha) fun E s H h => by
  obtain ⟨F, rr, M, Z, s0, w, e, h, k⟩ := h
  exact ⟨F, rr, M, _, s0, w, e, h, k.rt⟩
theorem zs_retN : PS X (.Return none pos) (US X F0 zRetN) := ps_imp ps_retN fun E s H h => by
  obtain ⟨F, rr, M, Z, s0, w, e, h, k⟩ := h
  exact k.rt _ M h F H _ (Le.refl F) w .non
theorem zs_if {tc : ZT} {sa sb : List Stmt} (hc : PT X c (UT X F0 tc)) (ha : PSs X sa (US X F0 t)) (hb : PSs X sb (US X F0 u)) : PS X (.If c sa sb pos) (US X F0 (zIf tc t u)) := ps_imp (ps_if hc ha hb) fun E s H h => by
  obtain ⟨F, rr, M, Z, s0, w, e, h, k⟩ := h
  refine ⟨F, rr, M, _, s0, w, e, h, fun b M1 h1 F1 H1 s1 w1 => ?_⟩
  cases b with
  | true => exact ⟨F1, rr, M1, Z, s0.trans s1, w1, e.mono s1, h1, k.mono s1⟩
  | false => exact ⟨F1, rr, M1, Z, s0.trans s1, w1, e.mono s1, h1, k.mono s1⟩
theorem zs_set {i : Nat} {x : Str} {pos' : Pos} (hN : X.N.Nodup) (ha : PE X a (UE X F0 fa)) (hi : X.N[i]? = some x := by rfl) (hx : Loc X.env.scope x := by first | exact Or.inl rfl | exact Or.inr rfl)
    (hs : swapsWith a (some (.Name x pos')) pos.line X.env = pure false := by rfl) (hf : X.fn x = true ∨ X.env.scope.names.lookup x = some .local := by first | exact .inl rfl | exact .inr rfl | assumption) :
    PS X (.Assign [.Name x pos'] a pos) (US X F0 (zAsg fa (zgName i))) := ps_imp (ps_set (i := i) hN hi hx ha hs hf) fun E s H h => by
  obtain ⟨F, rr, M, Z, s0, w, e, h, k⟩ := h
  exact ⟨F, rr, M, _, s0, w, e, h, fun d M1 h1 F1 H1 v s1 w1 r1 => k.nx _ M1 h1 F1 _ H1 s1 w1 ((e.mono s1).set i r1)⟩
/-! targets -/
abbrev ZGs := List D → Env → Mh → (Env → Mh → Prop) → Prop
def upGs (K : PySem.W.Frag) (mg : Str → Option Value) (F0 : Fz) (g : ZGs) : TGs := fun vs s H Q => ∃ (F : Fz) (r : Env) (M : Mh) (ds : List D) (R : Env → Mh → Prop), Ge F0 F ∧ Wd K mg F H M ∧ RepE K mg F s r ∧ RepL K mg F vs ds ∧ g ds r M R ∧ Kn K mg F R Q
def zgNil : ZGs := fun ds r M Q => match ds with | [] => Q r M | _ => False
def zgCons (g : ZG) (gs : ZGs) : ZGs := fun ds r M Q => match ds with | d :: l => g d r M fun r' M' => gs l r' M' Q | [] => False
def zgTup (n : Nat) (gs : ZGs) : ZG := fun d r M Q => match d with | .tup ds => ds.length = n ∧ gs ds r M Q | _ => False
/-- x[y] = d -/
def dSet (x y d : D) (M : Mh) (k : Mh → Prop) : Prop := match x, y with
  | .ref p, .int n => (match M p with | some (.lst ds) => (match ixN ds.length n with | some j => k (mup M p (.lst (ds.set j d))) | none => False) | _ => False)
  | _, _ => False
def zgSub (o i : ZE) : ZG := fun d r M Q => o r M fun x M1 => i r M1 fun y M2 => dSet x y d M2 fun M3 => Q r M3
theorem zg_name {i : Nat} {x : Str} (hN : X.N.Nodup) (hi : X.N[i]? = some x := by rfl) (hx : Loc X.env.scope x := by first | exact Or.inl rfl | exact Or.inr rfl)
    (hf : X.fn x = true ∨ X.env.scope.names.lookup x = some .local := by first | exact .inl rfl | exact .inr rfl | assumption) : PG X (.Name x pos) (UG X F0 (zgName i)) := pg_imp (pg_name (i := i) hN hi hx hf) fun v s H Q h => by
  obtain ⟨F, rr, M, d, R, s0, w, e, rv, h, k⟩ := h
  exact k _ M h F _ H (Le.refl F) w (e.set i rv)
theorem zgs_nil : PGs X [] (upGs X.K X.mg F0 zgNil) := ⟨fun pins s r H vs us Q I rv h => by
  obtain ⟨F, rr, M, ds, R, s0, w, e, rl, h, k⟩ := h
  refine pgs_nil.run pins s r H vs us Q I rv ?_
  cases ds with
  | nil => cases rl; exact ⟨rfl, k _ M h F _ H (Le.refl F) w e⟩
  | cons _ _ => exact False.elim h⟩
theorem zgs_cons {es : List Expr} {g : ZG} {gs : ZGs} (h1 : PG X a (UG X F0 g)) (h2 : PGs X es (upGs X.K X.mg F0 gs)) (hs : (assignEach (a :: es) X.env).map (·.2) = assign a X.env :: (assignEach es X.env).map (·.2) := by rfl) : PGs X (a :: es) (upGs X.K X.mg F0 (zgCons g gs)) := ⟨fun pins s r H vs us Q I rv h => by
  obtain ⟨F, rr, M, ds, R, s0, w, e, rl, h, k⟩ := h
  refine (pgs_cons h1 h2 hs).run pins s r H vs us Q I rv ?_
  cases rl with
  | nil => exact False.elim h
  | cons q rl =>
    refine ⟨_, _, rfl, F, rr, M, _, _, s0, w, e, q, h, fun r' M' h' F' s' H' s1 w1 e1 => ⟨F', r', M', _, R, s0.trans s1, w1, e1, rl.mono s1, h', k.mono s1⟩⟩⟩
theorem zg_tup {es : List Expr} {k1 n : Nat} {gs : ZGs} (hc : X.calm = true) (h : PGs X es (upGs X.K X.mg F0 gs)) (hn : (assignEach es X.env).length = n := by rfl) (hst : (assignEach es X.env).findIdx? (·.1) = none := by rfl) : PG X (.Tuple es k1 pos) (UG X F0 (zgTup n gs)) :=
  pg_imp (pg_tup hc h hn hst) fun v s H Q h => by
  obtain ⟨F, rr, M, d, R, s0, w, e, rv, h, k⟩ := h
  cases d with
  | tup ds =>
    cases rv with
    | tup q l rl => exact ⟨_, _, rfl, same_sqT w.same q, by rw [rl.length]; exact h.1, F, rr, M, ds, R, s0, w, e, rl, h.2, k⟩
  | _ => exact False.elim h
theorem zg_sub {o i : Expr} {fo fi : ZE} (ho : PE X o (UE X F0 fo)) (hi : PE X i (UE X F0 fi))
    (ha : ∀ v, assign (.Subscript o i pos) X.env v = (do
      let ov ← holding [v] (eval o X.env)
      let iv ← holding [v, ov] (eval i X.env)
      standAt pos
      holding [v, ov, iv] (setItem ov iv v)
      release [v, ov, iv] []) := by intro _; rfl) : PG X (.Subscript o i pos) (UG X F0 (zgSub fo fi)) := pg_imp (pg_sub ho hi set_list ha) fun v s H Q h => by
  obtain ⟨F, rr, M, d, R, s0, w, e, rv, h, k⟩ := h
  refine ⟨F, rr, M, _, s0, w, e, h, fun x M1 h1 F1 H1 xv s1 w1 r1 => ⟨F1, rr, M1, _, s0.trans s1, w1, e.mono s1, h1, fun y M2 h2 F2 H2 yv s2 w2 r2 => ?_⟩⟩
  cases x with
  | ref p =>
    cases y with
    | int n =>
      cases r1; cases r2
      have h2' : (match M2 p with | some (.lst ds) => (match ixN ds.length n with | some j => R rr (mup M2 p (.lst (ds.set j d))) | none => False) | _ => False) := h2
      cases e1 : M2 p with
      | none => rw [e1] at h2'; exact h2'.elim
      | some m =>
        cases m with
        | lst ds =>
          rw [e1] at h2'
          obtain ⟨_, vs, hv, l, q⟩ := w2.mu p _ e1
          cases e2 : ixN ds.length n with
          | none => simp only [e2] at h2'
          | some j =>
            simp only [e2] at h2'
            refine ⟨p, vs, n, j, rfl, rfl, hv, by rw [q.length]; exact e2, k _ _ h2' F2 _ _ (s1.trans s2) (w2.write e1 (by intro z; cases z) (by intro z; cases z) ⟨vs.set j v, upd_same, by rw [List.length_set]; exact l, q.set (rv.mono (s1.trans s2)) j⟩) (e.mono (s1.trans s2))⟩
        | ins c fs => rw [e1] at h2'; exact h2'.elim
        | town => rw [e1] at h2'; exact h2'.elim
    | _ => exact False.elim h2
  | _ => exact False.elim h2
theorem zs_asg {tg : Expr} {g : ZG} (ha : PE X a (UE X F0 fa)) (hg : PG X tg (UG X F0 g)) (hs : swapsWithSole [tg] a pos.line X.env = pure false := by rfl) (hw : swappedStores [tg] a X.env = pure none := by rfl)
    (h1 : (assignEach [tg] X.env).map (·.2) = [assign tg X.env] := by rfl) : PS X (.Assign [tg] a pos) (US X F0 (zAsg fa g)) := ps_imp (ps_asg ha hg hs hw h1) fun E s H h => by
  obtain ⟨F, rr, M, Z, s0, w, e, h, k⟩ := h
  exact ⟨F, rr, M, _, s0, w, e, h, fun d M1 h1 F1 H1 v s1 w1 r1 => ⟨F1, rr, M1, d, _, s0.trans s1, w1, e.mono s1, r1, h1, k.nx.mono s1⟩⟩
/-- a, b = (x, y), plain locals -/
def on2 (ds : List D) (k : D → D → Prop) : Prop := match ds with | [x, y] => k x y | _ => False
def zPar (i j : Nat) (ta : ZA) : ZS := fun E r M => ta r M fun ds M1 => on2 ds fun x y => E.nx (st (st r i (some x)) j (some y)) M1
theorem zs_par {i j : Nat} {x y : Str} {ta : ZA} {px py pt : Pos} {kt k2 : Nat} {pt2 : Pos} (hc : X.calm = true) (hN : X.N.Nodup) (ha : PA X [a, b] (UA X F0 ta))
    (hw : swappedStores [.Tuple [.Name x px, .Name y py] kt pt] (.Tuple [a, b] k2 pt2) X.env = pure (some [x, y])) (hi : X.N[i]? = some x := by rfl) (hj : X.N[j]? = some y := by rfl) (hij : i ≠ j := by decide)
    (hx : X.env.scope.names.lookup x = some .local := by rfl) (hy : X.env.scope.names.lookup y = some .local := by rfl)
    (hs : swapsWithSole [.Tuple [.Name x px, .Name y py] kt pt] (.Tuple [a, b] k2 pt2) pos.line X.env = pure false := by rfl) :
    PS X (.Assign [.Tuple [.Name x px, .Name y py] kt pt] (.Tuple [a, b] k2 pt2) pos) (US X F0 (zPar i j ta)) := ps_imp (ps_par (i := i) (j := j) hc hN hi hj hij hx hy ha hw hs) fun E s H h => by
  obtain ⟨F, rr, M, Z, s0, w, e, h, k⟩ := h
  refine ⟨F, rr, M, _, s0, w, e, h, fun ds M1 h1 F1 H1 vs s1 w1 r1 => ?_⟩
  cases r1 with
  | nil => exact False.elim h1
  | cons q1 r1 =>
    cases r1 with
    | nil => exact False.elim h1
    | cons q2 r1 =>
      cases r1 with
      | nil => exact ⟨_, _, rfl, k.nx _ M1 h1 F1 _ H1 s1 w1 (((e.mono s1).set i q1).set j q2)⟩
      | cons _ _ => exact False.elim h1
end
end Zl

/-! Zl4: loops, comprehensions -/
namespace Zl
open PySem L2
/-- a walked list that may change must stay as it was -/
abbrev Ck := Option (Addr × List D)
def zck (c : Ck) (M : Mh) (P : Prop) : Prop := match c with
  | none => P
  | some (p, ds) => M p = some (.lst ds) ∧ P
def ckOk (c : Ck) (M : Mh) : Prop := match c with
  | none => True
  | some (p, ds) => M p = some (.lst ds)
theorem zck_out {c : Ck} {M : Mh} {P : Prop} (h : zck c M P) : ckOk c M ∧ P := by
  cases c with
  | none => exact ⟨trivial, h⟩
  | some x => exact h
@[simp] theorem zck_none {M : Mh} {P : Prop} : zck none M P = P := rfl
abbrev ZI := Env → Mh → (List D → Ck → Mh → Prop) → Prop
/-- the iterator J walks ds -/
def ItZ (K : PySem.W.Frag) (mg : Str → Option Value) (F : Fz) (J : It) (ds : List D) (c : Ck) : Prop := ∀ (F1 : Fz) (H1 : Hp) (M1 : Mh), Same F.f F1.f → Wd K mg F1 H1 M1 → ckOk c M1 →
  (∀ (i : Nat) (d : D), ds[i]? = some d → J.go i H1 ∧ ∀ x H2, J.yld i H1 x H2 → ∃ F2, Le F1 F2 ∧ Wd K mg F2 H2 M1 ∧ Rep K mg F2 x d) ∧ J.stop ds.length H1
def upI (K : PySem.W.Frag) (mg : Str → Option Value) (F0 : Fz) (zi : ZI) : TI := fun s H R => ∃ (F : Fz) (r : Env) (M : Mh) (RR : List D → Ck → Mh → Prop), Ge F0 F ∧ Wd K mg F H M ∧ RepE K mg F s r ∧ zi r M RR ∧
  ∀ ds c M', RR ds c M' → ∀ F' H' J, Le F F' → Wd K mg F' H' M' → ItZ K mg F' J ds c → ds.length ≤ sizeLine → R J H'
def onLst (d : D) (M : Mh) (k : List D → Ck → Prop) : Prop := match d with
  | .lst ds => k ds none
  | .ref p => (match M p with | some (.lst ds) => k ds (some (p, ds)) | _ => False)
  | _ => False
def onTup (d : D) (k : List D → Prop) : Prop := match d with | .tup ds => k ds | _ => False
def onStr (d : D) (k : Str → Prop) : Prop := match d with | .str s => k s | _ => False
def onI1 (ds : List D) (k : Int → Prop) : Prop := match ds with | [.int i] => k i | _ => False
def onI2 (ds : List D) (k : Int → Int → Prop) : Prop := match ds with | [.int i, .int j] => k i j | _ => False
def ziList (a : ZE) : ZI := fun r M Q => a r M fun d M1 => onLst d M1 fun ds c => Q ds c M1
def ziTup (a : ZE) : ZI := fun r M Q => a r M fun d M1 => onTup d fun ds => Q ds none M1
def charsD (s : Str) : List D := s.cps.toList.map fun c => .str ⟨#[c]⟩
def ziStr (a : ZE) : ZI := fun r M Q => a r M fun d M1 => onStr d fun s => Q (charsD s) none M1
/-- lo, lo + c, .. -/
def rangeD (lo c : Int) : Nat → List D
  | 0 => []
  | n + 1 => .int lo :: rangeD (lo + c) c n
def ziRange (ta : ZA) : ZI := fun r M Q => ta r M fun ds M1 => onI1 ds fun j => -(2 ^ 62) ≤ j ∧ j ≤ 16777216 ∧ Q (rangeD 0 1 j.toNat) none M1
def ziRange2 (ta : ZA) : ZI := fun r M Q => ta r M fun ds M1 => onI2 ds fun i j => -(2 ^ 62) ≤ i ∧ i < 2 ^ 62 ∧ -(2 ^ 62) ≤ j ∧ j < 2 ^ 62 ∧ j - i ≤ 16777216 ∧ Q (rangeD i 1 (j - i).toNat) none M1
def ziRange3 (ta : ZA) : ZI := fun r M Q => ta r M fun ds M1 => match ds with
  | [.int i, .int j, .int s] => ∃ n, RgC i j s n ∧ n ≤ 16777216 ∧ Q (rangeD i s n) none M1
  | _ => False
def enumD (i : Nat) : List D → List D
  | [] => []
  | d :: r => .tup [.int (i : Nat), d] :: enumD (i + 1) r
def ziEnum (ta : ZA) : ZI := fun r M Q => ta r M fun ds M1 => match ds with
  | [.lst ds] => Q (enumD 0 ds) none M1
  | _ => False
theorem rangeD_get : ∀ (n : Nat) (lo c : Int) (i : Nat) (d : D), (rangeD lo c n)[i]? = some d → i < n ∧ d = .int (lo + (i : Nat) * c)
  | 0, _, _, _, _, h => by simp [rangeD] at h
  | n + 1, lo, c, 0, d, h => by
    simp [rangeD] at h; subst h
    exact ⟨Nat.succ_pos _, by simp⟩
  | n + 1, lo, c, i + 1, d, h => by
    have h' : (rangeD (lo + c) c n)[i]? = some d := by simpa [rangeD] using h
    obtain ⟨h1, h2⟩ := rangeD_get n (lo + c) c i d h'
    refine ⟨Nat.succ_lt_succ h1, ?_⟩
    rw [h2, Int.natCast_add, Int.add_mul]
    congr 1
    simp only [Int.natCast_one, Int.one_mul]
    omega
theorem rangeD_len : ∀ (n : Nat) (lo c : Int), (rangeD lo c n).length = n
  | 0, _, _ => rfl
  | n + 1, lo, c => congrArg (· + 1) (rangeD_len n (lo + c) c)
theorem enumD_get : ∀ (ds : List D) (k i : Nat) (d : D), (enumD k ds)[i]? = some d → ∃ e, ds[i]? = some e ∧ d = .tup [.int ((k + i : Nat) : Int), e]
  | [], _, _, _, h => by simp [enumD] at h
  | e :: r, k, 0, d, h => by
    simp [enumD] at h; subst h
    exact ⟨e, rfl, rfl⟩
  | e :: r, k, i + 1, d, h => by
    have h' : (enumD (k + 1) r)[i]? = some d := by simpa [enumD] using h
    obtain ⟨x, h1, h2⟩ := enumD_get r (k + 1) i d h'
    refine ⟨x, by simpa using h1, ?_⟩
    rw [h2, show k + 1 + i = k + (i + 1) by omega]
theorem enumD_len : ∀ (ds : List D) (k : Nat), (enumD k ds).length = ds.length
  | [], _ => rfl
  | _ :: r, k => congrArg (· + 1) (enumD_len r (k + 1))
section
variable {K : PySem.W.Frag} {mg : Str → Option Value} {F : Fz}
theorem it_at {F1 : Fz} {H1 : Hp} {M1 : Mh} {a : Addr} {vs : List V} {ds : List D} (w : Wd K mg F1 H1 M1) (e : H1 a = some (.lst vs)) (r : RepL K mg F1 vs ds) :
    (∀ (i : Nat) (d : D), ds[i]? = some d → (Itl K a).go i H1 ∧ ∀ x H2, (Itl K a).yld i H1 x H2 → ∃ F2, Le F1 F2 ∧ Wd K mg F2 H2 M1 ∧ Rep K mg F2 x d) ∧ (Itl K a).stop ds.length H1 := by
  refine ⟨fun i d hd => ?_, ⟨vs, SqL.of e, by rw [r.length]; exact Nat.le_refl _⟩⟩
  obtain ⟨v, hv, rv⟩ := r.get hd
  refine ⟨⟨vs, v, SqL.of e, hv⟩, fun x H2 ⟨h1, h2⟩ => ?_⟩
  subst h1
  have := h2 vs (SqL.of e)
  rw [hv] at this; cases this
  exact ⟨F1, Le.refl _, w, rv⟩
theorem itz_list {a : Addr} {vs : List V} {ds : List D} (q : F.f a = some (.lst vs)) (r : RepL K mg F vs ds) : ItZ K mg F (Itl K a) ds none := fun F1 H1 M1 s w ck => it_at w (w.sub _ _ (s _ _ q)) (r.monoF s)
theorem itz_ref {a : Addr} {ds : List D} : ItZ K mg F (Itl K a) ds (some (a, ds)) := fun F1 H1 M1 s w ck => by
  obtain ⟨_, vs, hv, _, rl⟩ := w.mu a _ ck
  exact it_at w hv rl
theorem itz_tup {a : Addr} {vs : List V} {ds : List D} (q : SqT K F.f a vs) (r : RepL K mg F vs ds) : ItZ K mg F (Itt K a) ds none := by
  intro F1 H1 M1 s w ck
  have e : SqT K H1 a vs := same_sqT w.same (same_sqT s q)
  refine ⟨fun i d hd => ?_, ⟨vs, e, by rw [r.length]; exact Nat.le_refl _⟩⟩
  obtain ⟨v, hv, rv⟩ := r.get hd
  refine ⟨⟨vs, v, e, hv⟩, fun x H2 ⟨h1, h2⟩ => ?_⟩
  subst h1
  have := h2 vs e
  rw [hv] at this; cases this
  exact ⟨F1, Le.refl _, w, rv.monoF s⟩
theorem itz_range {lo c : Int} {n : Nat} : ItZ K mg F (Itc lo c n) (rangeD lo c n) none := by
  intro F1 H1 M1 s w ck
  refine ⟨fun i d hd => ?_, by show n ≤ _; rw [rangeD_len]; exact Nat.le_refl _⟩
  obtain ⟨h1, h2⟩ := rangeD_get n lo c i d hd
  refine ⟨h1, fun x H2 ⟨e1, e2⟩ => ?_⟩
  subst e1 e2 h2
  exact ⟨F1, Le.refl _, w, .int _⟩
theorem itz_range1 {lo : Int} {n : Nat} : ItZ K mg F (Itr lo n) (rangeD lo 1 n) none := by
  intro F1 H1 M1 s w ck
  refine ⟨fun i d hd => ?_, by show n ≤ _; rw [rangeD_len]; exact Nat.le_refl _⟩
  obtain ⟨h1, h2⟩ := rangeD_get n lo 1 i d hd
  refine ⟨h1, fun x H2 ⟨e1, e2⟩ => ?_⟩
  subst e1 e2 h2
  rw [Int.mul_one]
  exact ⟨F1, Le.refl _, w, .int _⟩
theorem itz_str {z : Str} (h : PyData.strOk z = true) : ItZ K mg F (Its z) (charsD z) none := by
  intro F1 H1 M1 s w ck
  refine ⟨fun i d hd => ?_, by show z.cps.size ≤ _; unfold charsD; rw [List.length_map, Array.length_toList]; exact Nat.le_refl _⟩
  unfold charsD at hd
  rw [List.getElem?_map] at hd
  cases e : z.cps.toList[i]? with
  | none => rw [e] at hd; cases hd
  | some c =>
    rw [e] at hd
    have hd' := Option.some.inj hd
    have hi : i < z.cps.size := by
      have := (List.getElem?_eq_some_iff.mp e).1
      rwa [Array.length_toList] at this
    refine ⟨hi, fun x H2 ⟨e1, c', e2, e3⟩ => ?_⟩
    have ec : c' = c := by
      rw [← Array.getElem?_toList, e] at e2
      exact (Option.some.inj e2).symm
    subst e1 e3 ec
    rw [← hd']
    refine ⟨F1, Le.refl _, w, .str ?_ (by show 1 ≤ sizeLine; decide)⟩
    unfold PyData.strOk at *
    rw [← Array.all_toList] at h ⊢
    have := List.all_eq_true.mp h c' (List.mem_of_getElem? e)
    simpa using this
theorem itz_enum {a : Addr} {vs : List V} {ds : List D} (e0 : F.f a = some (.lst vs)) (r : RepL K mg F vs ds) : ItZ K mg F (Ite K a) (enumD 0 ds) none := by
  intro F1 H1 M1 s w ck
  have e := w.sub _ _ (s _ _ e0)
  refine ⟨fun i d hd => ?_, ⟨vs, SqL.of e, by rw [enumD_len, r.length]; exact Nat.le_refl _⟩⟩
  obtain ⟨x, h1, h2⟩ := enumD_get ds 0 i d hd
  obtain ⟨v, hv, rv⟩ := r.get h1
  refine ⟨⟨vs, v, SqL.of e, hv⟩, fun y H2 ⟨T, x', e1, e2, e3, e4⟩ => ?_⟩
  have := e4 vs (SqL.of e)
  rw [hv] at this; cases this
  subst e1 e3 h2
  obtain ⟨s1, w1⟩ := w.laidF (o := .tup [.int (i : Nat), v]) e2
  refine ⟨_, s1, w1, .tup (SqT.of upd_same) (by show 2 ≤ sizeLine; decide) ?_⟩
  rw [Nat.zero_add]
  exact .cons (.int _) (.cons ((rv.monoF s).mono s1) .nil)
end
section
variable {X : Cx} {F0 : Fz} {tg a b c : Expr} {fa fb fc : ZE} {pos p : Pos}
theorem pi_imp {iter : Expr} {w w' : TI} (h : PI X tg iter w) (i : ∀ s H R, w' s H R → w s H R) : PI X tg iter w' := ⟨fun pins s r H R I q => h.run pins s r H R I (i _ _ _ q)⟩
theorem zi_list (ha : PE X a (UE X F0 fa)) : PI X tg a (upI X.K X.mg F0 (ziList fa)) := pi_imp (pi_list ha) fun s H R h => by
  obtain ⟨F, rr, M, RR, s0, w, e, h, k⟩ := h
  refine ⟨F, rr, M, _, s0, w, e, h, fun d M1 h1 F1 H1 v s1 w1 r1 => ?_⟩
  cases d with
  | lst ds =>
    cases r1 with
    | lst q l rl => exact ⟨_, rfl, ⟨_, SqL.of (w1.sub _ _ q)⟩, k _ _ M1 h1 F1 H1 _ s1 w1 (itz_list q rl) (by rw [← rl.length]; exact l)⟩
  | ref p =>
    cases r1
    have h1' : (match M1 p with | some (.lst ds) => RR ds (some (p, ds)) M1 | _ => False) := h1
    cases e1 : M1 p with
    | none => rw [e1] at h1'; exact h1'.elim
    | some m =>
      cases m with
      | lst ds =>
        rw [e1] at h1'
        obtain ⟨_, vs, hv, l, rl⟩ := w1.mu p _ e1
        exact ⟨p, rfl, ⟨_, SqL.of hv⟩, k _ _ M1 h1' F1 H1 _ s1 w1 itz_ref (by rw [← rl.length]; exact l)⟩
      | ins c fs => rw [e1] at h1'; exact h1'.elim
      | town => rw [e1] at h1'; exact h1'.elim
  | _ => exact False.elim h1
theorem zi_tup (ha : PE X a (UE X F0 fa)) : PI X tg a (upI X.K X.mg F0 (ziTup fa)) := pi_imp (pi_tup ha) fun s H R h => by
  obtain ⟨F, rr, M, RR, s0, w, e, h, k⟩ := h
  refine ⟨F, rr, M, _, s0, w, e, h, fun d M1 h1 F1 H1 v s1 w1 r1 => ?_⟩
  cases d with
  | tup ds =>
    cases r1 with
    | tup q l rl => exact ⟨_, rfl, ⟨_, same_sqT w1.same q⟩, k _ _ M1 h1 F1 H1 _ s1 w1 (itz_tup q rl) (by rw [← rl.length]; exact l)⟩
  | _ => exact False.elim h1
theorem zi_str (ha : PE X a (UE X F0 fa)) : PI X tg a (upI X.K X.mg F0 (ziStr fa)) := pi_imp (pi_str ha) fun s H R h => by
  obtain ⟨F, rr, M, RR, s0, w, e, h, k⟩ := h
  refine ⟨F, rr, M, _, s0, w, e, h, fun d M1 h1 F1 H1 v s1 w1 r1 => ?_⟩
  cases d with
  | str z =>
    cases r1 with
    | str o1 o2 => exact ⟨_, rfl, k _ _ M1 h1 F1 H1 _ s1 w1 (itz_str o1) (by unfold charsD; rw [List.length_map, Array.length_toList]; exact o2)⟩
  | _ => exact False.elim h1
theorem zi_range1 {ta : ZA} (hm : X.mg "range" = none) (ha : PA X [a] (UA X F0 ta)) (hg : Gl X "range" := by rfl) (hs : starEach [a] X.env = [(false, eval a X.env)] := by rfl) : PI X tg (.Call (.Name "range" p) [a] [] pos) (upI X.K X.mg F0 (ziRange ta)) :=
  pi_imp (pi_range1 hg hm ha hs) fun s H R h => by
  obtain ⟨F, rr, M, RR, s0, w, e, h, k⟩ := h
  refine ⟨F, rr, M, _, s0, w, e, h, fun ds M1 h1 F1 H1 v s1 w1 r1 => ?_⟩
  try unfold onI1 at h1
  try unfold onI2 at h1
  split at h1
  · cases r1 with
    | cons q r1 => cases r1; cases q; exact ⟨_, rfl, h1.1, by have := h1.2.1; omega, k _ _ M1 h1.2.2 F1 H1 _ s1 w1 itz_range1 (by rw [rangeD_len, sizeLine_eq]; have := h1.2.1; omega)⟩
  · exact h1.elim
theorem zi_range2 {ta : ZA} (hm : X.mg "range" = none) (ha : PA X [a, b] (UA X F0 ta)) (hg : Gl X "range" := by rfl) (hs : starEach [a, b] X.env = [(false, eval a X.env), (false, eval b X.env)] := by rfl) (hs2 : starEach [b] X.env = [(false, eval b X.env)] := by rfl) :
    PI X tg (.Call (.Name "range" p) [a, b] [] pos) (upI X.K X.mg F0 (ziRange2 ta)) := pi_imp (pi_range2 hg hm ha hs hs2) fun s H R h => by
  obtain ⟨F, rr, M, RR, s0, w, e, h, k⟩ := h
  refine ⟨F, rr, M, _, s0, w, e, h, fun ds M1 h1 F1 H1 v s1 w1 r1 => ?_⟩
  try unfold onI1 at h1
  try unfold onI2 at h1
  split at h1
  · cases r1 with
    | cons q r1 =>
      cases r1 with
      | cons q2 r1 => cases r1; cases q; cases q2; exact ⟨_, _, rfl, ⟨h1.1, h1.2.1, h1.2.2.1, h1.2.2.2.1⟩, k _ _ M1 h1.2.2.2.2.2 F1 H1 _ s1 w1 itz_range1 (by rw [rangeD_len, sizeLine_eq]; have := h1.2.2.2.2.1; omega)⟩
  · exact h1.elim
theorem zi_range3 {ta : ZA} (hm : X.mg "range" = none) (ha : PA X [a, b, c] (UA X F0 ta)) (hg : Gl X "range" := by rfl) (he : starEach [a, b, c] X.env = (false, eval a X.env) :: starEach [b, c] X.env := by rfl) (hpl : (backTo pos (starEach [b, c] X.env)).any (·.1) = false := by rfl) :
    PI X tg (.Call (.Name "range" p) [a, b, c] [] pos) (upI X.K X.mg F0 (ziRange3 ta)) := pi_imp (pi_range3 hg hm ha he hpl) fun s H R h => by
  obtain ⟨F, rr, M, RR, s0, w, e, h, k⟩ := h
  refine ⟨F, rr, M, _, s0, w, e, h, fun ds M1 h1 F1 H1 v s1 w1 r1 => ?_⟩
  try unfold onI1 at h1
  try unfold onI2 at h1
  split at h1
  · cases r1 with
    | cons q r1 =>
      cases r1 with
      | cons q2 r1 =>
        cases r1 with
        | cons q3 r1 => cases r1; cases q; cases q2; cases q3; obtain ⟨n, h4, h6, h5⟩ := h1; exact ⟨_, _, _, n, rfl, h4, k _ _ M1 h5 F1 H1 _ s1 w1 itz_range (by rw [rangeD_len, sizeLine_eq]; exact h6)⟩
  · exact h1.elim
theorem zi_enum {elts : List Expr} {kk : Nat} {tpos : Pos} {ta : ZA} (hm : X.mg "enumerate" = none) (ha : PA X [a] (UA X F0 ta)) (hg : Gl X "enumerate" := by rfl) (hs : starEach [a] X.env = [(false, eval a X.env)] := by rfl) :
    PI X (.Tuple elts kk tpos) (.Call (.Name "enumerate" p) [a] [] pos) (upI X.K X.mg F0 (ziEnum ta)) := pi_imp (pi_enum hg hm ha hs) fun s H R h => by
  obtain ⟨F, rr, M, RR, s0, w, e, h, k⟩ := h
  refine ⟨F, rr, M, _, s0, w, e, h, fun ds M1 h1 F1 H1 v s1 w1 r1 => ?_⟩
  try unfold onI1 at h1
  try unfold onI2 at h1
  split at h1
  · cases r1 with
    | cons q r1 =>
      cases r1
      cases q with
      | lst q l rl => exact ⟨_, _, rfl, SqL.of (w1.sub _ _ q), k _ _ M1 h1 F1 H1 _ s1 w1 (itz_enum q rl) (by rw [enumD_len, ← rl.length]; exact l)⟩
  · exact h1.elim
/-! ### for -/
def zLoop (c : Ck) (step : D → (Env → Mh → Prop) → Env → Mh → Prop) (nx : Env → Mh → Prop) : List D → Env → Mh → Prop
  | [], r, M => zck c M (nx r M)
  | d :: l, r, M => zck c M (step d (zLoop c step nx l) r M)
def zStep (g : ZG) (tb : ZS) (E : ZEnds) : D → (Env → Mh → Prop) → Env → Mh → Prop := fun d k r M => g d r M fun r' M' => tb { nx := k, rt := E.rt, bk := E.nx, ct := k } r' M'
def zFor (zi : ZI) (g : ZG) (tb : ZS) : ZS := fun E r M => zi r M fun ds c M1 => zLoop c (zStep g tb E) E.nx ds r M1
theorem drop_some {α : Type} {ds : List α} {i : Nat} {d : α} (h : ds[i]? = some d) : ds.drop i = d :: ds.drop (i + 1) := by
  obtain ⟨hi, e⟩ := List.getElem?_eq_some_iff.mp h
  rw [List.drop_eq_getElem_cons hi, e]
theorem zs_for {iter : Expr} {body : List Stmt} {zi : ZI} {g : ZG} {tb : ZS} (hp : PassesOwn (model X.prog X.w) X.A X.env X.xe) (hc : X.calm = true) (hi : PI X tg iter (upI X.K X.mg F0 zi)) (hg : PG X tg (UG X F0 g)) (hb : PSs X body (US X F0 tb))
    (hs : ∀ x, foldedSetIterable iter X.env x = pure x := by intro _; rfl) : PS X (.For tg iter body [] pos) (US X F0 (zFor zi g tb)) := ps_imp (ps_for hp hc hi hg hb hs) fun E s H h => by
  obtain ⟨F, rr, M, Z, s0, w, e, h, k⟩ := h
  refine ⟨F, rr, M, _, s0, w, e, h, fun ds c M1 h1 F1 H1 J s1 w1 itz _ => ?_⟩
  refine ⟨fun i m s H => i + m = ds.length ∧ ∃ F r M, Le F1 F ∧ Wd X.K X.mg F H M ∧ RepE X.K X.mg F s r ∧ zLoop c (zStep g tb Z) Z.nx (ds.drop i) r M,
    ⟨ds.length, by omega, F1, rr, M1, Le.refl _, w1, e.mono s1, h1⟩, ?_⟩
  rintro i m s' H' ⟨hm, F2, r2, M2, s2, w2, e2, hl⟩
  cases hd : ds[i]? with
  | none =>
    have hi : i = ds.length := by
      have := List.getElem?_eq_none_iff.mp hd
      omega
    rw [hi, List.drop_length] at hl
    obtain ⟨ck, hn⟩ := zck_out hl
    refine .inl ⟨?_, k.nx _ _ hn F2 _ _ (s1.trans s2) w2 e2⟩
    rw [hi]
    exact (itz F2 H' M2 s2.f w2 ck).2
  | some d =>
    have hlt := (List.getElem?_eq_some_iff.mp hd).1
    rw [drop_some hd] at hl
    obtain ⟨ck, hn⟩ := zck_out hl
    obtain ⟨go, yl⟩ := (itz F2 H' M2 s2.f w2 ck).1 i d hd
    refine .inr ⟨go, fun s H => ∃ F r M, Le F1 F ∧ Wd X.K X.mg F H M ∧ RepE X.K X.mg F s r ∧ zLoop c (zStep g tb Z) Z.nx (ds.drop (i + 1)) r M, fun s3 H3 h3 => ⟨ds.length - (i + 1), by omega, by omega, h3⟩, fun x H3 hy => ?_⟩
    obtain ⟨F3, s3, w3, rx⟩ := yl x H3 hy
    refine ⟨F3, r2, M2, d, _, (s0.trans s1).trans (s2.trans s3), w3, e2.mono s3, rx, hn, fun r4 M4 h4 F4 s4 H4 s5 w4 e4 => ?_⟩
    have ss := s2.trans (s3.trans s5)
    refine ⟨F4, r4, M4, _, (s0.trans s1).trans ss, w4, e4, h4, ⟨fun r5 M5 h5 F5 s5' H5 s6 w5 e5 => ⟨F5, r5, M5, ss.trans s6, w5, e5, h5⟩, k.rt.mono (s1.trans ss), k.nx.mono (s1.trans ss), fun r5 M5 h5 F5 s5' H5 s6 w5 e5 => ⟨F5, r5, M5, ss.trans s6, w5, e5, h5⟩⟩⟩
/-! ### while -/
def zWhileN (t : ZT) (tb : ZS) (E : ZEnds) : Nat → Env → Mh → Prop
  | 0 => fun _ _ => False
  | n + 1 => fun r M => t r M fun b M1 => bsel b (tb { nx := zWhileN t tb E n, rt := E.rt, bk := E.nx, ct := zWhileN t tb E n } r M1) (E.nx r M1)
def zWhile (t : ZT) (tb : ZS) : ZS := fun E r M => ∃ n, zWhileN t tb E n r M
theorem zs_while {body : List Stmt} {tc : ZT} {tb : ZS} (hp : PassesOwn (model X.prog X.w) X.A X.env X.xe) (hc : PT X c (UT X F0 tc)) (hb : PSs X body (US X F0 tb)) : PS X (.While c body [] pos) (US X F0 (zWhile tc tb)) := ps_imp (ps_while hp hc hb) fun E s H h => by
  obtain ⟨F, rr, M, Z, s0, w, e, ⟨n, h⟩, k⟩ := h
  refine ⟨fun m s H => ∃ F1 r M, Le F F1 ∧ Wd X.K X.mg F1 H M ∧ RepE X.K X.mg F1 s r ∧ zWhileN tc tb Z m r M, ⟨n, F, rr, M, Le.refl _, w, e, h⟩, ?_⟩
  rintro m s' H' ⟨F1, r1, M1, s1, w1, e1, h1⟩
  cases m with
  | zero => exact False.elim h1
  | succ m =>
    refine ⟨F1, r1, M1, _, s0.trans s1, w1, e1, h1, fun b M2 h2 F2 H2 s2 w2 => ?_⟩
    cases b with
    | false => 
      rw [if_neg Bool.false_ne_true]
      exact k.nx _ _ h2 F2 _ _ (s1.trans s2) w2 (e1.mono s2)
    | true =>
      rw [if_pos rfl]
      refine ⟨fun s H => ∃ F1 r M, Le F F1 ∧ Wd X.K X.mg F1 H M ∧ RepE X.K X.mg F1 s r ∧ zWhileN tc tb Z m r M, fun s3 H3 h3 => ⟨m, Nat.lt_succ_self m, h3⟩, F2, r1, M2, _, (s0.trans s1).trans s2, w2, e1.mono s2, h2, ?_⟩
      have ss := s1.trans s2
      exact ⟨fun r5 M5 h5 F5 s5 H5 s6 w5 e5 => ⟨F5, r5, M5, ss.trans s6, w5, e5, h5⟩, k.rt.mono ss, k.nx.mono ss, fun r5 M5 h5 F5 s5 H5 s6 w5 e5 => ⟨F5, r5, M5, ss.trans s6, w5, e5, h5⟩⟩
/-! ### list comprehensions -/
def zYes : ZT := fun _ M Q => Q true M
def zLcL (c : Ck) (step : D → Mh → (Option D → Mh → Prop) → Prop) (k : List D → Mh → Prop) : List D → List D → Mh → Prop
  | [], acc, M => zck c M (k acc M)
  | d :: l, acc, M => zck c M (step d M fun o M' => match o with
    | none => zLcL c step k l acc M'
    | some y => zLcL c step k l (acc ++ [y]) M')
def zLcS (g : ZG) (tt : ZT) (te : ZE) (r : Env) : D → Mh → (Option D → Mh → Prop) → Prop := fun d M Q => g d r M fun r' M' => tt r' M' fun b M1 => bsel b (te r' M1 fun y M2 => Q (some y) M2) (Q none M1)
def zLc (nb : Bool) (zi : ZI) (g : ZG) (tt : ZT) (te : ZE) (vs : List Nat) : ZE := fun r M Q => zi r M fun ds c M1 => zLcL c (zLcS g tt te (zwipe r vs)) (fun acc M2 => zNew nb acc M2 Q) ds [] M1
end
end Zl

/-! Zl5: list comprehensions -/
namespace Zl
open PySem L2
theorem wipe_in {s : St} {i : Nat} : ∀ {vs : List Nat}, i ∈ vs → (wipe s vs)[i]? = s[i]?.map fun _ => none
  | v :: vs, h => by
    show ((wipe s vs).set v none)[i]? = _
    by_cases hi : v = i
    · subst hi
      rw [List.getElem?_set_self', ]
      cases e : (wipe s vs)[v]? with
      | none =>
        have := List.getElem?_eq_none_iff.mp e
        rw [wipe_length] at this
        rw [List.getElem?_eq_none_iff.mpr this]; rfl
      | some x =>
        have := (List.getElem?_eq_some_iff.mp e).1
        rw [wipe_length] at this
        rw [List.getElem?_eq_getElem this]; rfl
    · rw [List.getElem?_set_ne hi]
      rcases List.mem_cons.mp h with e | h
      · exact absurd e.symm hi
      · exact wipe_in h
theorem wipe_set {s : St} {i : Nat} {x : Option V} {vs : List Nat} (h : i ∈ vs) : wipe (s.set i x) vs = wipe s vs := by
  apply List.ext_getElem?
  intro j
  by_cases hj : j ∈ vs
  · rw [wipe_in hj, wipe_in hj, List.getElem?_set]
    by_cases e : i = j
    · subst e
      rw [if_pos rfl]
      by_cases hl : i < s.length
      · rw [if_pos hl, List.getElem?_eq_getElem hl]; rfl
      · rw [if_neg hl, List.getElem?_eq_none_iff.mpr (by omega)]
    · rw [if_neg e]
  · rw [wipe_out hj, wipe_out hj, List.getElem?_set_ne (fun e : i = j => hj (e ▸ h))]
theorem wipe_wipe {s : St} {vs : List Nat} : wipe (wipe s vs) vs = wipe s vs := by
  apply List.ext_getElem?
  intro j
  by_cases hj : j ∈ vs
  · rw [wipe_in hj, wipe_in hj]
    cases s[j]? <;> rfl
  · rw [wipe_out hj]
section
variable {K : PySem.W.Frag} {mg : Str → Option Value} {F : Fz} {H : Hp} {M : Mh}
theorem Wd.unhideM {a : Addr} {vs : List V} {ds : List D} {u : Hp} (w : Wd K mg F H M) (h : F.u a = some (.lst vs)) (l : vs.length ≤ sizeLine) (q : RepL K mg F vs ds) (hu : Same u F.u) (ha : u a = none) : Wd K mg ⟨F.f, u⟩ H (mup M a (.lst ds)) := by
  obtain ⟨h0, f0, m0⟩ := w.un a _ h
  refine ⟨w.sub, fun b o e => ?_, fun b m e => ?_⟩
  · have hb : b ≠ a := ne_of_none (show u b = some o from e) ha
    obtain ⟨q1, q2, q3⟩ := w.un b o (hu b o e)
    exact ⟨q1, q2, by rw [mup_ne hb]; exact q3⟩
  · by_cases hb : b = a
    · subst hb; rw [mup_same] at e; cases e
      exact ⟨f0, vs, h0, l, q.monoF (F := F) (F' := ⟨F.f, u⟩) (Same.refl _)⟩
    · rw [mup_ne hb] at e
      obtain ⟨q1, r⟩ := w.mu b m e
      refine ⟨q1, r.stay (F := F) (F' := ⟨F.f, u⟩) (Same.refl _) rfl (fun c _ hf hc hm => ⟨rfl, hf, hu.free hc, ?_⟩) fun t z => ?_⟩
      · rw [mup_ne (fun z => by rw [z, h] at hc; cases hc)]; exact hm
      · by_cases ht : t = a
        · subst ht; rw [mup_same] at z; cases z
        · rw [mup_ne ht] at z; exact z
theorem Wd.unhideF {a : Addr} {vs : List V} {u : Hp} (w : Wd K mg F H M) (h : F.u a = some (.lst vs)) (hu : Same u F.u) (ha : u a = none) : Wd K mg ⟨upd F.f a (.lst vs), u⟩ H M := by
  obtain ⟨h0, f0, m0⟩ := w.un a _ h
  refine ⟨fun b o e => ?_, fun b o e => ?_, fun b m e => ?_⟩
  · have e : upd F.f a (.lst vs) b = some o := e
    by_cases hb : b = a
    · subst hb; rw [upd_same] at e; cases e; exact h0
    · rw [upd_ne hb] at e; exact w.sub b o e
  · have hb : b ≠ a := ne_of_none (show u b = some o from e) ha
    obtain ⟨q1, q2, q3⟩ := w.un b o (hu b o e)
    exact ⟨q1, (upd_ne hb).trans q2, q3⟩
  · have hb : b ≠ a := ne_of_m e m0
    obtain ⟨q1, r⟩ := w.mu b m e
    refine ⟨(upd_ne hb).trans q1, r.stay (F := F) (F' := ⟨upd F.f a (.lst vs), u⟩) (same_upd f0) rfl (fun c _ hf hc hm => ⟨rfl, ?_, hu.free hc, hm⟩) fun t z => z⟩
    exact (upd_ne (fun z => by rw [z, h] at hc; cases hc)).trans hf
/-- a comprehension's target: what it stores it stores in its own slots -/
def TgOk (K : PySem.W.Frag) (mg : Str → Option Value) (g : TG) (zg : ZG) (vs : List Nat) : Prop := ∀ (F : Fz) (H : Hp) (M : Mh) (x : V) (d : D) (s : St) (r : Env) (Q : St → Hp → Prop) (R : Env → Mh → Prop), Wd K mg F H M → Rep K mg F x d → RepE K mg F s r → zg d r M R →
  (∀ r' s', R r' M → RepE K mg F s' r' → wipe s' vs = wipe s vs → Q s' H) → g x s H Q
theorem tg_name {i : Nat} {vs : List Nat} (h : i ∈ vs) : TgOk K mg (gName i) (zgName i) vs := fun F H M x d s r Q R w rx e z k => k _ _ z (e.set i rx) (wipe_set h)
def zgPair (i j : Nat) : ZG := zgTup 2 (zgCons (zgName i) (zgCons (zgName j) zgNil))
theorem tg_pair {i j : Nat} {vs : List Nat} (h : i ∈ vs) (h' : j ∈ vs) : TgOk K mg (gTup K 2 (gCons (gName i) (gCons (gName j) gNil))) (zgPair i j) vs := fun F H M x d s r Q R w rx e z k => by
  cases d with
  | tup ds =>
    cases rx with
    | tup q l rl =>
      obtain ⟨hl, z⟩ := (show ds.length = 2 ∧ zgCons (zgName i) (zgCons (zgName j) zgNil) ds r M R from z)
      cases rl with
      | nil => cases hl
      | cons a1 rl =>
        cases rl with
        | nil => cases hl
        | cons a2 rl =>
          cases rl with
          | nil =>
            refine ⟨_, _, rfl, same_sqT w.same q, rfl, _, _, rfl, _, _, rfl, rfl, k _ _ z ((e.set i a1).set j a2) ?_⟩
            rw [wipe_set h', wipe_set h]
          | cons _ _ => cases hl
  | _ => exact False.elim z
end
section
variable {X : Cx} {F0 : Fz} {tg elt iter : Expr} {ifs : List Expr} {scope : Scope} {own : List (Str × Nat)} {pos : Pos} {zi : ZI} {g : TG} {zg : ZG} {tt : ZT} {te : ZE}
theorem pts_imp {t t' : TT} (h : PTs X ifs t) (i : ∀ s H Q, t' s H Q → t s H Q) : PTs X ifs t' := ⟨fun pins s r H Q I q => h.run pins s r H Q I (i _ _ _ q)⟩
theorem zts_nil : PTs X [] (UT X F0 zYes) := pts_imp pts_nil fun s H Q h => by
  obtain ⟨F, rr, M, R, s0, w, e, h, k⟩ := h
  exact k true M h F H (Le.refl _) w
theorem zts_one {c : Expr} (h : PT X c (UT X F0 tt)) : PTs X [c] (UT X F0 tt) := pts_one h
theorem lc_low (nb : Bool) (ok : TgOk X.K X.mg g zg (own.map (·.2))) {s : St} {H : Hp} {Q : VK} (h : UE X F0 (zLc nb zi zg tt te (own.map (·.2))) s H Q) : tLc (upI X.K X.mg F0 zi) g (UT X F0 tt) (UE X F0 te) (own.map (·.2)) s H Q := by
  obtain ⟨F, rr, M, R, s0, w, e, h, k⟩ := h
  generalize own.map (·.2) = vs at *
  refine ⟨F, rr, M, _, s0, w, e, h, fun ds c M1 h1 F1 H1 J s1 w1 itz hlen Da hD => ?_⟩
  obtain ⟨_, _, u0⟩ := w1.free hD
  have e1 := e.mono s1
  refine ⟨fun i m H => i + m = ds.length ∧ ∃ (Fi : Fz) (Mi : Mh) (acc : List D) (xs : List V), Same F1.f Fi.f ∧ Fi.u = upd F1.u Da (.lst xs) ∧ Wd X.K X.mg Fi H Mi ∧ RepL X.K X.mg Fi xs acc ∧ acc.length ≤ i ∧
      zLcL c (zLcS zg tt te (zwipe rr vs)) (fun acc M2 => zNew nb acc M2 R) (ds.drop i) acc Mi, ⟨ds.length, by omega, ⟨F1.f, upd F1.u Da (.lst [])⟩, M1, [], [], Same.refl _, rfl, w1.hide hD, .nil, Nat.le_refl _, h1⟩, ?_⟩
  rintro i m H2 ⟨hm, Fi, Mi, acc, xs, sf, eu, wi, ra, la, hl⟩
  have uD : Fi.u Da = some (.lst xs) := by rw [eu]; exact upd_same
  have su : Same F1.u Fi.u := by rw [eu]; exact same_upd u0
  cases hd : ds[i]? with
  | none =>
    have hi : i = ds.length := by
      have := List.getElem?_eq_none_iff.mp hd
      omega
    rw [hi, List.drop_length] at hl
    obtain ⟨ck, hn⟩ := zck_out hl
    refine .inl ⟨by rw [hi]; exact (itz Fi H2 Mi sf wi ck).2, ?_⟩
    have lx : xs.length ≤ sizeLine := by rw [ra.length]; omega
    cases nb with
    | false =>
      have w3 := wi.unhideF uD su u0
      refine k _ _ hn ⟨upd Fi.f Da (.lst xs), F1.u⟩ _ _ (s1.trans ⟨?_, rfl⟩) w3 (.lst upd_same lx (ra.monoF ?_))
      · exact sf.trans (same_upd (wi.un Da _ uD).2.1)
      · exact same_upd (wi.un Da _ uD).2.1
    | true =>
      have m0 := (wi.un Da _ uD).2.2
      exact k _ _ (hn Da m0) ⟨Fi.f, F1.u⟩ _ _ (s1.trans ⟨sf, rfl⟩) (wi.unhideM uD lx ra su u0) (.ref Da)
  | some d =>
    have hlt := (List.getElem?_eq_some_iff.mp hd).1
    rw [drop_some hd] at hl
    obtain ⟨ck, hn⟩ := zck_out hl
    obtain ⟨go, yl⟩ := (itz Fi H2 Mi sf wi ck).1 i d hd
    refine .inr ⟨go, _, fun H' hN => ⟨ds.length - (i + 1), by omega, by omega, hN⟩, fun x H3 hy => ?_⟩
    obtain ⟨F3, s3, w3, rx⟩ := yl x H3 hy
    have e3 : RepE X.K X.mg F3 (wipe s vs) (zwipe rr vs) := by
      have q := e1.wipe vs
      exact ⟨q.1, fun j d' z => let ⟨v, a, b⟩ := q.2 j d' z; ⟨v, a, b.monoF (sf.trans s3.f)⟩⟩
    have g3 : Ge F0 F3 := ⟨(s0.trans s1).f.trans (sf.trans s3.f), by rw [s3.u]; exact (s0.trans s1).u.trans su⟩
    have u3 : F3.u = upd F1.u Da (.lst xs) := s3.u.trans eu
    refine ok F3 H3 Mi x d _ _ _ _ w3 rx e3 hn fun r4 s4 h4 e4 hw => ⟨hw.trans wipe_wipe, F3, r4, Mi, _, g3, w3, e4, h4, fun b M5 h5 F5 H5 s5 w5 => ?_⟩
    cases b with
    | false =>
      rw [if_neg Bool.false_ne_true]
      exact ⟨F5, M5, acc, xs, (sf.trans s3.f).trans s5.f, s5.u.trans u3, w5, ra.monoF (s3.trans s5).f, by omega, h5⟩
    | true =>
      rw [if_pos rfl]
      refine ⟨F5, r4, M5, _, g3.trans s5, w5, e4.mono s5, h5, fun y M6 h6 F6 H6 yv s6 w6 r6 => ?_⟩
      have u6 : F6.u = upd F1.u Da (.lst xs) := (s6.u.trans s5.u).trans u3
      have uD6 : F6.u Da = some (.lst xs) := by rw [u6]; exact upd_same
      refine ⟨xs, (w6.un Da _ uD6).1, by rw [ra.length]; omega, ⟨F6.f, upd F6.u Da (.lst (xs ++ [yv]))⟩, M6, acc ++ [y], xs ++ [yv], ((sf.trans s3.f).trans s5.f).trans s6.f, by rw [u6, upd_upd], w6.rehide uD6, ?_, by rw [List.length_append]; show acc.length + 1 ≤ i + 1; omega, h6⟩
      exact ((ra.monoF (F' := F6) ((s3.trans s5).trans s6).f).append (.cons r6 .nil)).monoF (F := F6) (F' := ⟨F6.f, upd F6.u Da (.lst (xs ++ [yv]))⟩) (Same.refl _)
theorem ze_lc (nb : Bool) (hc : X.calm = true) (hN : X.N.Nodup) (hi : PI X tg iter (upI X.K X.mg F0 zi)) (ok : BlkOk X.N X.env.scope scope own) (okg : TgOk X.K X.mg g zg (own.map (·.2)))
    (hg : ∀ (s : Shared) (H : Hp) (C : Addr) (cl : List (Str × Addr)) (fp : List Addr), PG (X.blk s H scope (compEnvC scope cl C X.env) fp) tg g) (ht : ∀ (s : Shared) (H : Hp) (C : Addr) (cl : List (Str × Addr)) (fp : List Addr), PTs (X.blk s H scope (compEnvC scope cl C X.env) fp) ifs (UT X F0 tt))
    (he : ∀ (s : Shared) (H : Hp) (C : Addr) (cl : List (Str × Addr)) (fp : List Addr), PE (X.blk s H scope (compEnvC scope cl C X.env) fp) elt (UE X F0 te)) (hs : ∀ x, foldedSetIterable iter X.env x = pure x := by intro _; rfl) :
    PE X (.ListComp elt [⟨tg, iter, ifs, 0⟩] scope pos) (UE X F0 (zLc nb zi zg tt te (own.map (·.2)))) := pe_imp (pe_lc hc hN hi ok hg ht he hs) fun s H Q h => lc_low nb okg h
theorem zs_setLc (nb : Bool) {i : Nat} {y : Str} {py spos : Pos} (hc : X.calm = true) (hN : X.N.Nodup) (hsw : swapsWith (.ListComp elt [⟨tg, iter, ifs, 0⟩] scope pos) (some (.Name y py)) spos.line X.env = pure true) (hi : PI X tg iter (upI X.K X.mg F0 zi)) (ok : BlkOk X.N X.env.scope scope own) (okg : TgOk X.K X.mg g zg (own.map (·.2)))
    (hg : ∀ (s : Shared) (H : Hp) (C : Addr) (cl : List (Str × Addr)) (fp : List Addr), PG (X.blk s H scope (compEnvC scope cl C X.env) fp) tg g) (ht : ∀ (s : Shared) (H : Hp) (C : Addr) (cl : List (Str × Addr)) (fp : List Addr), PTs (X.blk s H scope (compEnvC scope cl C X.env) fp) ifs (UT X F0 tt))
    (he : ∀ (s : Shared) (H : Hp) (C : Addr) (cl : List (Str × Addr)) (fp : List Addr), PE (X.blk s H scope (compEnvC scope cl C X.env) fp) elt (UE X F0 te)) (hy : X.N[i]? = some y := by rfl) (hyl : X.env.scope.names.lookup y = some .local := by rfl) (hs : ∀ x, foldedSetIterable iter X.env x = pure x := by intro _; rfl) :
    PS X (.Assign [.Name y py] (.ListComp elt [⟨tg, iter, ifs, 0⟩] scope pos) spos) (US X F0 (zAsg (zLc nb zi zg tt te (own.map (·.2))) (zgName i))) := ps_imp (ps_setLc (i := i) hc hN hy hyl hsw hi ok hg ht he hs) fun E s H h => by
  obtain ⟨F, rr, M, Z, s0, w, e, h, k⟩ := h
  exact lc_low nb okg ⟨F, rr, M, _, s0, w, e, h, fun d M1 h1 F1 H1 v s1 w1 r1 => k.nx _ M1 h1 F1 _ H1 s1 w1 ((e.mono s1).set i r1)⟩
end
end Zl

/-! Zl6: calls, defs, raising, built-in functions -/
namespace Zl
open PySem L2
/-! ### ghost steps -/
mutual
def frzD (p : Addr) (es : List D) : D → D
  | .lst ds => .lst (frzDs p es ds)
  | .tup ds => .tup (frzDs p es ds)
  | .ref a => if a = p then .lst es else .ref a
  | .non => .non
  | .bl b => .bl b
  | .int i => .int i
  | .str x => .str x
  | .dct => .dct
  | .exc c => .exc c
  | .scr ns => .scr ns
def frzDs (p : Addr) (es : List D) : List D → List D
  | [] => []
  | d :: r => frzD p es d :: frzDs p es r
end
inductive Gh : Mh → D → Mh → D → Prop
  | refl {M : Mh} {d : D} : Gh M d M d
  | drop {M M' : Mh} {d : D} : (∀ a m, M' a = some m → M a = some m) → Gh M d M' d
  | frz {M : Mh} {d : D} {p : Addr} {ds : List D} : M p = some (.lst ds) → Gh M d (mdel M p) (frzD p ds d)
  | trans {M M1 M2 : Mh} {d d1 d2 : D} : Gh M d M1 d1 → Gh M1 d1 M2 d2 → Gh M d M2 d2
/-- .. on the slots -/
inductive GhE : Mh → Env → Mh → Env → Prop
  | refl {M : Mh} {r : Env} : GhE M r M r
  | drop {M M' : Mh} {r : Env} : (∀ a m, M' a = some m → M a = some m) → GhE M r M' r
  | frz {M : Mh} {r : Env} {p : Addr} {ds : List D} : M p = some (.lst ds) → GhE M r (mdel M p) (r.map fun o => o.map (frzD p ds))
  | trans {M M1 M2 : Mh} {r r1 r2 : Env} : GhE M r M1 r1 → GhE M1 r1 M2 r2 → GhE M r M2 r2
/-- fewer things -/
def Less (M' M : Mh) : Prop := ∀ a m, M' a = some m → M a = some m
theorem Less.refl (M : Mh) : Less M M := fun _ _ h => h
section
variable {K : PySem.W.Frag} {mg : Str → Option Value} {F F' : Fz} {H : Hp}
mutual
theorem Rep.frz {p : Addr} {es : List D} (s : Le F F') (q : Rep K mg F' (.ref p) (.lst es)) : ∀ {v : V} {d : D}, Rep K mg F v d → Rep K mg F' v (frzD p es d)
  | _, _, .non => .non
  | _, _, .bl b => .bl b
  | _, _, .int i => .int i
  | _, _, .str h h' => .str h h'
  | _, _, .lst h l r => .lst (s.f _ _ h) l (RepL.frz s q r)
  | _, _, .tup h l r => .tup (same_sqT s.f h) l (RepL.frz s q r)
  | _, _, .dct h => .dct (s.f _ _ h)
  | _, _, .exc h h' h2 => .exc h (s.f _ _ h') fun dx z => let ⟨fs, q⟩ := h2 dx z; ⟨fs, s.f _ _ q⟩
  | _, _, .scr h l => .scr (s.f.seq h) l
  | _, _, .ref a => by
    unfold frzD
    by_cases e : a = p
    · rw [if_pos e, e]; exact q
    · rw [if_neg e]; exact .ref a
theorem RepL.frz {p : Addr} {es : List D} (s : Le F F') (q : Rep K mg F' (.ref p) (.lst es)) : ∀ {vs : List V} {ds : List D}, RepL K mg F vs ds → RepL K mg F' vs (frzDs p es ds)
  | _, _, .nil => .nil
  | _, _, .cons h t => .cons (Rep.frz s q h) (RepL.frz s q t)
end
theorem Gh.sound {M M' : Mh} {d d' : D} (g : Gh M d M' d') : ∀ {F : Fz} {v : V}, Wd K mg F H M → Rep K mg F v d → ∃ F', Le F F' ∧ Wd K mg F' H M' ∧ Rep K mg F' v d' := by
  induction g with
  | refl => intro F v w r; exact ⟨F, Le.refl _, w, r⟩
  | drop h => intro F v w r; exact ⟨F, Le.refl _, w.drop h, r⟩
  | frz h =>
    intro F v w r
    obtain ⟨F', s, w', q⟩ := w.freeze h
    exact ⟨F', s, w', Rep.frz s q r⟩
  | trans _ _ ih1 ih2 =>
    intro F v w r
    obtain ⟨F1, s1, w1, r1⟩ := ih1 w r
    obtain ⟨F2, s2, w2, r2⟩ := ih2 w1 r1
    exact ⟨F2, s1.trans s2, w2, r2⟩
theorem gt_map (f : D → D) : ∀ (r : Env) (i : Nat), gt (r.map fun o => o.map f) i = (gt r i).map f
  | [], _ => rfl
  | _ :: _, 0 => rfl
  | _ :: r, i + 1 => gt_map f r i
theorem GhE.sound {M M' : Mh} {r r' : Env} (g : GhE M r M' r') : ∀ {F : Fz} {s : St}, Wd K mg F H M → RepE K mg F s r → ∃ F', Le F F' ∧ Wd K mg F' H M' ∧ RepE K mg F' s r' := by
  induction g with
  | refl => intro F v w r; exact ⟨F, Le.refl _, w, r⟩
  | drop h => intro F v w r; exact ⟨F, Le.refl _, w.drop h, r⟩
  | frz h =>
    intro F v w r
    obtain ⟨F', s, w', q⟩ := w.freeze h
    refine ⟨F', s, w', by rw [r.1, List.length_map], fun i d e => ?_⟩
    rw [gt_map] at e
    obtain ⟨d0, e0, e1⟩ := Option.map_eq_some_iff.mp e
    obtain ⟨x, h1, h2⟩ := r.2 i d0 e0
    exact ⟨x, h1, by rw [← e1]; exact Rep.frz s q h2⟩
  | trans _ _ ih1 ih2 =>
    intro F v w r
    obtain ⟨F1, s1, w1, r1⟩ := ih1 w r
    obtain ⟨F2, s2, w2, r2⟩ := ih2 w1 r1
    exact ⟨F2, s1.trans s2, w2, r2⟩
end
/-- a ghost step ahead of a statement -/
def zGh (t : ZS) : ZS := fun E r M => ∃ r' M', GhE M r M' r' ∧ t E r' M'
theorem zs_gh {X : Cx} {F0 : Fz} {st1 : Stmt} {t : ZS} (h : PS X st1 (US X F0 t)) : PS X st1 (US X F0 (zGh t)) := ps_imp h fun E s H h => by
  obtain ⟨F, rr, M, Z, s0, w, e, ⟨r', M', g, h⟩, k⟩ := h
  obtain ⟨F', s1, w', e'⟩ := g.sound w e
  exact ⟨F', r', M', Z, s0.trans s1, w', e', h, k.mono s1⟩
/-! ### promises -/
/-- an exception's class and fields -/
def RepX (K : PySem.W.Frag) (mg : Str → Option Value) (F : Fz) (cls : Value) (d : Option Addr) (c : Str) (fs : List (Str × D)) : Prop := ∃ C, mg c = some (.ref C) ∧ cls = .ref C ∧
  ((fs = [] ∧ d = none) ∨ ∃ dx vs, fs ≠ [] ∧ d = some dx ∧ F.f dx = some (.xd ((fs.map (·.1)).zip vs)) ∧ RepL K mg F vs (fs.map (·.2)))
theorem RepX.monoF {K : PySem.W.Frag} {mg : Str → Option Value} {F F' : Fz} {cls : Value} {d : Option Addr} {c : Str} {fs : List (Str × D)} (s : Same F.f F'.f) (h : RepX K mg F cls d c fs) : RepX K mg F' cls d c fs := by
  obtain ⟨C, h1, h2, h3⟩ := h
  refine ⟨C, h1, h2, ?_⟩
  rcases h3 with h3 | ⟨dx, vs, z, a, b, c⟩
  · exact .inl h3
  · exact .inr ⟨dx, vs, z, a, s _ _ b, c.monoF s⟩
def Kx (K : PySem.W.Frag) (mg : Str → Option Value) (F : Fz) (RE : ZX) (E : XK) : Prop := ∀ c fs M', RE c fs M' → ∀ F' H' cls d, Le F F' → Wd K mg F' H' M' → RepX K mg F' cls d c fs → E cls d H'
def liftSp (K : PySem.W.Frag) (mg : Str → Option Value) (zs : ZSp) : Sp := fun vs H Q E => ∃ (F : Fz) (M : Mh) (ds : List D) (R : QZ) (RE : ZX), Wd K mg F H M ∧ RepL K mg F vs ds ∧ zs ds M R RE ∧ Kq K mg F R Q ∧ Kx K mg F RE E
/-- a wish and its reading -/
def Wok (K : PySem.W.Frag) (mg : Str → Option Value) (F0 : Fz) (W : WX) (zE : ZW) : Prop := ∀ c fs r M, zE c fs r M → ∀ F s H cls d, Ge F0 F → Wd K mg F H M → RepE K mg F s r → RepX K mg F cls d c fs → W cls d s H
theorem wok_def {K : PySem.W.Frag} {mg : Str → Option Value} {F0 : Fz} {RE : ZX} {E : XK} (k : Kx K mg F0 RE E) : Wok K mg F0 (fun cls d _ H => E cls d H) (fun c fs _ M => ∃ M', Less M' M ∧ RE c fs M') := by
  rintro c fs r M ⟨M', l, h⟩ F s H cls d g w e rx
  exact k c fs M' h ⟨F.f, F0.u⟩ H cls d ⟨g.f, rfl⟩ ((w.drop l).less g.u) (rx.monoF (F := F) (F' := ⟨F.f, F0.u⟩) (Same.refl _))
def zNoX : ZW := fun _ _ _ _ => False
theorem wok0 {K : PySem.W.Frag} {mg : Str → Option Value} {F0 : Fz} {W : WX} : Wok K mg F0 W zNoX := fun _ _ _ _ h => h.elim
section
variable {X : Cx} {F0 : Fz}
def zCall (zs : ZSp) (zE : ZW) (t : ZA) : ZE := fun r M Q => t r M fun ds M1 => zs ds M1 Q fun c fs M' => zE c fs r M'
theorem ze_call {f : Addr} {fd : FuncData} {ps : List Str} {k : Nat} {zs : ZSp} {zE : ZW} {W : WX} {x : Str} {a : Expr} {es : List Expr} {t : ZA} {p pos : Pos} (FO : FnOk X.prog X.w X.K X.mg X.base (L2.CX X.prog X.w) k f fd ps (liftSp X.K X.mg zs)) (hr : Room k X.A) (hm : X.mg x = some (.ref f))
    (hk : PySem.W.keepIn X.K (.ref f) = true) (hb : Binds X.K fd ps []) (tk : Takes X W) (wk : Wok X.K X.mg F0 W zE) (ha : PA X (a :: es) (UA X F0 t)) (hg : Gl X x := by rfl) (hdb : (x == ("__debug__" : Str)) = false := by decide)
    (he : starEach (a :: es) X.env = (false, eval a X.env) :: starEach es X.env := by rfl) (hpl : (backTo pos (starEach es X.env)).any (·.1) = false := by rfl) : PE X (.Call (.Name x p) (a :: es) [] pos) (UE X F0 (zCall zs zE t)) :=
  pe_imp (pe_callS FO hr hg hm hk hb (fun s => passAt tk s) ha hdb he hpl) fun s H Q h => by
  obtain ⟨F, rr, M, R, s0, w, e, h, k⟩ := h
  refine ⟨F, rr, M, _, s0, w, e, h, fun ds M1 h1 F1 H1 vs s1 w1 r1 => ⟨F1, M1, ds, R, _, w1, r1, h1, k.mono s1, fun c fs M' hx F' H' cls d s2 w2 rx => ?_⟩⟩
  exact wk c fs rr M' hx F' s H' cls d (s0.trans (s1.trans s2)) w2 (e.mono (s1.trans s2)) rx
theorem ze_call0 {f : Addr} {fd : FuncData} {ps : List Str} {k : Nat} {zs : ZSp} {zE : ZW} {x : Str} {p pos : Pos} (FO : FnOk X.prog X.w X.K X.mg X.base (L2.CX X.prog X.w) k f fd ps (liftSp X.K X.mg zs)) (hr : Room k X.A) (hm : X.mg x = some (.ref f))
    (hk : PySem.W.keepIn X.K (.ref f) = true) (hb : Binds X.K fd ps []) (hg : Gl X x := by rfl) (hdb : (x == ("__debug__" : Str)) = false := by decide) : PE X (.Call (.Name x p) [] [] pos) (UE X F0 (zCall zs zNoX zNil)) :=
  pe_imp (pe_call0 FO hr hg hm hk hb .nil passL hdb) fun s H Q h => by
  obtain ⟨F, rr, M, R, s0, w, e, h, k⟩ := h
  exact ⟨F, M, [], R, _, w, .nil, h, k, fun c fs M' hx => hx.elim⟩
end
/-! ### defs -/
def zEnd (R : QZ) : ZEnds := { nx := fun _ M => ∃ M', Less M' M ∧ R .non M', rt := fun d M => ∃ d' M', Gh M d M' d' ∧ R d' M' }
def zEnd0 (R : QZ) : ZEnds := { nx := fun _ M => R .non M, rt := R }
section
variable {P : Program} {w : World} {K : PySem.W.Frag} {mg : Str → Option Value} {base : Heap}
theorem gt_rep : ∀ (n i : Nat), gt (List.replicate n none) i = none
  | 0, _ => rfl
  | _ + 1, 0 => rfl
  | n + 1, i + 1 => gt_rep n i
theorem RepE.cons {F : Fz} {s : St} {r : Env} {v : V} {d : D} (e : RepE K mg F s r) (h : Rep K mg F v d) : RepE K mg F (some v :: s) (some d :: r) := by
  refine ⟨congrArg (· + 1) e.1, fun i x q => ?_⟩
  cases i with
  | zero => cases q; exact ⟨v, rfl, h⟩
  | succ i =>
    obtain ⟨u, h1, h2⟩ := e.2 i x q
    exact ⟨u, h1, h2⟩
theorem repE_start {F : Fz} (n : Nat) : ∀ {vs : List V} {ds : List D}, RepL K mg F vs ds → RepE K mg F (vs.map some ++ List.replicate n none) (ds.map some ++ List.replicate n none)
  | _, _, .nil => ⟨by simp, fun i d e => by
    have e' : gt (List.replicate n none) i = some d := e
    rw [gt_rep] at e'; cases e'⟩
  | _, _, .cons h t => (repE_start n t).cons h
theorem wok_def0 {F0 : Fz} {RE : ZX} {E : XK} (k : Kx K mg F0 RE E) : Wok K mg F0 (fun cls d _ H => E cls d H) (fun c fs _ M => RE c fs M) := by
  intro c fs r M h F s H cls d g w e rx
  exact k c fs M h ⟨F.f, F0.u⟩ H cls d ⟨g.f, rfl⟩ (w.less g.u) (rx.monoF (F := F) (F' := ⟨F.f, F0.u⟩) (Same.refl _))
/-- g: with ghost steps at the ends -/
def enB (g : Bool) (R : QZ) : ZEnds := match g with | true => zEnd R | false => zEnd0 R
def exB (g : Bool) (RE : ZX) : ZW := match g with | true => fun c fs _ M => ∃ M', Less M' M ∧ RE c fs M' | false => fun c fs _ M => RE c fs M
def zFn (g : Bool) (zb : ZW → ZS) (r : Env) (M : Mh) (Q : QZ) (E : ZX) : Prop := zb (exB g E) (enB g Q) r M
/-- THE RULE for a def: its body's derivation; the reading runs from the arguments -/
theorem z_ok (g : Bool) {x qual : Str} {st1 : Stmt} {f : Addr} {fd : FuncData} {N ps : List Str} {k n : Nat} {zs : ZSp} {zb : ZW → ZS} (FF : Fun K x qual st1 f fd) (S : FnScope N ps (defScope st1)) (hn : N.length - ps.length = n)
    (hz : ∀ ds M R RE, zs ds M R RE → ds.length = ps.length ∧ zFn g zb (ds.map some ++ List.replicate n none) M R RE)
    (hbody : ∀ (cdv : Value) (A : Around) (outer : List PySem.Env) (s : Shared) (H : Hp) (E : XK) (F0 : Fz) (zE : ZW), Room k (A.deeper (PyProof.Rows.envOfC qual (defScope st1) s.heap.objs.size f cdv)) → Wok K mg F0 (fun cls d _ H => E cls d H) zE →
      PSs (cxOf (L2.CX P w) P w K mg base N qual (defScope st1) f cdv A outer s H E) (defBody st1) (upS K mg F0 (zb zE))) : FnOk P w K mg base (L2.CX P w) (k + 1) f fd ps (liftSp K mg zs) := by
  refine FF.okX S (fun vs H Q E h => ?_) fun cdv A outer s H vs Q E hr h => ?_
  · obtain ⟨F, M, ds, R, RE, w, rl, h, _⟩ := h
    rw [rl.length]; exact (hz ds M R RE h).1
  · obtain ⟨F, M, ds, R, RE, w, rl, h, kq, kx⟩ := h
    obtain ⟨hl, hb⟩ := hz ds M R RE h
    have wk : Wok K mg F (fun cls d _ H => E cls d H) (exB g RE) := by
      cases g with
      | true => exact wok_def kx
      | false => exact wok_def0 kx
    refine ⟨_, hbody cdv A outer s H E F _ hr wk, F, _, M, enB g R, Ge.refl _, w, ?_, hb, ?_⟩
    · have q := repE_start (K := K) (mg := mg) n rl
      have e : L2.start N vs = vs.map some ++ List.replicate n none := by
        show vs.map some ++ List.replicate (N.length - vs.length) none = _
        rw [rl.length, hl, hn]
      rw [e]; exact q
    · cases g with
      | true =>
        refine ⟨fun r M' ⟨M2, l, h⟩ F' s' H' s1 w1 e1 => kq _ _ h F' H' _ s1 (w1.drop l) .non, fun d M' ⟨d', M2, g, h⟩ F' H' v s1 w1 r1 => ?_, fun _ _ h => h.elim, fun _ _ h => h.elim⟩
        obtain ⟨F2, s2, w2, r2⟩ := g.sound w1 r1
        exact kq _ _ h F2 H' v (s1.trans s2) w2 r2
      | false => exact ⟨fun r M' h F' s' H' s1 w1 e1 => kq _ _ h F' H' _ s1 w1 .non, kq, fun _ _ h => h.elim, fun _ _ h => h.elim⟩
end
/-! ### raising -/
section
variable {X : Cx} {F0 : Fz}
def zRaise (zE : ZW) (c : Str) : ZS := fun _ r M => zE c [] r M
theorem zs_raise {W : WX} {zE : ZW} {C : Addr} {bmB : List Value} {B newId initId : String} {x m : Str} {j : Nat} {p p2 pos pos2 : Pos} (hc : X.calm = true) (tk : Takes X W) (wk : Wok X.K X.mg F0 W zE) (FB : ExcBaseFacts B newId initId bmB) (q : PySem.W.excIn X.K C bmB newId = true) (gC : X.mg x = some (.ref C))
    (kC : PySem.W.keepIn X.K (.ref C) = true) (rz : Raises X (.ref C)) (hg : Gl X x := by rfl) (hdb : (x == ("__debug__" : Str)) = false := by decide) : PS X (.Raise (some (.Call (.Name x p) [.Constant (.str m) j p2] [] pos)) none pos2) (US X F0 (zRaise zE x)) :=
  ps_imp (ps_raise hc tk (pmk_own FB q gC kC rz hg hdb)) fun E s H h => by
  obtain ⟨F, rr, M, Z, s0, w, e, h, k⟩ := h
  exact wk x [] rr M h F s H _ _ s0 w e ⟨C, gC, rfl, .inl ⟨rfl, rfl⟩⟩
/-! ### built-in functions -/
def zCB (f : List D → Mh → QZ → Prop) (t : ZA) : ZE := fun r M Q => t r M fun ds M1 => f ds M1 Q
theorem up_cb {K : PySem.W.Frag} {mg : Str → Option Value} {r : List V → Hp → VK → Prop} {f : List D → Mh → QZ → Prop} {t : ZA} (sA : SndA K mg r f) {s : St} {H : Hp} {Q : VK} (h : upE K mg F0 (zCB f t) s H Q) : tCB r (upA K mg F0 t) s H Q := by
  obtain ⟨F, rr, M, R, s0, w, e, h, k⟩ := h
  exact ⟨F, rr, M, _, s0, w, e, h, fun ds M1 h1 F1 H1 vs s1 w1 r1 => sA F1 H1 M1 vs ds Q R w1 r1 h1 (k.mono s1)⟩
theorem ze_cb {r : List V → Hp → VK → Prop} {f : List D → Mh → QZ → Prop} {id : String} {x : Str} {a : Expr} {es : List Expr} {t : ZA} {p pos : Pos} (hc : CallR X (.builtin id) r) (sA : SndA X.K X.mg r f) (hm : X.mg x = none) (hv : bootBuiltins x = some (.builtin id)) (ha : PA X (a :: es) (UA X F0 t)) (hg : Gl X x := by rfl)
    (hn : x ≠ "__name__" := by decide) (hdb : (x == ("__debug__" : Str)) = false := by decide) (he : starEach (a :: es) X.env = (false, eval a X.env) :: starEach es X.env := by rfl) (hpl : (backTo pos (starEach es X.env)).any (·.1) = false := by rfl) : PE X (.Call (.Name x p) (a :: es) [] pos) (UE X F0 (zCB f t)) :=
  pe_imp (pe_callB hc hg hm hv ha hn hdb he hpl) fun _ _ _ h => up_cb sA h
theorem ze_ct {r : List V → Hp → VK → Prop} {f : List D → Mh → QZ → Prop} {T : String} {x : Str} {a : Expr} {es : List Expr} {t : ZA} {p pos : Pos} (hc : CallR X (.type T) r) (sA : SndA X.K X.mg r f) (hm : X.mg x = none) (hv : bootBuiltins x = some (.type T)) (ha : PA X (a :: es) (UA X F0 t)) (hg : Gl X x := by rfl)
    (hn : x ≠ "__name__" := by decide) (hdb : (x == ("__debug__" : Str)) = false := by decide) (he : starEach (a :: es) X.env = (false, eval a X.env) :: starEach es X.env := by rfl) (hpl : (backTo pos (starEach es X.env)).any (·.1) = false := by rfl) : PE X (.Call (.Name x p) (a :: es) [] pos) (UE X F0 (zCB f t)) :=
  pe_imp (pe_callTy hc hg hm hv ha hn hdb he hpl) fun _ _ _ h => up_cb sA h
end
section
variable {K : PySem.W.Frag} {mg : Str → Option Value}
def dLen (ds : List D) (M : Mh) (Q : QZ) : Prop := match ds with
  | [.str s] => Q (.int s.length) M
  | [x] => zLT M x fun l => Q (.int l.length) M
  | _ => False
theorem snd_len : SndA K mg (fun xs H Q => ∃ x n, xs = [x] ∧ LenV K x H n ∧ Q (.int n) H) dLen := by
  intro F H M xs ds Q R w rl h k
  cases rl with
  | nil => exact h.elim
  | cons r1 rl =>
    cases rl with
    | cons _ _ => exfalso; revert h; unfold dLen; split <;> first | (rename_i e; cases e) | exact id
    | nil =>
      rename_i x d
      have gen : (zLT M d fun l => R (.int l.length) M) → ∃ y n, [x] = [y] ∧ LenV K y H n ∧ Q (.int n) H := fun h => by
        obtain ⟨a, vs, es, rfl, e, l, rl, h⟩ := zLT_out w r1 h
        refine ⟨_, vs.length, rfl, ?_, ?_⟩
        · rcases e with e | e
          · exact .inl ⟨vs, e, rfl⟩
          · exact .inr ⟨vs, e, rfl⟩
        · rw [rl.length]; exact k _ _ h _ _ _ (Le.refl F) w (.int _)
      cases d with
      | str s =>
        cases r1 with
        | str o1 o2 => exact ⟨_, s.length, rfl, ⟨o2, rfl⟩, k _ _ h _ _ _ (Le.refl F) w (.int _)⟩
      | _ => exact gen h
/-! isinstance -/
def tyD (M : Mh) (d : D) : Option String := match d with
  | .non => some "NoneType"
  | .bl _ => some "bool"
  | .int _ => some "int"
  | .str _ => some "str"
  | .lst _ => some "list"
  | .tup _ => some "tuple"
  | .dct => some "dict"
  | .ref p => (match M p with | some (.lst _) => some "list" | _ => none)
  | _ => none
def isiB (t T : String) : Bool := t == T || (t == "bool" && T == "int")
def dIsi (T : String) (x : D) (M : Mh) (Q : QZ) : Prop := match tyD M x with
  | some t => Q (.bl (isiB t T)) M
  | none => False
theorem tyX_of {F : Fz} {H : Hp} {M : Mh} {v : V} {d : D} {t : String} (w : Wd K mg F H M) (r : Rep K mg F v d) (h : tyD M d = some t) : TyX K H v (.type t) ∧ t ∈ ["NoneType", "bool", "int", "str", "list", "tuple", "dict"] := by
  cases r with
  | non => cases h; exact ⟨.base .non, by decide⟩
  | bl b => cases h; exact ⟨.base (.bl b), by decide⟩
  | int i => cases h; exact ⟨.base (.int i), by decide⟩
  | str _ _ => cases h; exact ⟨.base (.str _), by decide⟩
  | lst e _ _ => cases h; exact ⟨.base (.lst (w.sub _ _ e)), by decide⟩
  | tup e _ _ =>
    cases h
    refine ⟨?_, by decide⟩
    rcases same_sqT w.same e with (e | ⟨o, e⟩) | ⟨o, its, n, e, c, _⟩
    · exact .base (.tup e)
    · exact .fTuple e
    · exact .kTuple e c
  | dct e => cases h; exact ⟨.base (.dK (w.sub _ _ e)), by decide⟩
  | exc _ _ _ => cases h
  | scr _ _ => cases h
  | ref p =>
    have h' : (match M p with | some (.lst _) => some "list" | _ => none) = some t := h
    cases e : M p with
    | none => rw [e] at h'; cases h'
    | some m =>
      cases m with
      | lst ds =>
        rw [e] at h'; cases h'
        obtain ⟨_, vs, hv, _⟩ := w.mu p _ e
        exact ⟨.base (.lst hv), by decide⟩
      | ins _ _ => rw [e] at h'; cases h'
      | town => rw [e] at h'; cases h'
end
section
variable {X : Cx} {F0 : Fz} {a : Expr} {fa : ZE} {p p2 pos : Pos}
theorem ze_isi {x : Str} {T : String} (ha : PE X a (UE X F0 fa)) (hm : X.mg "isinstance" = none) (hm2 : X.mg x = none) (hv2 : bootBuiltins x = some (.type T)) (hk : ["NoneType", "bool", "int", "str", "list", "tuple", "dict"].all (fun t => kitB t T == some (isiB t T)) = true := by decide +kernel)
    (hg : Gl X "isinstance" := by rfl) (hg2 : Gl X x := by rfl) (hn2 : x ≠ "__name__" := by decide) (hd2 : (x == ("__debug__" : Str)) = false := by decide)
    (he : starEach [a, .Name x p2] X.env = (false, eval a X.env) :: starEach [.Name x p2] X.env := by rfl) (he2 : starEach [.Name x p2] X.env = (false, eval (.Name x p2) X.env) :: starEach [] X.env := by rfl) (hpl : (backTo pos (starEach [.Name x p2] X.env)).any (·.1) = false := by rfl) :
    PE X (.Call (.Name "isinstance" p) [a, .Name x p2] [] pos) (UE X F0 (z1 (dIsi T) fa)) := by
  refine pe_imp (pe_callB call_isi hg hm (by decide +kernel) (pa_cons ha (pa_cons (pe_bltn (v := .ty T) hg2 hm2 hv2 rfl hn2 hd2) pa_nil he2) he) (by decide) (by decide) he hpl) fun s H Q h => ?_
  obtain ⟨F, rr, M, R, s0, w, e, h, k⟩ := h
  refine ⟨F, rr, M, _, s0, w, e, h, fun d M1 h1 F1 H1 v s1 w1 r1 => ?_⟩
  unfold dIsi at h1
  cases q : tyD M1 d with
  | none => rw [q] at h1; exact h1.elim
  | some t =>
    rw [q] at h1
    obtain ⟨tx, tm⟩ := tyX_of w1 r1 q
    refine ⟨v, .ty T, .type t, .type T, isiB t T, rfl, .ty T, tx, kit_ty ?_, k _ _ h1 _ _ _ s1 w1 (.bl _)⟩
    exact beq_iff_eq.mp (List.all_eq_true.mp hk t tm)
end
section
variable {K : PySem.W.Frag} {mg : Str → Option Value}
def dSum (ds : List D) (M : Mh) (Q : QZ) : Prop := match ds with
  | [x] => zL M x fun l => ∃ ns : List Int, l = ns.map D.int ∧ Q (.int ns.sum) M
  | _ => False
theorem snd_sum : SndA K mg (rSum K) dSum := by
  intro F H M xs ds Q R w rl h k
  unfold dSum at h
  split at h
  · cases rl with
    | cons r1 rl =>
      cases rl
      obtain ⟨a, vs, es, rfl, e, l, rl, ns, rfl, h⟩ := zL_out w r1 h
      refine ⟨a, ns, rfl, ?_, k _ _ h _ _ _ (Le.refl F) w (.int _)⟩
      rw [← rl.ints_of]; exact SqL.of e
  · exact h.elim
def dAll (ds : List D) (M : Mh) (Q : QZ) : Prop := match ds with
  | [x] => zL M x fun l => ∃ bs : List Bool, l = bs.map D.bl ∧ Q (.bl (bs.all id)) M
  | _ => False
theorem snd_all : SndA K mg (rAll K) dAll := by
  intro F H M xs ds Q R w rl h k
  unfold dAll at h
  split at h
  · cases rl with
    | cons r1 rl =>
      cases rl
      obtain ⟨a, vs, es, rfl, e, l, rl, ns, rfl, h⟩ := zL_out w r1 h
      refine ⟨a, ns, rfl, ?_, k _ _ h _ _ _ (Le.refl F) w (.bl _)⟩
      rw [← rl.bls_of]; exact SqL.of e
  · exact h.elim
def dMaxL (ds : List D) (M : Mh) (Q : QZ) : Prop := match ds with
  | [.int i, .int j] => Q (.int (if j > i then j else i)) M
  | [x] => zL M x fun l => ∃ ns : List Int, l = ns.map D.int ∧ 0 < ns.length ∧ ∀ m, m ∈ ns → (∀ y, y ∈ ns → y ≤ m) → Q (.int m) M
  | _ => False
def dMinL (ds : List D) (M : Mh) (Q : QZ) : Prop := match ds with
  | [.int i, .int j] => Q (.int (if j < i then j else i)) M
  | [x] => zL M x fun l => ∃ ns : List Int, l = ns.map D.int ∧ 0 < ns.length ∧ ∀ m, m ∈ ns → (∀ y, y ∈ ns → m ≤ y) → Q (.int m) M
  | _ => False
theorem snd_max : SndA K mg (fun xs H Q => (∃ i j, xs = [.int i, .int j] ∧ Q (.int (if j > i then j else i)) H) ∨ rMax K xs H Q) dMaxL := by
  intro F H M xs ds Q R w rl h k
  unfold dMaxL at h
  split at h
  · cases rl with
    | cons r1 rl =>
      cases rl with
      | cons r2 rl => cases rl; cases r1; cases r2; exact .inl ⟨_, _, rfl, k _ _ h _ _ _ (Le.refl F) w (.int _)⟩
  · cases rl with
    | cons r1 rl =>
      cases rl
      obtain ⟨a, vs, es, rfl, e, l, rl, ns, rfl, h1, h⟩ := zL_out w r1 h
      refine .inr ⟨a, ns, rfl, ?_, h1, fun m hm hy => k _ _ (h m hm hy) _ _ _ (Le.refl F) w (.int _)⟩
      rw [← rl.ints_of]; exact SqL.of e
  · exact h.elim
theorem snd_min : SndA K mg (fun xs H Q => (∃ i j, xs = [.int i, .int j] ∧ Q (.int (if j < i then j else i)) H) ∨ rMin K xs H Q) dMinL := by
  intro F H M xs ds Q R w rl h k
  unfold dMinL at h
  split at h
  · cases rl with
    | cons r1 rl =>
      cases rl with
      | cons r2 rl => cases rl; cases r1; cases r2; exact .inl ⟨_, _, rfl, k _ _ h _ _ _ (Le.refl F) w (.int _)⟩
  · cases rl with
    | cons r1 rl =>
      cases rl
      obtain ⟨a, vs, es, rfl, e, l, rl, ns, rfl, h1, h⟩ := zL_out w r1 h
      refine .inr ⟨a, ns, rfl, ?_, h1, fun m hm hy => k _ _ (h m hm hy) _ _ _ (Le.refl F) w (.int _)⟩
      rw [← rl.ints_of]; exact SqL.of e
  · exact h.elim
/-- list(x) -/
def dList (b : Bool) (ds : List D) (M : Mh) (Q : QZ) : Prop := match ds with
  | [x] => zLT M x fun l => zNew b l M Q
  | _ => False
theorem snd_list (b : Bool) : SndA K mg (fun xs H Q => ∃ p ys, xs = [.ref p] ∧ (SqL K H p ys ∨ SqT K H p ys) ∧ ∀ l, H l = none → Q (.ref l) (upd H l (.lst ys))) (dList b) := by
  intro F H M xs ds Q R w rl h k
  unfold dList at h
  split at h
  · cases rl with
    | cons r1 rl =>
      cases rl
      obtain ⟨a, vs, es, rfl, e, l, rl, h⟩ := zLT_out w r1 h
      exact ⟨a, vs, rfl, e, zNew_out w l rl h k⟩
  · exact h.elim
/-- tuple(x) -/
def dTuple (ds : List D) (M : Mh) (Q : QZ) : Prop := match ds with
  | [x] => zLT M x fun l => Q (.tup l) M
  | _ => False
theorem snd_tuple : SndA K mg (fun xs H Q => ∃ p ys, xs = [.ref p] ∧ ((SqL K H p ys ∧ ∀ l, H l = none → Q (.ref l) (upd H l (.tup ys))) ∨ (SqT K H p ys ∧ Q (.ref p) H))) dTuple := by
  intro F H M xs ds Q R w rl h k
  unfold dTuple at h
  split at h
  · cases rl with
    | cons r1 rl =>
      cases rl
      rename_i x v
      have gen : ∀ {a : Addr} {vs : List V} {es : List D}, v = .ref a → SqL K H a vs → vs.length ≤ sizeLine → RepL K mg F vs es → R (.tup es) M → ∃ p ys, [v] = [V.ref p] ∧ ((SqL K H p ys ∧ ∀ l, H l = none → Q (.ref l) (upd H l (.tup ys))) ∨ (SqT K H p ys ∧ Q (.ref p) H)) :=
        fun {a vs es} e1 e2 l rl h => ⟨a, vs, by rw [e1], .inl ⟨e2, zTup_out w l rl h k⟩⟩
      cases x with
      | tup es =>
        cases r1 with
        | tup e l rl => exact ⟨_, _, rfl, .inr ⟨same_sqT w.same e, k _ _ h _ _ _ (Le.refl F) w (.tup e l rl)⟩⟩
      | lst es =>
        cases r1 with
        | lst e l rl => exact gen rfl (SqL.of (w.sub _ _ e)) l rl h
      | ref q =>
        obtain ⟨a, vs, es, e1, e2, l, rl, h⟩ := zL_out (d := .ref q) w r1 h
        exact gen e1 (SqL.of e2) l rl h
      | _ => exact h.elim
  · exact h.elim
def dDivmod (ds : List D) (M : Mh) (Q : QZ) : Prop := match ds with
  | [.int i, .int j] => CDiv i j ∧ Q (.tup [.int (i / j), .int (i % j)]) M
  | _ => False
theorem snd_divmod : SndA K mg (fun xs H Q => ∃ i j, xs = [.int i, .int j] ∧ CDiv i j ∧ ∀ p, H p = none → Q (.ref p) (upd H p (.tup [.int (i / j), .int (i % j)]))) dDivmod := by
  intro F H M xs ds Q R w rl h k
  unfold dDivmod at h
  split at h
  · cases rl with
    | cons r1 rl =>
      cases rl with
      | cons r2 rl =>
        cases rl; cases r1; cases r2
        exact ⟨_, _, rfl, h.1, zTup_out w (by show 2 ≤ sizeLine; decide) (.cons (.int _) (.cons (.int _) .nil)) h.2 k⟩
  · exact h.elim
def dAbs (ds : List D) (M : Mh) (Q : QZ) : Prop := match ds with
  | [.int i] => Q (.int (if i < 0 then -i else i)) M
  | _ => False
theorem snd_abs : SndA K mg (fun xs H Q => ∃ i, xs = [.int i] ∧ Q (.int (if i < 0 then -i else i)) H) dAbs := by
  intro F H M xs ds Q R w rl h k
  unfold dAbs at h
  split at h
  · cases rl with
    | cons r1 rl => cases rl; cases r1; exact ⟨_, rfl, k _ _ h _ _ _ (Le.refl F) w (.int _)⟩
  · exact h.elim
/-- sorted(x) of ints -/
def dSorted (b : Bool) (ds : List D) (M : Mh) (Q : QZ) : Prop := match ds with
  | [x] => zL M x fun l => ∃ ns : List Int, l = ns.map D.int ∧ ∀ ns' : List Int, ns'.Perm ns → ns'.Pairwise (· ≤ ·) → zNew b (ns'.map D.int) M Q
  | _ => False
theorem snd_sorted (b : Bool) : SndA K mg (rSortedI K) (dSorted b) := by
  intro F H M xs ds Q R w rl h k
  unfold dSorted at h
  split at h
  · cases rl with
    | cons r1 rl =>
      cases rl
      obtain ⟨a, vs, es, rfl, e, l, rl, ns, rfl, h⟩ := zL_out w r1 h
      have hv := rl.ints_of
      subst hv
      refine ⟨a, ns, rfl, SqL.of e, fun ns' p hp hs hn => zNew_out w ?_ (RepL.ints ns') (h ns' hp hs) k p hn⟩
      rw [List.length_map, hp.length_eq]; rw [List.length_map] at l; exact l
  · exact h.elim
end
/-! ### methods of lists -/
section
variable {X : Cx} {F0 : Fz} {o a : Expr} {fo : ZE} {t : ZA} {apos cpos : Pos}
def zApp (o : ZE) (t : ZA) : ZE := fun r M Q => o r M fun x M1 => match x with
  | .ref p => t r M1 fun ds M2 => (match M2 p, ds with | some (.lst l), [d] => l.length < sizeLine ∧ Q .non (mup M2 p (.lst (l ++ [d]))) | _, _ => False) ∧ ∃ l, M1 p = some (.lst l)
  | _ => False
end
end Zl

/-! Zl7: methods of lists and tuples; the town -/
namespace Zl
open PySem L2
section
variable {K : PySem.W.Frag} {mg : Str → Option Value} {F : Fz} {H : Hp} {M : Mh}
theorem tyV_list {v : V} {d : D} (w : Wd K mg F H M) (r : Rep K mg F v d) (h : tyD M d = some "list") : tyV K "list" v H := by
  cases r with
  | lst e _ _ => exact .inl ⟨rfl, _, SqL.of (w.sub _ _ e)⟩
  | ref p =>
    have h' : (match M p with | some (.lst _) => some "list" | _ => none) = some "list" := h
    cases e : M p with
    | none => rw [e] at h'; cases h'
    | some m =>
      cases m with
      | lst ds =>
        obtain ⟨_, vs, hv, _⟩ := w.mu p _ e
        exact .inl ⟨rfl, _, SqL.of hv⟩
      | ins _ _ => rw [e] at h'; cases h'
      | town => rw [e] at h'; cases h'
  | _ => exact absurd h (by simp [tyD])
theorem tyV_str {v : V} {d : D} (r : Rep K mg F v d) (h : tyD M d = some "str") : tyV K "str" v H := by
  cases r with
  | str _ _ => rfl
  | ref p =>
    have h' : (match M p with | some (.lst _) => some "list" | _ => none) = some "str" := h
    split at h'
    · exact absurd (Option.some.inj h') (by decide)
    · cases h'
  | _ => exact absurd h (by simp [tyD])
end
/-- a method's soundness, by values -/
def SndM (K : PySem.W.Frag) (mg : Str → Option Value) (r : V → List V → Hp → VK → Prop) (f : D → List D → Mh → QZ → Prop) : Prop := ∀ (F : Fz) (H : Hp) (M : Mh) (x : V) (xs : List V) (d : D) (ds : List D) (Q : VK) (R : QZ), Wd K mg F H M → Rep K mg F x d → RepL K mg F xs ds → f d ds M R → Kq K mg F R Q → r x xs H Q
def zM (T : String) (f : D → List D → Mh → QZ → Prop) (o : ZE) (t : ZA) : ZE := fun r M Q => o r M fun x M1 => tyD M1 x = some T ∧ t r M1 fun ds M2 => f x ds M2 Q
section
variable {X : Cx} {F0 : Fz} {o a : Expr} {es : List Expr} {fo : ZE} {t : ZA} {apos cpos : Pos} {name : Str} {id : String} {r : V → List V → Hp → VK → Prop} {f : D → List D → Mh → QZ → Prop}
theorem ze_mL (pa : PlainAttrs "list") (slot : Slot "list" name id) (hty : typeOf (.builtin id) = pure (.type "method_descriptor")) (hm : MtR X id r) (sm : SndM X.K X.mg r f) (ho : PE X o (UE X F0 fo)) (ha : PA X (a :: es) (UA X F0 t))
    (hbase : attributeBase o name X.env (eval o X.env) = eval o X.env := by rfl)
    (hfew : ((backTo cpos (starEach (a :: es) X.env)).all (fun x => !x.1) && (backToKw cpos (keywordEach [] X.env)).all (fun x => x.1.isSome)
      && decide ((a :: es).length + ([] : List Keyword).length + (if ([] : List Keyword).isEmpty then 0 else 1) < 30)) = true := by rfl)
    (hline : (apos.endLine == cpos.line) = true := by rfl) (hs : starEach (a :: es) X.env = (false, eval a X.env) :: starEach es X.env := by rfl) (hplain : (backTo cpos (starEach es X.env)).any (·.1) = false := by rfl) :
    PE X (.Call (.Attribute o name apos) (a :: es) [] cpos) (UE X F0 (zM "list" f fo t)) := pe_imp (pe_bm pa slot hty hm ho ha hbase hfew hline hs hplain) fun s H Q h => by
  obtain ⟨F, rr, M, R, s0, w, e, h, k⟩ := h
  refine ⟨F, rr, M, _, s0, w, e, h, fun x M1 h1 F1 H1 v s1 w1 r1 => ⟨tyV_list w1 r1 h1.1, F1, rr, M1, _, s0.trans s1, w1, e.mono s1, h1.2, fun ds M2 h2 F2 H2 vs s2 w2 r2 => ?_⟩⟩
  exact sm F2 H2 M2 v vs x ds Q R w2 (r1.mono s2) r2 h2 (k.mono (s1.trans s2))
theorem ze_mS (pa : PlainAttrs "str") (slot : Slot "str" name id) (hty : typeOf (.builtin id) = pure (.type "method_descriptor")) (hm : MtR X id r) (sm : SndM X.K X.mg r f) (ho : PE X o (UE X F0 fo)) (ha : PA X (a :: es) (UA X F0 t))
    (hbase : attributeBase o name X.env (eval o X.env) = eval o X.env := by rfl)
    (hfew : ((backTo cpos (starEach (a :: es) X.env)).all (fun x => !x.1) && (backToKw cpos (keywordEach [] X.env)).all (fun x => x.1.isSome)
      && decide ((a :: es).length + ([] : List Keyword).length + (if ([] : List Keyword).isEmpty then 0 else 1) < 30)) = true := by rfl)
    (hline : (apos.endLine == cpos.line) = true := by rfl) (hs : starEach (a :: es) X.env = (false, eval a X.env) :: starEach es X.env := by rfl) (hplain : (backTo cpos (starEach es X.env)).any (·.1) = false := by rfl) :
    PE X (.Call (.Attribute o name apos) (a :: es) [] cpos) (UE X F0 (zM "str" f fo t)) := pe_imp (pe_bm pa slot hty hm ho ha hbase hfew hline hs hplain) fun s H Q h => by
  obtain ⟨F, rr, M, R, s0, w, e, h, k⟩ := h
  refine ⟨F, rr, M, _, s0, w, e, h, fun x M1 h1 F1 H1 v s1 w1 r1 => ⟨tyV_str r1 h1.1, F1, rr, M1, _, s0.trans s1, w1, e.mono s1, h1.2, fun ds M2 h2 F2 H2 vs s2 w2 r2 => ?_⟩⟩
  exact sm F2 H2 M2 v vs x ds Q R w2 (r1.mono s2) r2 h2 (k.mono (s1.trans s2))
end
section
variable {K : PySem.W.Frag} {mg : Str → Option Value}
/-- a changing list and what it holds -/
def zR (M : Mh) (d : D) (k : Addr → List D → Prop) : Prop := match d with
  | .ref p => (match M p with | some (.lst ds) => k p ds | _ => False)
  | _ => False
theorem zR_ref {M : Mh} {p : Addr} {ds : List D} {k : Addr → List D → Prop} (h : M p = some (.lst ds)) : zR M (.ref p) k = k p ds := by
  show (match M p with | some (.lst ds) => k p ds | _ => False) = _
  rw [h]
theorem zR_out {F : Fz} {H : Hp} {M : Mh} {d : D} {k : Addr → List D → Prop} {v : V} (w : Wd K mg F H M) (r : Rep K mg F v d) (h : zR M d k) : ∃ p vs ds, v = .ref p ∧ M p = some (.lst ds) ∧ H p = some (.lst vs) ∧ vs.length ≤ sizeLine ∧ RepL K mg F vs ds ∧ k p ds := by
  cases d with
  | ref p =>
    cases r
    have h' : (match M p with | some (.lst ds) => k p ds | _ => False) := h
    cases e : M p with
    | none => rw [e] at h'; exact h'.elim
    | some m =>
      cases m with
      | lst ds =>
        rw [e] at h'
        obtain ⟨_, vs, hv, l, q⟩ := w.mu p _ e
        exact ⟨p, vs, ds, rfl, e, hv, l, q, h'⟩
      | ins _ _ => rw [e] at h'; exact h'.elim
      | town => rw [e] at h'; exact h'.elim
  | _ => exact h.elim
def dApp (x : D) (ds : List D) (M : Mh) (Q : QZ) : Prop := match ds with
  | [d] => zR M x fun p l => l.length < sizeLine ∧ Q .non (mup M p (.lst (l ++ [d])))
  | _ => False
theorem snd_app : SndM K mg rAppend dApp := by
  intro F H M x xs d ds Q R w r rl h k
  unfold dApp at h
  split at h
  · cases rl with
    | cons r1 rl =>
      cases rl
      obtain ⟨p, vs, es, rfl, e0, e, l, q, h1, h2⟩ := zR_out w r h
      refine ⟨p, vs, _, rfl, rfl, e, by rw [q.length]; exact h1, k _ _ h2 F _ _ (Le.refl F) (w.write e0 (by intro z; cases z) (by intro z; cases z) ⟨_, upd_same, ?_, q.append (.cons r1 .nil)⟩) .non⟩
      rw [List.length_append, q.length]; exact h1
  · exact h.elim
def dExt (x : D) (ds : List D) (M : Mh) (Q : QZ) : Prop := match ds with
  | [d] => zR M x fun p l => zL M d fun m => l.length + m.length ≤ sizeLine ∧ Q .non (mup M p (.lst (l ++ m)))
  | _ => False
theorem snd_ext : SndM K mg rExtend dExt := by
  intro F H M x xs d ds Q R w r rl h k
  unfold dExt at h
  split at h
  · cases rl with
    | cons r1 rl =>
      cases rl
      obtain ⟨p, vs, es, rfl, e0, e, l, q, h⟩ := zR_out w r h
      obtain ⟨b, us, fs, rfl, e', l', q', h1, h2⟩ := zL_out w r1 h
      have hl : vs.length + us.length ≤ sizeLine := by rw [q.length, q'.length]; exact h1
      refine ⟨p, b, vs, us, rfl, rfl, e, e', hl, k _ _ h2 F _ _ (Le.refl F) (w.write e0 (by intro z; cases z) (by intro z; cases z) ⟨_, upd_same, ?_, q.append q'⟩) .non⟩
      rw [List.length_append]; exact hl
  · exact h.elim
def dPopAt (x : D) (ds : List D) (M : Mh) (Q : QZ) : Prop := match ds with
  | [.int i] => -(2 ^ 63) ≤ i ∧ i < 2 ^ 63 ∧ zR M x fun p l => match ixN l.length i with
    | some j => (match l[j]? with | some y => Q y (mup M p (.lst (l.eraseIdx j))) | none => False)
    | none => False
  | _ => False
theorem snd_popAt : SndM K mg rPopAt dPopAt := by
  intro F H M x xs d ds Q R w r rl h k
  unfold dPopAt at h
  split at h
  · cases rl with
    | cons r1 rl =>
      cases rl; cases r1
      obtain ⟨b1, b2, h⟩ := h
      obtain ⟨p, vs, es, rfl, e0, e, l, q, h⟩ := zR_out w r h
      split at h
      · rename_i j hj
        split at h
        · rename_i y hy
          obtain ⟨v, hv, rv⟩ := q.get hy
          refine ⟨p, vs, _, j, v, rfl, rfl, e, b1, b2, by rw [q.length]; exact (ixN_seq hj).1, hv, k _ _ h F _ _ (Le.refl F) (w.write e0 (by intro z; cases z) (by intro z; cases z) ⟨_, upd_same, ?_, q.eraseIdx j⟩) rv⟩
          exact Nat.le_trans (List.length_eraseIdx_le _ _) l
        · exact h.elim
      · exact h.elim
  · exact h.elim
/-- the first place of y -/
def idxD (y : D) : List D → Option Nat
  | [] => none
  | d :: r => if eqD d y then some 0 else (idxD y r).map (· + 1)
theorem idxD_get {F : Fz} {v : V} {y : D} (ry : Rep K mg F v y) (fy : flatD y = true) : ∀ {vs : List V} {ds : List D} {j : Nat}, RepL K mg F vs ds → ds.all flatD = true → idxD y ds = some j → (∃ z, vs[j]? = some z ∧ eqV z v = true) ∧ ∀ (m : Nat) (z : V), m < j → vs[m]? = some z → eqV z v = false
  | _, _, _, .nil, _, h => by cases h
  | _, _, j, .cons r t, q, h => by
    rw [List.all_cons, Bool.and_eq_true] at q
    unfold idxD at h
    split at h
    · rename_i e
      cases h
      exact ⟨⟨_, rfl, by rw [eqV_of r ry q.1 fy]; exact e⟩, fun m z hm => absurd hm (Nat.not_lt_zero _)⟩
    · rename_i e
      obtain ⟨i, hi, ej⟩ := Option.map_eq_some_iff.mp h
      subst ej
      obtain ⟨⟨z, h1, h2⟩, h3⟩ := idxD_get ry fy t q.2 hi
      refine ⟨⟨z, by simpa using h1, h2⟩, fun m z' hm hz => ?_⟩
      cases m with
      | zero =>
        cases hz
        rw [eqV_of r ry q.1 fy]; simpa using e
      | succ m => exact h3 m z' (by omega) (by simpa using hz)
def dIndex (x : D) (ds : List D) (M : Mh) (Q : QZ) : Prop := match ds with
  | [y] => zL M x fun l => flatD y = true ∧ l.all flatD = true ∧ (match idxD y l with | some j => Q (.int (j : Nat)) M | none => False)
  | _ => False
theorem snd_index : SndM K mg (rIndex K) dIndex := by
  intro F H M x xs d ds Q R w r rl h k
  unfold dIndex at h
  split at h
  · cases rl with
    | cons r1 rl =>
      cases rl
      obtain ⟨p, vs, es, rfl, e, l, q, h1, h2, h⟩ := zL_out w r h
      split at h
      · rename_i j hj
        obtain ⟨⟨z, a1, a2⟩, a3⟩ := idxD_get r1 h1 q h2 hj
        exact ⟨p, vs, _, j, z, rfl, rfl, SqL.of e, flat_of r1 h1, flats_of q h2, a1, a2, a3, k _ _ h _ _ _ (Le.refl F) w (.int _)⟩
      · exact h.elim
  · exact h.elim
def cntD (y : D) (l : List D) : Nat := l.countP fun d => eqD d y
def dCount (x : D) (ds : List D) (M : Mh) (Q : QZ) : Prop := match ds with
  | [y] => zL M x fun l => flatD y = true ∧ l.all flatD = true ∧ Q (.int (cntD y l : Nat)) M
  | _ => False
def rCountZ (K : PySem.W.Frag) : V → List V → Hp → VK → Prop := fun x xs H Q => ∃ (p : Addr) (ys : List V) (y : V), x = .ref p ∧ xs = [y] ∧ SqL K H p ys ∧ flatV y = true ∧ ys.all flatV = true ∧ Q (.int (ys.countP fun z => eqV z y : Nat)) H
theorem countP_eqU {y : V} : ∀ {ys : List V} {us : List Value}, Vals ys us → ys.all flatV = true → us.countP (eqU y) = ys.countP fun z => eqV z y
  | _, _, .nil, _ => rfl
  | _, _, .cons r t, h => by
    rw [List.all_cons, Bool.and_eq_true] at h
    rw [List.countP_cons, List.countP_cons, countP_eqU t h.2, eqU_of r h.1]
theorem mt_countZ {X : Cx} : MtR X "list.count" (rCountZ X.K) := by
  intro pins s r H x xs v us Q I rx rxs h
  obtain ⟨p, ys, y, rfl, rfl, hs, fy, fys, q⟩ := h
  cases rx
  obtain ⟨u, rfl, ru⟩ := rxs.one
  obtain ⟨its, rv, ⟨⟨cls, dd, data, sl⟩, n, ho, hc, hdn, hd⟩, hlen⟩ := I.list hs
  simp only at hc hd
  subst hc hd
  have ec := countP_eqU (y := y) rv fys
  refine call_meets PySem.F.slot_list_count ⟨_, ho, rfl⟩ PySem.F.entry_list_count (PySem.F.args_list_count_2 _ _) (SeqAt.list_countAt p its.toArray n dd sl u (eqU y)) ⟨ho, fun z hz => mem_eqAt ru fy rv fys z (by simpa using hz), ?_⟩
  refine ⟨.int (ys.countP fun z => eqV z y : Nat), H, I.tok _, ⟨s.toks, ?_⟩, q⟩
  show Value.int ((its.toArray.toList.countP (eqU y) : Nat) : Int) s.toks = _
  rw [show its.toArray.toList = its from rfl, ec]
theorem cnt_of {F : Fz} {v : V} {y : D} (ry : Rep K mg F v y) (fy : flatD y = true) : ∀ {vs : List V} {ds : List D}, RepL K mg F vs ds → ds.all flatD = true → (vs.countP fun z => eqV z v) = cntD y ds
  | _, _, .nil, _ => rfl
  | _, _, .cons r t, q => by
    rw [List.all_cons, Bool.and_eq_true] at q
    have ih := cnt_of ry fy t q.2
    unfold cntD at *
    rw [List.countP_cons, List.countP_cons, ih, eqV_of r ry q.1 fy]
theorem snd_count : SndM K mg (rCountZ K) dCount := by
  intro F H M x xs d ds Q R w r rl h k
  unfold dCount at h
  split at h
  · cases rl with
    | cons r1 rl =>
      cases rl
      obtain ⟨p, vs, es, rfl, e, l, q, h1, h2, h⟩ := zL_out w r h
      refine ⟨p, vs, _, rfl, rfl, SqL.of e, flat_of r1 h1, flats_of q h2, ?_⟩
      rw [cnt_of r1 h1 q h2]
      exact k _ _ h _ _ _ (Le.refl F) w (.int _)
  · exact h.elim
end
/-! ### a written tuple -/
/-- the written tuple at a holds vs -/
def KTup (K : PySem.W.Frag) (a : Addr) (vs : List V) : Prop := ∃ (o : Obj) (its : Array Value) (n : Nat), K.lookup a = some o ∧ o.cls = .type "tuple" ∧ o.dict = none ∧ o.data = .seq its n ∧ its.size ≤ sizeLine ∧ Vals vs its.toList
theorem KTup.sq {K : PySem.W.Frag} {a : Addr} {vs : List V} (h : KTup K a vs) (H : Hp) : SqT K H a vs := by
  obtain ⟨o, its, n, h1, h2, h3, h4, h5, h6⟩ := h
  exact .inr ⟨o, its, n, h1, h2, h4, h5, h6⟩
theorem KTup.len {K : PySem.W.Frag} {a : Addr} {vs : List V} (h : KTup K a vs) : vs.length ≤ sizeLine := by
  obtain ⟨o, its, n, h1, h2, h3, h4, h5, h6⟩ := h
  rw [h6.length, Array.length_toList]; exact h5
theorem ktup_rep {K : PySem.W.Frag} {mg : Str → Option Value} {a : Addr} {vs : List V} {ds : List D} (h : KTup K a vs) (r : ∀ F, RepL K mg F vs ds) (F : Fz) : Rep K mg F (.ref a) (.tup ds) := .tup (h.sq F.f) h.len (r F)
def rTIdx (K : PySem.W.Frag) : V → List V → Hp → VK → Prop := fun x xs H Q => ∃ (a : Addr) (ys : List V) (y : V) (j : Nat) (z : V), x = V.ref a ∧ xs = [y] ∧ SqT K H a ys ∧ flatV y = true ∧ ys.all flatV = true ∧ ys[j]? = some z ∧ eqV z y = true ∧ (∀ (m : Nat) (z' : V), m < j → ys[m]? = some z' → eqV z' y = false) ∧ Q (.int (j : Nat)) H
theorem mt_tidx {X : Cx} : MtR X "tuple.index" (rTIdx X.K) := by
  intro pins s r H x xs v us Q I rx rxs h
  obtain ⟨a, ys, y, j, z, rfl, rfl, hs, fy, fys, hz, hzj, hno, q⟩ := h
  cases rx
  obtain ⟨uy, rfl, ry⟩ := rxs.one
  obtain ⟨its, rv, pl, hlen⟩ := I.tuple hs
  obtain ⟨⟨cls, dd, dt, sl⟩, ho, hc, n, hd⟩ := pl
  simp only at hc hd
  subst hc hd
  obtain ⟨u, hu, ru⟩ := rv.get hz
  obtain ⟨hjl, hje⟩ := List.getElem?_eq_some_iff.mp hu
  have hj : j < its.toArray.size := by simpa using hjl
  refine call_meets PySem.F.slot_tuple_index ⟨_, ho, rfl⟩ PySem.F.entry_tuple_index (PySem.F.args_tuple_index_2 _ _) (TI.tuple_indexAt a its.toArray n dd sl uy (eqU y) j hj ?_ ?_)
    ⟨ho, fun u' hu' => mem_eqAt ry fy rv fys u' (by simpa using hu'), ⟨.int (j : Nat), H, I.tok _, ⟨_, rfl⟩, q⟩⟩
  · have e1 : its.toArray[j] = u := by simpa using hje
    rw [e1, eqU_of ru (flat_at fys hz)]
    exact hzj
  · intro m hm hmj
    have hml : m < its.length := by simpa using hm
    have hmy : m < ys.length := by rw [rv.length]; exact hml
    have hy' : ys[m]? = some ys[m] := List.getElem?_eq_getElem hmy
    obtain ⟨u2, hu2, ru2⟩ := rv.get hy'
    have e2 : its.toArray[m] = u2 := by
      have := (List.getElem?_eq_some_iff.mp hu2).2
      simpa using this
    rw [e2, eqU_of ru2 (flat_at fys hy')]
    exact hno m _ hmj hy'
def zTIx (ds : List D) (t : ZA) : ZE := fun r M Q => t r M fun es M1 => match es with
  | [y] => flatD y = true ∧ (match idxD y ds with | some j => Q (.int (j : Nat)) M1 | none => False)
  | _ => False
theorem ze_tidx {X : Cx} {F0 : Fz} {x : Str} {a : Addr} {e : Expr} {vs : List V} {ds : List D} {t : ZA} {p apos cpos : Pos} (hm : X.mg x = some (.ref a)) (hk : KTup X.K a vs) (hr : ∀ F, RepL X.K X.mg F vs ds) (hf : ds.all flatD = true) (ha : PA X [e] (UA X F0 t)) (hg : Gl X x := by rfl)
    (hd : (x == ("__debug__" : Str)) = false := by decide) (hbase : attributeBase (.Name x p) "index" X.env (eval (.Name x p) X.env) = eval (.Name x p) X.env := by rfl)
    (hfew : ((backTo cpos (starEach [e] X.env)).all (fun x => !x.1) && (backToKw cpos (keywordEach [] X.env)).all (fun x => x.1.isSome)
      && decide (([e] : List Expr).length + ([] : List Keyword).length + (if ([] : List Keyword).isEmpty then 0 else 1) < 30)) = true := by rfl)
    (hline : (apos.endLine == cpos.line) = true := by rfl) (hs : starEach [e] X.env = (false, eval e X.env) :: starEach [] X.env := by rfl) (hplain : (backTo cpos (starEach [] X.env)).any (·.1) = false := by rfl) :
    PE X (.Call (.Attribute (.Name x p) "index" apos) [e] [] cpos) (UE X F0 (zTIx ds t)) := pe_imp (pe_bm PySem.F.plainAttrs_tuple PySem.F.slot_tuple_index PySem.F.type_tuple_index mt_tidx (pe_glob (v := .ref a) hg hm rfl hd) ha hbase hfew hline hs hplain) fun s H Q h => by
  obtain ⟨F, rr, M, R, s0, w, e, h, k⟩ := h
  obtain ⟨o, its, n, h1, h2, h3, h4⟩ := id hk
  refine ⟨.inr (.inl ⟨rfl, o, h1, h2, h3⟩), F, rr, M, _, s0, w, e, h, fun es M1 h1 F1 H1 us s1 w1 r1 => ?_⟩
  split at h1
  · cases r1 with
    | cons q1 r1 =>
      cases r1
      obtain ⟨fy, h1⟩ := h1
      split at h1
      · rename_i j hj
        obtain ⟨⟨z, a1, a2⟩, a3⟩ := idxD_get q1 fy (hr F1) hf hj
        exact ⟨a, vs, _, j, z, rfl, rfl, hk.sq H1, flat_of q1 fy, flats_of (hr F1) hf, a1, a2, a3, k _ _ h1 _ _ _ s1 w1 (.int _)⟩
      · exact h1.elim
  · exact h1.elim
end Zl

/-! Zl8: the town of a law, and its draws -/
namespace Zl
open PySem L2
section
variable {K : PySem.W.Frag} {mg : Str → Option Value} {F : Fz} {H : Hp} {M : Mh}
/-- the town laid open: its cells at c -/
def tOpen (M : Mh) (t c : Addr) (n : Int) (cells : List Int) : Mh := mup (mup M c (.lst (cells.map D.int))) t (.lst [.ref c, .int n])
structure TownOk (M : Mh) (t c : Addr) (cells : List Int) : Prop where
  at_ : M t = some .town
  no : M c = none
  ne : cells ≠ []
  len : cellsOk cells
  one : ∀ t', M t' = some .town → t' = t
theorem TownOk.ct {t c : Addr} {cells : List Int} (h : TownOk M t c cells) : c ≠ t := fun e => by
  have := h.no; rw [e, h.at_] at this; cases this
theorem Wd.town_out {t : Addr} (w : Wd K mg F H M) (ht : M t = some .town) : ∃ c n cells, TownOk M t c cells ∧ Wd K mg F H (tOpen M t c n cells) := by
  obtain ⟨f0, c, n, cells, h1, h2, h3, h3', h4, h5, h6, h7⟩ := w.mu t _ ht
  have T : TownOk M t c cells := ⟨ht, h4, h5, h6, h7⟩
  have hl : (cells.map V.int).length ≤ sizeLine := by rw [List.length_map]; exact Nat.le_of_lt (small1000 (Nat.le_trans h6.1 (by decide)))
  refine ⟨c, n, cells, T, w.sub, fun a o e => ?_, fun a m e => ?_⟩
  · obtain ⟨q1, q2, q3⟩ := w.un a o e
    refine ⟨q1, q2, ?_⟩
    unfold tOpen
    rw [mup_ne (fun z => by rw [z, ht] at q3; cases q3), mup_ne (fun z => by rw [z, h3'] at e; cases e)]; exact q3
  · unfold tOpen at e
    by_cases hat : a = t
    · subst hat; rw [mup_same] at e; cases e
      exact ⟨f0, [.ref c, .int n], h1, by show 2 ≤ sizeLine; decide, .cons (.ref c) (.cons (.int n) .nil)⟩
    · rw [mup_ne hat] at e
      by_cases hac : a = c
      · subst hac; rw [mup_same] at e; cases e
        exact ⟨h3, _, h2, hl, RepL.ints cells⟩
      · rw [mup_ne hac] at e
        obtain ⟨q1, r⟩ := w.mu a m e
        refine ⟨q1, ?_⟩
        cases m with
        | lst ds => exact r
        | ins x fs => exact r
        | town => exact absurd (h7 a e) hat
theorem Wd.town_in {t c : Addr} {n : Int} {cells cells' : List Int} (T : TownOk M t c cells) (ne : cells' ≠ []) (ln : cellsOk cells') (w : Wd K mg F H (tOpen M t c n cells')) : Wd K mg F H M := by
  have ct := T.ct
  have et : tOpen M t c n cells' t = some (.lst [.ref c, .int n]) := by unfold tOpen; exact mup_same
  have ec : tOpen M t c n cells' c = some (.lst (cells'.map D.int)) := by unfold tOpen; rw [mup_ne ct]; exact mup_same
  have ea : ∀ a, a ≠ t → a ≠ c → tOpen M t c n cells' a = M a := fun a h1 h2 => by unfold tOpen; rw [mup_ne h1, mup_ne h2]
  obtain ⟨ft, vt, ht, _, rt⟩ := w.mu t _ et
  obtain ⟨fc, vc, hc, _, rc⟩ := w.mu c _ ec
  have nu : ∀ a o, F.u a = some o → a ≠ t ∧ a ≠ c := fun a o e => by
    obtain ⟨_, _, q⟩ := w.un a o e
    exact ⟨(fun z => by rw [z, et] at q; cases q), (fun z => by rw [z, ec] at q; cases q)⟩
  refine ⟨w.sub, fun a o e => ?_, fun a m e => ?_⟩
  · obtain ⟨q1, q2, q3⟩ := w.un a o e
    obtain ⟨n1, n2⟩ := nu a o e
    exact ⟨q1, q2, by rw [← ea a n1 n2]; exact q3⟩
  · by_cases hat : a = t
    · subst hat
      rw [T.at_] at e; cases e
      have evc : vc = cells'.map V.int := rc.ints_of
      have evt : vt = [.ref c, .int n] := by
        cases rt with
        | cons a1 rt =>
          cases rt with
          | cons a2 rt => cases rt; cases a1; cases a2; rfl
      refine ⟨ft, c, n, cells', by rw [← evt]; exact ht, by rw [← evc]; exact hc, fc, ?_, T.no, ne, ln, T.one⟩
      cases q : F.u c with
      | none => rfl
      | some o => exact absurd rfl (nu c o q).2
    · have hac : a ≠ c := fun z => by rw [z, T.no] at e; cases e
      obtain ⟨q1, r⟩ := w.mu a m (by rw [ea a hat hac]; exact e)
      refine ⟨q1, ?_⟩
      cases m with
      | lst ds => exact r
      | ins x fs => exact r
      | town => exact absurd (T.one a e) hat
/-- a town is made: its list at t holds the cells at c -/
theorem Wd.town_new {t c : Addr} {n : Int} {cells : List Int} (h0 : ∀ t', M t' ≠ some .town) (ne : cells ≠ []) (ln : cellsOk cells) (hc : H c = none) (ht : upd H c (.lst (cells.map V.int)) t = none) (w : Wd K mg F H M) :
    Wd K mg F (upd (upd H c (.lst (cells.map V.int))) t (.lst [.ref c, .int n])) (mup M t .town) ∧ M t = none := by
  have tc : t ≠ c := fun e => by rw [e, upd_same] at ht; cases ht
  have ht0 : H t = none := by rw [upd_ne tc] at ht; exact ht
  obtain ⟨mt, ft, ut⟩ := w.free ht0
  obtain ⟨mc, fc, uc⟩ := w.free hc
  have hh : ∀ a, a ≠ t → a ≠ c → upd (upd H c (.lst (cells.map V.int))) t (.lst [.ref c, .int n]) a = H a := fun a h1 h2 => by rw [upd_ne h1, upd_ne h2]
  refine ⟨⟨fun a o e => ?_, fun a o e => ?_, fun a m e => ?_⟩, mt⟩
  · rw [hh a (fun z => by rw [z, ft] at e; cases e) (fun z => by rw [z, fc] at e; cases e)]; exact w.sub a o e
  · obtain ⟨q1, q2, q3⟩ := w.un a o e
    have n1 : a ≠ t := fun z => by rw [z, ut] at e; cases e
    exact ⟨by rw [hh a n1 (fun z => by rw [z, uc] at e; cases e)]; exact q1, q2, by rw [mup_ne n1]; exact q3⟩
  · by_cases hat : a = t
    · subst hat; rw [mup_same] at e; cases e
      refine ⟨ft, c, n, cells, upd_same, by rw [upd_ne tc.symm]; exact upd_same, fc, uc, by rw [mup_ne tc.symm]; exact mc, ne, ln, fun t' e' => ?_⟩
      by_cases h : t' = a
      · exact h
      · rw [mup_ne h] at e'; exact absurd e' (h0 t')
    · rw [mup_ne hat] at e
      obtain ⟨q1, r⟩ := w.mu a m e
      have hac : a ≠ c := ne_of_m e mc
      refine ⟨q1, ?_⟩
      cases m with
      | lst ds => obtain ⟨vs, h, l, q⟩ := r; exact ⟨vs, (hh a hat hac).trans h, l, q⟩
      | ins x fs => obtain ⟨C, dx, vs, h1, h, q⟩ := r; exact ⟨C, dx, vs, h1, (hh a hat hac).trans h, q⟩
      | town => exact absurd e (h0 a)
end
theorem cx_no {P : Program} {w : World} {H : Hp} {s s' : Shared} {e : Value} (h : L2.CX P w [] H s (fun _ _ _ => False) e s') : False := by
  obtain ⟨_, _, _, _, _, _, _, _, _, _, _, _, z⟩ := h
  exact z
theorem vals_of_abs : ∀ {us : List Value} {vs : List V}, us.map absV = vs.map some → Vals vs us
  | [], [], _ => .nil
  | u :: us, v :: vs, h => by
    rw [List.map_cons, List.map_cons] at h
    injection h with h1 h2
    refine .cons ?_ (vals_of_abs h2)
    cases u <;> cases h1 <;> first | rfl | exact ⟨_, rfl⟩
theorem ktup_mk {K : PySem.W.Frag} {a : Addr} {ci : List Value} {n : Nat} {sl : Array (Option Value)} {vs : List V} (l : K.lookup a = some ⟨.type "tuple", none, .seq ci.toArray n, sl⟩) (h : ci.map absV = vs.map some) (hl : ci.length ≤ sizeLine) : KTup K a vs :=
  ⟨_, _, n, l, rfl, rfl, rfl, by rw [List.size_toArray]; exact hl, by simpa using vals_of_abs h⟩
end Zl

/-! Zl9: own classes, caught exceptions -/
namespace Zl
open PySem L2
/-! ### instances -/
/-- a field stored -/
def putD (f : Str) (d : D) : List (Str × D) → List (Str × D)
  | [] => [(f, d)]
  | (g, x) :: r => if g = f then (g, d) :: r else (g, x) :: putD f d r
def onIns (M : Mh) (c : Str) (d : D) (k : Addr → List (Str × D) → Prop) : Prop := match d with
  | .ref p => (match M p with | some (.ins c' fs) => c' = c ∧ k p fs | _ => False)
  | _ => False
def onFd (fs : List (Str × D)) (f : Str) (k : D → Prop) : Prop := match fs.lookup f with | some d => k d | none => False
def zFld (c f : Str) (a : ZE) : ZE := fun r M Q => a r M fun d M1 => onIns M1 c d fun _ fs => onFd fs f fun v => Q v M1
def zSetA (c f : Str) (a v : ZE) : ZS := fun E r M => v r M fun y M1 => a r M1 fun d M2 => onIns M2 c d fun p fs => fs.length < 1000 ∧ E.nx r (mup M2 p (.ins c (putD f y fs)))
def zMeth (c m : Str) (zs : ZSp) (zE : ZW) (a : ZE) (t : ZA) : ZE := fun r M Q => a r M fun d M1 => onIns M1 c d fun p fs => fs.lookup m = none ∧ t r M1 fun ds M2 => zs (.ref p :: ds) M2 Q fun c fs M' => zE c fs r M'
def zMake (c : Str) (zs : ZSp) (zE : ZW) (t : ZA) : ZE := fun r M Q => t r M fun ds M1 => ∀ p, M1 p = none → zs (.ref p :: ds) (mup M1 p (.ins c [])) (fun d M2 => d = .non ∧ Q (.ref p) M2) fun c fs M' => zE c fs r M'
section
variable {K : PySem.W.Frag} {mg : Str → Option Value} {F : Fz} {H : Hp} {M : Mh}
theorem lookup_rep : ∀ {fs : List (Str × D)} {vs : List V} {f : Str} {d : D}, RepL K mg F vs (fs.map (·.2)) → fs.lookup f = some d → ∃ v, (List.zip (fs.map (·.1)) vs).lookup f = some v ∧ Rep K mg F v d
  | [], _, _, _, _, h => by cases h
  | (g, x) :: r, vs, f, d, q, h => by
    cases q with
    | cons q1 q2 =>
      rename_i v vs'
      show ∃ w, List.lookup f ((g, v) :: List.zip (r.map (·.1)) vs') = some w ∧ _
      by_cases e : f = g
      · have hb : (f == g) = true := beq_iff_eq.mpr e
        simp only [List.lookup, hb] at h ⊢
        cases h
        exact ⟨v, rfl, q1⟩
      · have hb : (f == g) = false := beq_eq_false_iff_ne.mpr e
        simp only [List.lookup, hb] at h ⊢
        exact lookup_rep q2 h
theorem lookup_none : ∀ {fs : List (Str × D)} {vs : List V} {f : Str}, fs.lookup f = none → (List.zip (fs.map (·.1)) vs).lookup f = none
  | [], _, _, _ => rfl
  | (g, x) :: r, [], f, _ => rfl
  | (g, x) :: r, v :: vs', f, h => by
    show List.lookup f ((g, v) :: List.zip (r.map (·.1)) vs') = none
    by_cases e : f = g
    · have hb : (f == g) = true := beq_iff_eq.mpr e
      simp only [List.lookup, hb] at h
      cases h
    · have hb : (f == g) = false := beq_eq_false_iff_ne.mpr e
      simp only [List.lookup, hb] at h ⊢
      exact lookup_none h
theorem put_rep {f : Str} {d : D} {v : V} (q : Rep K mg F v d) : ∀ {fs : List (Str × D)} {vs : List V}, RepL K mg F vs (fs.map (·.2)) → ∃ ws, putF f v (List.zip (fs.map (·.1)) vs) = List.zip ((putD f d fs).map (·.1)) ws ∧ RepL K mg F ws ((putD f d fs).map (·.2))
  | [], vs, r => by
    cases r
    exact ⟨[v], rfl, .cons q .nil⟩
  | (g, x) :: r, vs, q2 => by
    cases q2 with
    | cons q3 q4 =>
      rename_i u us
      show ∃ ws, (if g = f then (g, v) :: List.zip (r.map (·.1)) us else (g, u) :: putF f v (List.zip (r.map (·.1)) us)) = List.zip ((if g = f then (g, d) :: r else (g, x) :: putD f d r).map (·.1)) ws ∧ RepL K mg F ws ((if g = f then (g, d) :: r else (g, x) :: putD f d r).map (·.2))
      by_cases e : g = f
      · rw [if_pos e, if_pos e]
        exact ⟨v :: us, rfl, .cons q q4⟩
      · rw [if_neg e, if_neg e]
        obtain ⟨ws, h1, h2⟩ := put_rep q (f := f) q4
        exact ⟨u :: ws, by rw [h1]; rfl, .cons q3 h2⟩
theorem onIns_out {c : Str} {d : D} {k : Addr → List (Str × D) → Prop} {v : V} (w : Wd K mg F H M) (r : Rep K mg F v d) (h : onIns M c d k) : ∃ p fs C dx vs, v = .ref p ∧ d = .ref p ∧ M p = some (.ins c fs) ∧ mg c = some (.ref C) ∧ H p = some (.ins C dx (List.zip (fs.map (·.1)) vs)) ∧ RepL K mg F vs (fs.map (·.2)) ∧ k p fs := by
  cases d with
  | ref p =>
    cases r
    have h' : (match M p with | some (.ins c' fs) => c' = c ∧ k p fs | _ => False) := h
    cases e : M p with
    | none => rw [e] at h'; exact h'.elim
    | some m =>
      cases m with
      | lst _ => rw [e] at h'; exact h'.elim
      | town => rw [e] at h'; exact h'.elim
      | ins c' fs =>
        rw [e] at h'
        obtain ⟨rfl, h'⟩ := h'
        obtain ⟨_, C, dx, vs, h1, h2, h3⟩ := w.mu p _ e
        exact ⟨p, fs, C, dx, vs, rfl, rfl, e, h1, h2, h3, h'⟩
  | _ => exact False.elim h
theorem ref_inj {c : Str} {C C' : Addr} (h : mg c = some (.ref C)) (h' : mg c = some (.ref C')) : C' = C := by
  rw [h] at h'; cases h'; rfl
end
section
variable {X : Cx} {F0 : Fz} {a b : Expr} {fa fb : ZE} {pos apos p : Pos} {c f m x : Str} {C : Addr}
theorem ze_fld (gC : X.mg c = some (.ref C)) (cl : Cls X.K C) (na : NoAttr X.K C f) (ha : PE X a (UE X F0 fa)) (hb : attributeBase a f X.env (eval a X.env) = eval a X.env := by rfl) : PE X (.Attribute a f pos) (UE X F0 (zFld c f fa)) :=
  pe_imp (pe_fld ha hb) fun s H Q h => by
  obtain ⟨F, rr, M, R, s0, w, e, h, k⟩ := h
  refine ⟨F, rr, M, _, s0, w, e, h, fun d M1 h1 F1 H1 v s1 w1 r1 => ?_⟩
  obtain ⟨q, fs, C', dx, vs, rfl, rfl, e1, g1, h2, h3, h4⟩ := onIns_out w1 r1 h1
  obtain rfl := ref_inj gC g1
  unfold onFd at h4
  cases e2 : fs.lookup f with
  | none => rw [e2] at h4; exact h4.elim
  | some y =>
    rw [e2] at h4
    obtain ⟨u, l1, l2⟩ := lookup_rep h3 e2
    exact ⟨q, C', dx, _, u, rfl, h2, cl, na, l1, k _ _ h4 _ _ _ s1 w1 l2⟩
theorem zs_setA (gC : X.mg c = some (.ref C)) (cl : Cls X.K C) (na : NoAttr X.K C f) (ha : PE X a (UE X F0 fa)) (hb : PE X b (UE X F0 fb)) (hs : swapsWith b (some (.Attribute a f apos)) pos.line X.env = pure false := by rfl) : PS X (.Assign [.Attribute a f apos] b pos) (US X F0 (zSetA c f fa fb)) :=
  ps_imp (ps_fld ha hb hs) fun E s H h => by
  obtain ⟨F, rr, M, Z, s0, w, e, h, k⟩ := h
  refine ⟨F, rr, M, _, s0, w, e, h, fun y M1 h1 F1 H1 yv s1 w1 r1 => ⟨F1, rr, M1, _, s0.trans s1, w1, e.mono s1, h1, fun d M2 h2 F2 H2 v s2 w2 r2 => ?_⟩⟩
  obtain ⟨q, fs, C', dx, vs, rfl, rfl, e1, g1, h3, h4, h5, h6⟩ := onIns_out w2 r2 h2
  obtain rfl := ref_inj gC g1
  obtain ⟨ws, l1, l2⟩ := put_rep (f := f) (r1.mono s2) h4
  refine ⟨q, C', dx, _, rfl, h3, cl, na, ?_, k.nx _ _ h6 F2 _ _ (s1.trans s2) (w2.write e1 (by intro z; cases z) (by intro z; cases z) ⟨C', dx, ws, g1, ?_, l2⟩) (e.mono (s1.trans s2))⟩
  · rw [List.length_zip, List.length_map]; omega
  · rw [upd_same, l1]
/-- o.m(e, ..), what is let out as at the slots -/
def tMethS (C : Addr) (m : Str) (sp : Sp) (E : St → XK) (ta : TE) (t : TA) : TE := fun σ H Q => ta σ H fun x H1 => ∃ a dx fs, x = .ref a ∧ H1 a = some (.ins C dx fs) ∧ fs.lookup m = none ∧ t σ H1 fun vs H2 => sp (x :: vs) H2 Q (E σ)
theorem pe_methS {CX : CXT} {k : Nat} {g : Addr} {fd : FuncData} {ps : List Str} {sp : Sp} {E : St → XK} {o e : Expr} {es : List Expr} {ta : TE} {t : TA} {pl : Sem Bool} (he : PE X o ta) (cl : Cls X.K C) (hm : Meth X.K C m g) (FO : FnOk X.prog X.w X.K X.mg X.base CX k g fd ps sp) (hr : Room k X.A) (hb : Binds X.K fd ps []) (hx : ∀ σ, PassesAt CX X σ (E σ)) (ha : PA X (e :: es) t)
    (hst : starEach (e :: es) X.env = (false, eval e X.env) :: starEach es X.env := by rfl) (hpl : (backTo pos (starEach es X.env)).any (·.1) = false := by rfl)
    (ht : eval (.Call (.Attribute o m apos) (e :: es) [] pos) X.env = (do
      let ov ← eval o X.env
      standAt apos.atName
      let (f, first) ← holding [ov] (getMethod ov m pl)
      callWith pos f first (backTo pos (starEach (e :: es) X.env)) (backToKw pos (keywordEach [] X.env))) := by rfl) :
    PE X (.Call (.Attribute o m apos) (e :: es) [] pos) (tMethS C m sp E ta t) := by
  refine ⟨fun pins s σ H Q I h => ?_⟩
  refine PySem.W.methodCall_KW (pl := pl) (thn (he.run pins s σ H _ I h) fun u s1 ⟨x, H1, I1, rx, a, dx, fs, ex, ea, l, q⟩ => ?_) ht
  subst ex
  obtain rfl : u = Value.ref a := rx
  refine getmeth_ok I1 ea cl hm l ?_
  refine PySem.W.callWith_K (first := [.ref a]) (h₀ := X.base) I.ok.mod.kin hm.kp (thn (ha.run pos pins s1 σ H1 _ I1 q) fun us s2 ⟨vs, H2, I2, r, q2⟩ => ⟨I2.kIn, ?_⟩) hst hpl
  exact run_fnS (us := .ref a :: us) (vs := .ref a :: vs) FO hr hb (hx σ) I2 (.cons rfl r) q2
theorem pe_methS0 {CX : CXT} {k : Nat} {g : Addr} {fd : FuncData} {ps : List Str} {sp : Sp} {E : St → XK} {o : Expr} {ta : TE} {pl : Sem Bool} (he : PE X o ta) (cl : Cls X.K C) (hm : Meth X.K C m g) (FO : FnOk X.prog X.w X.K X.mg X.base CX k g fd ps sp) (hr : Room k X.A) (hb : Binds X.K fd ps []) (hx : ∀ σ, PassesAt CX X σ (E σ))
    (ht : eval (.Call (.Attribute o m apos) [] [] pos) X.env = (do
      let ov ← eval o X.env
      standAt apos.atName
      let (f, first) ← holding [ov] (getMethod ov m pl)
      callWith pos f first (backTo pos (starEach [] X.env)) (backToKw pos (keywordEach [] X.env))) := by rfl) :
    PE X (.Call (.Attribute o m apos) [] [] pos) (tMethS C m sp E ta tNil) := by
  refine ⟨fun pins s σ H Q I h => ?_⟩
  refine PySem.W.methodCall_KW (pl := pl) (thn (he.run pins s σ H _ I h) fun u s1 ⟨x, H1, I1, rx, a, dx, fs, ex, ea, l, q⟩ => ?_) ht
  subst ex
  obtain rfl : u = Value.ref a := rx
  refine getmeth_ok I1 ea cl hm l ?_
  exact PySem.W.callWith_K0 (first := [.ref a]) I1.kIn hm.kp (run_fnS (us := [.ref a]) (vs := [.ref a]) FO hr hb (hx σ) I1 (.cons rfl .nil) q)
theorem up_meth {zs : ZSp} {zE : ZW} {W : WX} {t : ZA} (gC : X.mg c = some (.ref C)) (wk : Wok X.K X.mg F0 W zE) {s : St} {H : Hp} {Q : VK} (h : UE X F0 (zMeth c m zs zE fa t) s H Q) : tMethS C m (liftSp X.K X.mg zs) (WE W) (UE X F0 fa) (UA X F0 t) s H Q := by
  obtain ⟨F, rr, M, R, s0, w, e, h, k⟩ := h
  refine ⟨F, rr, M, _, s0, w, e, h, fun d M1 h1 F1 H1 v s1 w1 r1 => ?_⟩
  obtain ⟨q, fs, C', dx, vs, rfl, rfl, e1, g1, h2, h3, h4, h5⟩ := onIns_out w1 r1 h1
  obtain rfl := ref_inj gC g1
  refine ⟨q, dx, _, rfl, h2, lookup_none h4, F1, rr, M1, _, s0.trans s1, w1, e.mono s1, h5, fun ds M2 h6 F2 H2 us s2 w2 r2 => ⟨F2, M2, _, R, _, w2, .cons (.ref q) r2, h6, k.mono (s1.trans s2), fun c fs M' hx F' H' cls d s3 w3 rx => ?_⟩⟩
  exact wk c fs rr M' hx F' s H' cls d (s0.trans ((s1.trans s2).trans s3)) w3 (e.mono ((s1.trans s2).trans s3)) rx
theorem ze_meth {k : Nat} {g : Addr} {fd : FuncData} {ps : List Str} {zs : ZSp} {zE : ZW} {W : WX} {e : Expr} {es : List Expr} {t : ZA} {pl : Sem Bool} (gC : X.mg c = some (.ref C)) (cl : Cls X.K C) (hm : Meth X.K C m g) (FO : FnOk X.prog X.w X.K X.mg X.base (L2.CX X.prog X.w) k g fd ps (liftSp X.K X.mg zs)) (hr : Room k X.A) (hb : Binds X.K fd ps [])
    (tk : Takes X W) (wk : Wok X.K X.mg F0 W zE) (ho : PE X a (UE X F0 fa)) (ha : PA X (e :: es) (UA X F0 t)) (hst : starEach (e :: es) X.env = (false, eval e X.env) :: starEach es X.env := by rfl) (hpl : (backTo pos (starEach es X.env)).any (·.1) = false := by rfl)
    (ht : eval (.Call (.Attribute a m apos) (e :: es) [] pos) X.env = (do
      let ov ← eval a X.env
      standAt apos.atName
      let (f, first) ← holding [ov] (getMethod ov m pl)
      callWith pos f first (backTo pos (starEach (e :: es) X.env)) (backToKw pos (keywordEach [] X.env))) := by rfl) :
    PE X (.Call (.Attribute a m apos) (e :: es) [] pos) (UE X F0 (zMeth c m zs zE fa t)) := pe_imp (pe_methS ho cl hm FO hr hb (fun s => passAt tk s) ha hst hpl ht) fun s H Q h => up_meth gC wk h
theorem ze_meth0 {k : Nat} {g : Addr} {fd : FuncData} {ps : List Str} {zs : ZSp} {zE : ZW} {W : WX} {pl : Sem Bool} (gC : X.mg c = some (.ref C)) (cl : Cls X.K C) (hm : Meth X.K C m g) (FO : FnOk X.prog X.w X.K X.mg X.base (L2.CX X.prog X.w) k g fd ps (liftSp X.K X.mg zs)) (hr : Room k X.A) (hb : Binds X.K fd ps [])
    (tk : Takes X W) (wk : Wok X.K X.mg F0 W zE) (ho : PE X a (UE X F0 fa))
    (ht : eval (.Call (.Attribute a m apos) [] [] pos) X.env = (do
      let ov ← eval a X.env
      standAt apos.atName
      let (f, first) ← holding [ov] (getMethod ov m pl)
      callWith pos f first (backTo pos (starEach [] X.env)) (backToKw pos (keywordEach [] X.env))) := by rfl) :
    PE X (.Call (.Attribute a m apos) [] [] pos) (UE X F0 (zMeth c m zs zE fa zNil)) := pe_imp (pe_methS0 ho cl hm FO hr hb (fun s => passAt tk s) ht) fun s H Q h => by
  have h' := up_meth gC wk h
  obtain ⟨F, rr, M, R, s0, w, e, h1, k⟩ := h'
  refine ⟨F, rr, M, R, s0, w, e, h1, fun d M1 h1 F1 H1 v s1 w1 r1 => ?_⟩
  obtain ⟨q, dx, fs, e1, e2, e3, F2, rr2, M2, R2, g1, w2, e4, h4, k4⟩ := k d M1 h1 F1 H1 v s1 w1 r1
  exact ⟨q, dx, fs, e1, e2, e3, k4 [] M2 h4 F2 H1 [] (Le.refl _) w2 .nil⟩
/-- C(..): a new instance, then __init__ -/
def tMakeS (C : Addr) (sp : Sp) (E : St → XK) (t : TA) : TE := fun σ H Q => t σ H fun vs H1 => ∀ x dx, H1 x = none → H1 dx = none → dx ≠ x →
  sp (.ref x :: vs) (upd (upd H1 dx (.own x)) x (.ins C dx [])) (fun v H2 => v = .non ∧ Q (.ref x) H2) (E σ)
theorem run_makeS {k : Nat} {g : Addr} {fd : FuncData} {ps : List Str} {sp : Sp} {E : St → XK} {CX : CXT} {pins : List (Addr × Obj)} {σ : St} {H : Hp} {s : Shared} {Q : VK} {us : List Value} {vs : List V} (Mm : Mk X.K C g) (FO : FnOk X.prog X.w X.K X.mg X.base CX k g fd ps sp) (hr : Room (k + 1) X.A) (hb : Binds X.K fd ps [])
    (hx : PassesAt CX X σ (E σ)) (I : Inv X pins σ H s) (r : Vals vs us)
    (h : ∀ x dx, H x = none → H dx = none → dx ≠ x → sp (.ref x :: vs) (upd (upd H dx (.own x)) x (.ins C dx [])) (fun v H2 => v = .non ∧ Q (.ref x) H2) (E σ)) :
    wpAny (model X.prog X.w) X.A (call (.ref C) us) (EP X pins σ Q) X.xe s := by
  have hq := h (s.heap.objs.size + 1) s.heap.objs.size (I.hok.fresh (Nat.le_succ _)) (I.hok.fresh (Nat.le_refl _)) (Nat.ne_of_lt (Nat.lt_succ_self _))
  have I2 := Inv.made (C := C) I
  have r2 : Vals (V.ref (s.heap.objs.size + 1) :: vs) (Value.ref (s.heap.objs.size + 1) :: us) := .cons rfl r
  have hl : (Value.ref (s.heap.objs.size + 1) :: us).length = ps.length := by
    have e := r2.length
    rw [FO.len _ _ _ _ hq] at e
    exact e.symm
  have b := hb { s with heap := (s.heap.push PySem.W.emptyDict).push (PySem.W.instObj C s.heap.objs.size) } (Value.ref (s.heap.objs.size + 1) :: us) I2.kIn (by rw [List.append_nil]; exact hl)
  rw [List.append_nil] at b
  refine wpAny_call (make_map (f := g) I.kIn Mm.makes Mm.init (beq_iff_eq.mp Mm.fn) (codeAny_mono (FO.run _ X.stack _ _ ⟨Value.ref (s.heap.objs.size + 1) :: us, []⟩ (Value.ref (s.heap.objs.size + 1) :: us) _ _ (E σ) (hr.make C us [])
    (I2.env0.make C us []) b r2 hq) fun r s' hq' => ?_))
  cases r with
  | error e => exact hx pins _ _ e s' I2 hq'
  | ok fl =>
    cases fl with
    | ret u =>
      obtain ⟨v, H', I3, rv, ev, q3⟩ := I2.after hq'
      subst ev
      exact ⟨rv, ⟨V.ref (s.heap.objs.size + 1), H', I3, rfl, q3⟩⟩
    | next => exact False.elim hq'
    | brk => exact False.elim hq'
    | cont => exact False.elim hq'
theorem pe_makeS {k : Nat} {g : Addr} {fd : FuncData} {ps : List Str} {sp : Sp} {E : St → XK} {CX : CXT} {e : Expr} {es : List Expr} {t : TA} (Mm : Mk X.K C g) (FO : FnOk X.prog X.w X.K X.mg X.base CX k g fd ps sp) (hr : Room (k + 1) X.A) (hg : Gl X x) (hm : X.mg x = some (.ref C)) (hb : Binds X.K fd ps []) (hx : ∀ σ, PassesAt CX X σ (E σ))
    (ha : PA X (e :: es) t) (hdb : (x == ("__debug__" : Str)) = false := by decide) (he : starEach (e :: es) X.env = (false, eval e X.env) :: starEach es X.env := by rfl) (hpl : (backTo pos (starEach es X.env)).any (·.1) = false := by rfl) :
    PE X (.Call (.Name x p) (e :: es) [] pos) (tMakeS C sp E t) := by
  refine ⟨fun pins s σ H Q I h => ?_⟩
  refine wpAny_Call_Name_kw (ld_glob I hg hm ?_ hdb)
  refine PySem.W.callWith_K (h₀ := X.base) I.ok.mod.kin Mm.kp (thn (ha.run pos pins s σ H _ I h) fun us s1 ⟨vs, H1, I1, r, q⟩ => ⟨I1.kIn, ?_⟩) he hpl
  exact run_makeS Mm FO hr hb (hx σ) I1 r q
theorem pe_makeS0 {k : Nat} {g : Addr} {fd : FuncData} {ps : List Str} {sp : Sp} {E : St → XK} {CX : CXT} (Mm : Mk X.K C g) (FO : FnOk X.prog X.w X.K X.mg X.base CX k g fd ps sp) (hr : Room (k + 1) X.A) (hg : Gl X x) (hm : X.mg x = some (.ref C)) (hb : Binds X.K fd ps []) (hx : ∀ σ, PassesAt CX X σ (E σ))
    (hdb : (x == ("__debug__" : Str)) = false := by decide) : PE X (.Call (.Name x p) [] [] pos) (tMakeS C sp E tNil) := by
  refine ⟨fun pins s σ H Q I h => ?_⟩
  refine wpAny_Call_Name_kw (ld_glob I hg hm ?_ hdb)
  exact PySem.W.callWith_K0 I.kIn Mm.kp (run_makeS (us := []) Mm FO hr hb (hx σ) I .nil h)
theorem make_low {zs : ZSp} {zE : ZW} {W : WX} (gC : X.mg c = some (.ref C)) (wk : Wok X.K X.mg F0 W zE) {F : Fz} {rr : Env} {M1 : Mh} {R : QZ} {s : St} {H1 : Hp} {Q : VK} {ds : List D} {vs : List V} (s0 : Ge F0 F) (w : Wd X.K X.mg F H1 M1) (e : RepE X.K X.mg F s rr) (rl : RepL X.K X.mg F vs ds)
    (h : ∀ p, M1 p = none → zs (.ref p :: ds) (mup M1 p (.ins c [])) (fun d M2 => d = .non ∧ R (.ref p) M2) fun c fs M' => zE c fs rr M') (k : Kq X.K X.mg F R Q) : ∀ y dx, H1 y = none → H1 dx = none → dx ≠ y →
    liftSp X.K X.mg zs (.ref y :: vs) (upd (upd H1 dx (.own y)) y (.ins C dx [])) (fun v H2 => v = .non ∧ Q (.ref y) H2) (WE W s) := by
  intro y dx hy hdx ne
  obtain ⟨s1, w1⟩ := w.laidF (o := .own y) hdx
  have hy' : upd H1 dx (.own y) y = none := by rw [upd_ne (Ne.symm ne)]; exact hy
  obtain ⟨m0, _, _⟩ := w1.free hy'
  have w2 : Wd X.K X.mg (F.up dx (.own y)) (upd (upd H1 dx (.own y)) y (.ins C dx [])) (mup M1 y (.ins c [])) := w1.laidM hy' (by intro z; cases z) ⟨C, dx, [], gC, upd_same, .nil⟩
  refine ⟨_, _, _, _, _, w2, .cons (.ref y) (rl.mono s1), h y m0, fun d M2 ⟨hd, hR⟩ F' H' v s2 w3 r3 => ?_, fun c fs M' hx F' H' cls d s2 w3 rx => ?_⟩
  · subst hd
    cases r3
    exact ⟨rfl, k _ _ hR F' H' _ (s1.trans s2) w3 (.ref y)⟩
  · exact wk c fs rr M' hx F' s H' cls d (s0.trans (s1.trans s2)) w3 (e.mono (s1.trans s2)) rx
theorem ze_make {k : Nat} {g : Addr} {fd : FuncData} {ps : List Str} {zs : ZSp} {zE : ZW} {W : WX} {e : Expr} {es : List Expr} {t : ZA} (gC : X.mg c = some (.ref C)) (Mm : Mk X.K C g) (FO : FnOk X.prog X.w X.K X.mg X.base (L2.CX X.prog X.w) k g fd ps (liftSp X.K X.mg zs)) (hr : Room (k + 1) X.A) (hb : Binds X.K fd ps [])
    (tk : Takes X W) (wk : Wok X.K X.mg F0 W zE) (ha : PA X (e :: es) (UA X F0 t)) (hg : Gl X c := by rfl) (hdb : (c == ("__debug__" : Str)) = false := by decide) (he : starEach (e :: es) X.env = (false, eval e X.env) :: starEach es X.env := by rfl) (hpl : (backTo pos (starEach es X.env)).any (·.1) = false := by rfl) :
    PE X (.Call (.Name c p) (e :: es) [] pos) (UE X F0 (zMake c zs zE t)) := pe_imp (pe_makeS Mm FO hr hg gC hb (fun s => passAt tk s) ha hdb he hpl) fun s H Q h => by
  obtain ⟨F, rr, M, R, s0, w, e, h, k⟩ := h
  exact ⟨F, rr, M, _, s0, w, e, h, fun ds M1 h1 F1 H1 vs s1 w1 r1 => make_low gC wk (s0.trans s1) w1 (e.mono s1) r1 h1 (k.mono s1)⟩
theorem ze_make0 {k : Nat} {g : Addr} {fd : FuncData} {ps : List Str} {zs : ZSp} {zE : ZW} {W : WX} (gC : X.mg c = some (.ref C)) (Mm : Mk X.K C g) (FO : FnOk X.prog X.w X.K X.mg X.base (L2.CX X.prog X.w) k g fd ps (liftSp X.K X.mg zs)) (hr : Room (k + 1) X.A) (hb : Binds X.K fd ps [])
    (tk : Takes X W) (wk : Wok X.K X.mg F0 W zE) (hg : Gl X c := by rfl) (hdb : (c == ("__debug__" : Str)) = false := by decide) :
    PE X (.Call (.Name c p) [] [] pos) (UE X F0 (zMake c zs zE zNil)) := pe_imp (pe_makeS0 Mm FO hr hg gC hb (fun s => passAt tk s) hdb) fun s H Q h => by
  obtain ⟨F, rr, M, R, s0, w, e, h, k⟩ := h
  exact make_low gC wk s0 w e .nil h k
end
end Zl

/-! Zl10: try .. except X as e: y = e; isinstance of what was caught; {} -/
namespace Zl
open PySem L2 PySem.Spec PyProof.Rows
section
variable {X : Cx} {pins : List (Addr × Obj)} {σ : L2.St} {H : Hp} {s : Shared}
/-- an exception object that nobody tracked is tracked -/
theorem track {a C : Addr} {d : Option Addr} {oe : Obj} {vs : Array Value} (I : Inv X pins σ H s) (ha : s.heap.get? a = some oe) (z : Zc (.ref C) d oe) (hd : oe.data = .fields vs) (na : H a = none) (n0 : X.s_0.heap.get? a = none)
    (nL : a ≠ X.env.locals) (nC : ∀ x c, X.env.cells.lookup x = some c → c ≠ a) (nP : ∀ p ∈ X.pn ++ pins, p.1 ≠ a) : Inv X pins σ (upd H a (ExZ C d a)) s := by
  have ne : ∀ b o, H b = some o → b ≠ a := fun b o e z => by rw [z, na] at e; cases e
  refine ⟨I.ok, I.os, I.bare, ⟨I.base.keep, I.base.slot, fun b o e n hq => ?_, I.base.there, fun b xs e => ?_, fun b o u e => ?_, fun b ps e => ?_⟩, I.loc, I.cell, ?_, fun x c e => ?_, fun p hp => ?_, fun b u e => ?_, I.len⟩
  · rw [upd_ne (fun z => by rw [z, n0] at e; cases e)]; exact I.base.free b o e n hq
  · have q := I.base.tups b xs e
    rw [upd_ne (ne b _ q)]; exact q
  · have q := I.base.frzs b o u e
    rw [upd_ne (ne b _ q)]; exact q
  · obtain ⟨m, q⟩ := I.base.tbls b ps e
    exact ⟨m, by rw [upd_ne (ne b _ q)]; exact q⟩
  · rw [upd_ne (Ne.symm nL)]; exact I.free
  · rw [upd_ne (nC x c e)]; exact I.freeC x c e
  · obtain ⟨h1, h2, h3⟩ := I.pin p hp
    exact ⟨h1, by rw [upd_ne (nP p hp)]; exact h2, h3⟩
  · by_cases hb : b = a
    · subst hb
      rw [upd_same] at e; cases e
      exact ⟨⟨oe, vs, ha, z, hd⟩, ⟨oe, ha⟩, fun _ _ ⟨o, v, q, r⟩ k => ⟨o, v, k o q, r⟩⟩
    · rw [upd_ne hb] at e
      refine (I.hok b u e).stay (fun c v _ q => q) (fun c q => ?_) fun c xs q => ?_
      · rw [upd_ne (ne c _ q)]; exact q
      · rw [upd_ne (ne c _ q)]; exact q
end
/-- what the clause wishes of an exception of the body: it stays, tracked -/
def wKeep (K : PySem.W.Frag) (c : Value) (i : Nat) (ts : Addr → Value → Option Addr → TS) (D : Ends) : WX := fun cls d σ H =>
  PySem.W.exmOne K cls c = some true ∧ ∃ C, cls = .ref C ∧ ∀ a, H a = none → ts a cls d { nx := fun σ' H' => D.nx (σ'.set i none) (upd H' a (ExZ C d a)), rt := fun _ _ => False, bk := fun _ _ => False, ct := fun _ _ => False } (σ.set i (some (.ref a))) H
section
variable {X : Cx} {x n : Str} {c : Value} {i : Nat} {body suite : List Stmt} {b₀ : Stmt} {np pos pos' : Pos} {tb : WX → TS} {ts : Addr → Value → Option Addr → TS}
theorem ps_try_keep (hs : X.stack = X.env :: X.outer) (hf : X.env.frame = some X.env.locals) (hex : X.ex = []) (hN : X.N.Nodup) (hi : X.N[i]? = some n) (hln : X.env.kindOf n = some .local) (hc : Names X x c)
    (hb : ∀ (W : WX) (pn : List (Addr × Obj)) (xe : Value → Shared → Prop), Takes (X.tr pn xe) W → PassesOwn (model X.prog X.w) X.A X.env xe → PSs (X.tr pn xe) body (tb W))
    (hsu : ∀ (a : Addr) (oe : Obj) (cls : Value) (d : Option Addr) (pn : List (Addr × Obj)), Zc cls d oe → (∃ vs, oe.data = .fields vs) → PSs (X.suite a ((a, oe) :: pn)) (b₀ :: suite) (ts a cls d)) :
    PS X (.Try body [.ExceptHandler (some (.Name x np)) (some n) (b₀ :: suite) pos'] [] [] pos) (fun D σ H => tb (wKeep X.K c i ts D) D σ H) := by
  refine ⟨fun pins s σ H D I h => ?_⟩
  have ok := I.ok
  have hfr : X.A.frames = some (X.env :: X.outer) := by rw [ok.frames, hs]
  have hloc : Loc X.env.scope n := .inl hln
  refine wpAny_Try_except ?_
  refine wpAny_mono ((hb (wKeep X.K c i ts D) (X.pn ++ pins) (fun e s₁ => wpAny (model X.prog X.w) X.A (noteFrame e X.env) (fun _ s₂ => wpAny (model X.prog X.w) X.A (setFlight e none) (fun _ s₃ =>
    wpAny (model X.prog X.w) X.A (handleBy e X.env [.ExceptHandler (some (.Name x np)) (some n) (b₀ :: suite) pos']) (SP X pins D) X.xe s₃) X.xe s₂) X.xe s₁) (fun u s' xx => ?_) PassesOwn.looking).run [] s σ H D (I.toTry _) h) (fun f s1 hsp => ?_) (fun e s1 he => he)
  · obtain ⟨a, B, sI, pins', σ', H', cls, d, rfl, J', nb, up, sky, na, os, ag, hb1, C, rfl, hyes⟩ := xx
    have J : Inv X pins σ' H' sI := J'.ofTry ok
    have sky' : Sky B (X.env :: X.outer) a (Zc (.ref C) d) X.env.locals s'.heap := by rw [← hs]; exact sky
    show wpAny (model X.prog X.w) X.A (noteFrame (.ref a) X.env) _ _ _
    refine Sky.land Zc.steady hfr hf sky' fun h3 fl3 up3 => ?_
    have J3 : Inv X pins σ' H' { s' with heap := h3 } := J.landed nb fl3.1 (up.trans up3) os ag
    obtain ⟨oe3, vs3, he3, hz3, hd3⟩ := fl3.there
    have notFr : ∀ {h : Heap} {o : Obj} {vs : Array Value}, h.FunFrames B (X.env :: X.outer) → h.get? a = some o → o.data = .fields vs → a ∉ frs (X.env :: X.outer) := fun {h o vs} ff e dd hm => by
      obtain ⟨_, o', e', hnf⟩ := ff.mem hm
      rw [e] at e'; cases e'
      exact hnf _ dd
    have nfr := notFr fl3.2.2.1 he3 hd3
    have nL : a ≠ X.env.locals := fun z => nfr (List.mem_filterMap.mpr ⟨X.env, List.mem_cons_self, by rw [hf, z]⟩)
    have nF : a ∉ X.fs := fun hm => by
      obtain ⟨e, he, q⟩ := List.mem_filterMap.mp hm
      exact nfr (List.mem_filterMap.mpr ⟨e, List.mem_cons_of_mem _ he, q⟩)
    have gI : sI.heap.get? a = none := by
      cases q : sI.heap.get? a with
      | none => rfl
      | some o =>
        have := nb a o q (by rw [hs]; exact nfr)
        rw [fl3.2.1] at this; cases this
    have n0 : X.s_0.heap.get? a = none := by
      cases q : X.s_0.heap.get? a with
      | none => rfl
      | some o =>
        obtain ⟨o', q'⟩ := J.base.there a o q (by rw [hex]; exact fun z => nomatch z)
        rw [gI] at q'; cases q'
    have nC : ∀ x c, X.env.cells.lookup x = some c → c ≠ a := fun x c e z => by
      obtain ⟨v, o, q, _⟩ := J.cell x c e
      rw [z, gI] at q; cases q
    have nP : ∀ p ∈ X.pn ++ pins, p.1 ≠ a := fun p hp z => by
      have q := (J.pin p hp).1
      rw [z, gI] at q; cases q
    have S3 := J3.suite he3 hd3 na nL nF
    refine wpAny_handleBy_cons (codeAny_handlers_test ?_) (by intro q; cases q)
    have LT : PySem.W.Looks (model X.prog X.w) h3 (typeOf (.ref a)) (.ref C) := fun A Q E s k q => wpAny_typeOf_ref (k _ _ he3) (by rw [hz3.1]; exact q)
    have LM := PySem.W.exm_one (M := model X.prog X.w) (J3.kIn) LT hb1
    have test : ∀ {Q : Value → Shared → Prop} {E : Value → Shared → Prop}, Q c { s' with heap := h3 } → wpAny (model X.prog X.w) (X.A.mark (some (.ref a))) (eval (.Name x np) X.env) Q E { s' with heap := h3 } := fun {Q E} q => by
      obtain ⟨hg, hdbg, hm | ⟨hm, hv, hnn⟩⟩ := hc
      · exact ld_glob (X := X.suite a ((a, oe3) :: (X.pn ++ pins))) S3 hg hm q hdbg
      · exact ld_blt (X := X.suite a ((a, oe3) :: (X.pn ++ pins))) S3 hg hm hv q hnn hdbg
    refine test (LM.here ?_)
    refine codeAny_handlers_suite_as ?_
    refine HandSPX.lands_againZ fl3 fun h4 fl4 up4 => ?_
    have J4 : Inv X pins σ' H' { s' with heap := h4 } := J.landed nb fl4.1 ((up.trans up3).trans up4) os ag
    obtain ⟨oe4, vs4, he4, hz4, hd4⟩ := fl4.there
    have S4 := J4.suite he4 hd4 na nL nF
    refine store_ok (X := X.suite a ((a, oe4) :: (X.pn ++ pins))) (v := .ref a) S4 hN hi hloc rfl (fun s5 S5 => ?_) (.inr hln)
    refine wpAny_mono ((hsu a oe4 (.ref C) d (X.pn ++ pins) hz4 ⟨_, hd4⟩).run [] s5 _ H' _ S5 (hyes a na)) (fun f s6 hsp => ?_) (fun _ _ z => False.elim z)
    cases f with
    | next =>
      obtain ⟨σ6, H6, S6, q6⟩ := hsp
      obtain ⟨g1, g2, _⟩ := S6.pin (a, oe4) (List.mem_append.mpr (.inl List.mem_cons_self))
      have T6 := track (S6.unsuite ok) g1 hz4 hd4 g2 n0 nL nC nP
      exact gone_ok T6 hN hi hln fun s7 J7 => ⟨_, _, J7, q6⟩
    | brk => obtain ⟨σ6, H6, S6, q6⟩ := hsp; exact False.elim q6
    | cont => obtain ⟨σ6, H6, S6, q6⟩ := hsp; exact False.elim q6
    | ret u => obtain ⟨v6, σ6, H6, S6, r6, q6⟩ := hsp; exact False.elim q6
  · cases f with
    | next =>
      obtain ⟨σ', H', J', q⟩ := hsp
      exact wpAny_execs_nil ⟨σ', H', J'.ofTry ok, q⟩
    | brk =>
      obtain ⟨σ', H', J', q⟩ := hsp
      exact ⟨σ', H', J'.ofTry ok, q⟩
    | cont =>
      obtain ⟨σ', H', J', q⟩ := hsp
      exact ⟨σ', H', J'.ofTry ok, q⟩
    | ret u =>
      obtain ⟨v, σ', H', J', r, q⟩ := hsp
      exact ⟨v, σ', H', J'.ofTry ok, r, q⟩
end
/-! ### the reading -/
def zTry (cs : List Str) (i j : Nat) (zb : ZW → ZS) : ZS := fun E r M => zb (fun c fs r' M' => c ∈ cs ∧ fs = [] ∧ i < r'.length ∧ E.nx (st (st (st r' i none) j (some (.exc c))) i none) M') E r M
section
variable {X : Cx} {F0 : Fz}
theorem RepE.any {K : PySem.W.Frag} {mg : Str → Option Value} {F : Fz} {s : L2.St} {r : Env} {x : Option V} (i : Nat) (h : RepE K mg F s r) : RepE K mg F (s.set i x) (st r i none) := by
  refine ⟨by rw [List.length_set, st_len]; exact h.1, fun j e z => ?_⟩
  by_cases hj : j = i
  · subst hj
    obtain ⟨a, b⟩ := gt_st_same _ _ _ _ z
    cases a
  · rw [gt_st_ne _ _ _ _ hj] at z
    obtain ⟨w, a, b⟩ := h.2 j e z
    exact ⟨w, by rw [List.getElem?_set_ne (Ne.symm hj)]; exact a, b⟩
theorem zs_try {i j : Nat} {n y x : Str} {CL : Addr} {cs : List Str} {zb : ZW → ZS} {body : List Stmt} {np py pe pa pos pos' : Pos} (hs : X.stack = X.env :: X.outer) (hf : X.env.frame = some X.env.locals) (hex : X.ex = []) (hN : X.N.Nodup) (gL : X.mg x = some (.ref CL))
    (hcs : ∀ c ∈ cs, ∀ C, X.mg c = some (.ref C) → PySem.W.exmOne X.K (.ref C) (.ref CL) = some true)
    (hb : ∀ (F1 : Fz) (W : WX) (zE : ZW) (pn : List (Addr × Obj)) (xe : Value → Shared → Prop), Takes (X.tr pn xe) W → PassesOwn (model X.prog X.w) X.A X.env xe → Wok X.K X.mg F1 W zE → PSs (X.tr pn xe) body (upS X.K X.mg F1 (zb zE)))
    (hi : X.N[i]? = some n := by rfl) (hj : X.N[j]? = some y := by rfl) (hln : X.env.kindOf n = some .local := by rfl) (hly : X.env.scope.names.lookup y = some .local := by rfl) (hvn : Vis X.env.scope n := by first | exact Or.inl rfl | exact Or.inr (Or.inl rfl) | exact Or.inr (Or.inr rfl))
    (hg : Gl X x := by rfl) (hdb : (x == ("__debug__" : Str)) = false := by decide) (hd : (n == ("__debug__" : Str)) = false := by decide) (hcd : (n == ("__classdict__" : Str)) = false := by decide)
    (hsw : swapsWith (.Name n pe) (some (.Name y py)) pa.line X.env = pure false := by rfl) :
    PS X (.Try body [.ExceptHandler (some (.Name x np)) (some n) [.Assign [.Name y py] (.Name n pe) pa] pos'] [] [] pos) (US X F0 (zTry cs i j zb)) := by
  refine ps_imp (ps_try_keep (tb := fun W D s H => ∃ F1 zE, Wok X.K X.mg F1 W zE ∧ upS X.K X.mg F1 (zb zE) D s H) hs hf hex hN hi hln ⟨hg, hdb, .inl gL⟩ (fun W pn xe tk hp => ⟨fun pins s r H E I ⟨F1, zE, wk, q⟩ => (hb F1 W zE pn xe tk hp wk).run pins s r H E I q⟩)
    (fun a oe cls d pn hz hfl => pss_one (ps_set (X := X.suite a ((a, oe) :: pn)) (i := j) hN hj (.inl hly) (pe_var (X := X.suite a ((a, oe) :: pn)) hi hvn hd hcd) hsw (.inr hly)))) fun E s H h => ?_
  obtain ⟨F, rr, M, Z, s0, w, e, h, k⟩ := h
  refine ⟨F, _, ?_, F, rr, M, Z, Ge.refl _, w, e, h, k⟩
  rintro c fs r' M' ⟨hc, hfs, hlt, hz⟩ F2 s2 H2 cls d g w2 e2 ⟨C, gC, rfl, hx⟩
  have hd : d = none := by
    rcases hx with ⟨_, hd⟩ | ⟨_, _, z, _⟩
    · exact hd
    · exact absurd hfs z
  subst hd
  refine ⟨hcs c hc C gC, C, rfl, fun a ha => ⟨.ref a, ?_, ?_⟩⟩
  · rw [List.getElem?_set_self (by rw [e2.1]; exact hlt)]
  · have w3 : Wd X.K X.mg ⟨F2.f, F.u⟩ H2 M' := w2.less g.u
    obtain ⟨s4, w4⟩ := w3.laidF (o := ExZ C none a) ha
    have e3 : RepE X.K X.mg ⟨F2.f, F.u⟩ s2 r' := ⟨e2.1, fun i d q => let ⟨v, a, b⟩ := e2.2 i d q; ⟨v, a, b.monoF (F := F2) (F' := ⟨F2.f, F.u⟩) (Same.refl _)⟩⟩
    refine k.nx _ M' hz _ _ _ (Le.trans (⟨g.f, rfl⟩ : Le F ⟨F2.f, F.u⟩) s4) w4 ?_
    exact (((e3.mono s4).any (x := some (.ref a)) i).set j (.exc gC (show upd F2.f a (ExZ C none a) a = some (ExZ C none a) from upd_same) fun _ z => nomatch z)).unset i
/-! ### isinstance of what was caught -/
theorem call_isX : CallR X (.builtin "isinstance") (fun xs H Q => ∃ (a C : Addr) (d : Option Addr) (c : V) (cv : Value) (b : Bool), xs = [.ref a, c] ∧ H a = some (ExZ C d a) ∧ (∀ dx, d = some dx → ∃ fs, H dx = some (.xd fs)) ∧ ExcC X.K C ∧ (∀ u, RelV c u → u = cv) ∧ PySem.W.kitOne X.K (.ref C) cv = some b ∧ Q (.bl b) H) := by
  intro pins s σ H xs us Q I r h
  obtain ⟨a, C, d, c, cv, b, rfl, ha, hX, T, hcv, e, q⟩ := h
  cases r with
  | cons rx rr =>
    cases rr with
    | cons rt rr =>
      cases rr
      cases rx
      have ec := hcv _ rt
      subst ec
      obtain ⟨⟨oe, vs, hget, hz, hv⟩, _, _⟩ := I.hok a _ ha
      have J : ∃ od, PySem.W.InstAt s.heap a oe C od := by
        obtain ⟨oc, od, oda, osl⟩ := oe
        obtain ⟨h1, h2⟩ := hz
        dsimp only at h1 h2 hv
        subst h1 h2 hv
        cases od with
        | none => exact ⟨none, hget, rfl, rfl, trivial⟩
        | some dx =>
          obtain ⟨fs, hx⟩ := hX dx rfl
          have hx : ObjOk X.prog X.w H s.heap dx (.xd fs) := I.hok dx _ hx
          obtain ⟨mA, hns, _⟩ := hx
          obtain ⟨od, ho, _⟩ := lookIn_ns hns
          exact ⟨some od, hget, rfl, rfl, ho⟩
      obtain ⟨od, J⟩ := J
      have hcl : (PySem.W.clsIn X.K C).isSome = true := by
        obtain ⟨cd, hc, _⟩ := PySem.W.any_some T.hd
        rw [hc]; rfl
      exact PySem.W.kia_one (PySem.W.kitx_exc hcl T.hg T.hk T.hs T.ha T.hn T.ht T.hm) I.kIn J e (fun z => nomatch z) fun tk => ⟨.bl b, H, I.kept (t' := tk) fun _ _ z => z, rfl, q⟩
/-- by a table: the class's name, the answer -/
def dIsx (tab : List (Str × Bool)) (x : D) (M : Mh) (Q : QZ) : Prop := match x with
  | .exc c => (match tab.lookup c with | some b => Q (.bl b) M | none => False)
  | _ => False
variable {a : Expr} {fa : ZE} {p p2 pos : Pos}
theorem ze_isxO {x : Str} {cv : Addr} {tab : List (Str × Bool)} (ha : PE X a (UE X F0 fa)) (hm : X.mg "isinstance" = none) (hm2 : X.mg x = some (.ref cv)) (hk : ∀ c b, tab.lookup c = some b → ∀ C, X.mg c = some (.ref C) → ExcC X.K C ∧ PySem.W.kitOne X.K (.ref C) (.ref cv) = some b)
    (hg : Gl X "isinstance" := by rfl) (hg2 : Gl X x := by rfl) (hd2 : (x == ("__debug__" : Str)) = false := by decide)
    (he : starEach [a, .Name x p2] X.env = (false, eval a X.env) :: starEach [.Name x p2] X.env := by rfl) (he2 : starEach [.Name x p2] X.env = (false, eval (.Name x p2) X.env) :: starEach [] X.env := by rfl) (hpl : (backTo pos (starEach [.Name x p2] X.env)).any (·.1) = false := by rfl) :
    PE X (.Call (.Name "isinstance" p) [a, .Name x p2] [] pos) (UE X F0 (z1 (dIsx tab) fa)) := by
  refine pe_imp (pe_callB call_isX hg hm (by decide +kernel) (pa_cons ha (pa_cons (pe_glob (v := .ref cv) hg2 hm2 rfl hd2) pa_nil he2) he) (by decide) (by decide) he hpl) fun s H Q h => ?_
  obtain ⟨F, rr, M, R, s0, w, e, h, k⟩ := h
  refine ⟨F, rr, M, _, s0, w, e, h, fun d M1 h1 F1 H1 v s1 w1 r1 => ?_⟩
  cases d with
  | exc c =>
    have h1' : (match tab.lookup c with | some b => R (.bl b) M1 | none => False) := h1
    cases q : tab.lookup c with
    | none => rw [q] at h1'; exact h1'.elim
    | some b =>
      rw [q] at h1'
      cases r1 with
      | exc gC hF hX =>
        obtain ⟨T, kk⟩ := hk c b q _ gC
        exact ⟨_, _, _, .ref cv, .ref cv, b, rfl, w1.sub _ _ hF, (fun dx z => let ⟨fs, q⟩ := hX dx z; ⟨fs, w1.sub _ _ q⟩), T, fun u hu => hu, kk, k _ _ h1' _ _ _ s1 w1 (.bl _)⟩
  | _ => exact False.elim h1
theorem ze_isxB {x : Str} {T : String} {tab : List (Str × Bool)} (ha : PE X a (UE X F0 fa)) (hm : X.mg "isinstance" = none) (hm2 : X.mg x = none) (hv2 : bootBuiltins x = some (.type T)) (hk : ∀ c b, tab.lookup c = some b → ∀ C, X.mg c = some (.ref C) → ExcC X.K C ∧ PySem.W.kitOne X.K (.ref C) (.type T) = some b)
    (hg : Gl X "isinstance" := by rfl) (hg2 : Gl X x := by rfl) (hn2 : x ≠ "__name__" := by decide) (hd2 : (x == ("__debug__" : Str)) = false := by decide)
    (he : starEach [a, .Name x p2] X.env = (false, eval a X.env) :: starEach [.Name x p2] X.env := by rfl) (he2 : starEach [.Name x p2] X.env = (false, eval (.Name x p2) X.env) :: starEach [] X.env := by rfl) (hpl : (backTo pos (starEach [.Name x p2] X.env)).any (·.1) = false := by rfl) :
    PE X (.Call (.Name "isinstance" p) [a, .Name x p2] [] pos) (UE X F0 (z1 (dIsx tab) fa)) := by
  refine pe_imp (pe_callB call_isX hg hm (by decide +kernel) (pa_cons ha (pa_cons (pe_bltn (v := .ty T) hg2 hm2 hv2 rfl hn2 hd2) pa_nil he2) he) (by decide) (by decide) he hpl) fun s H Q h => ?_
  obtain ⟨F, rr, M, R, s0, w, e, h, k⟩ := h
  refine ⟨F, rr, M, _, s0, w, e, h, fun d M1 h1 F1 H1 v s1 w1 r1 => ?_⟩
  cases d with
  | exc c =>
    have h1' : (match tab.lookup c with | some b => R (.bl b) M1 | none => False) := h1
    cases q : tab.lookup c with
    | none => rw [q] at h1'; exact h1'.elim
    | some b =>
      rw [q] at h1'
      cases r1 with
      | exc gC hF hX =>
        obtain ⟨T', kk⟩ := hk c b q _ gC
        exact ⟨_, _, _, .ty T, .type T, b, rfl, w1.sub _ _ hF, (fun dx z => let ⟨fs, q⟩ := hX dx z; ⟨fs, w1.sub _ _ q⟩), T', fun u hu => hu, kk, k _ _ h1' _ _ _ s1 w1 (.bl _)⟩
  | _ => exact False.elim h1
/-! ### {} -/
def zDct : ZE := fun _ M Q => Q .dct M
theorem ze_dct : PE X (.Dict [] [] pos) (UE X F0 zDct) := pe_imp pe_dnewK fun s H Q h => by
  obtain ⟨F, rr, M, R, s0, w, e, h, k⟩ := h
  intro p hp
  obtain ⟨s1, w1⟩ := w.laidF (o := .dK []) hp
  exact k _ _ h _ _ _ s1 w1 (.dct upd_same)
end
/-! ### the facts of a class, as one question -/
def clB (K : PySem.W.Frag) (C : Addr) : Bool := PySem.W.plainGet K C Str.empty && (PySem.W.hasDictIn K C && (PySem.W.plainOver K C && decide (PySem.W.findIn K (.ref C) "__setattr__" = some (some (.builtin "object.__setattr__")))))
theorem clB_ok {K : PySem.W.Frag} {C : Addr} (h : clB K C = true) : Cls K C := by
  obtain ⟨h1, h⟩ := Bool.and_eq_true_iff.mp h
  obtain ⟨h2, h⟩ := Bool.and_eq_true_iff.mp h
  obtain ⟨h3, h4⟩ := Bool.and_eq_true_iff.mp h
  exact ⟨h1, h2, h3, of_decide_eq_true h4⟩
def mkB (K : PySem.W.Frag) (C f : Addr) : Bool := PySem.W.makesIn K C && (decide (PySem.W.findIn K (.ref C) "__init__" = some (some (.ref f))) && (PySem.W.isFn K (.ref f) && PySem.W.keepIn K (.ref C)))
theorem mkB_ok {K : PySem.W.Frag} {C f : Addr} (h : mkB K C f = true) : Mk K C f := by
  obtain ⟨h1, h⟩ := Bool.and_eq_true_iff.mp h
  obtain ⟨h2, h⟩ := Bool.and_eq_true_iff.mp h
  obtain ⟨h3, h4⟩ := Bool.and_eq_true_iff.mp h
  exact ⟨h1, of_decide_eq_true h2, h3, h4⟩
def naB (K : PySem.W.Frag) (C : Addr) (fs : List Str) : Bool := fs.all fun f => decide (PySem.W.findIn K (.ref C) f = some none)
theorem naB_ok {K : PySem.W.Frag} {C : Addr} {fs : List Str} {f : Str} (h : naB K C fs = true) (hf : fs.contains f = true) : NoAttr K C f := of_decide_eq_true (p := PySem.W.findIn K (.ref C) f = some none) (List.all_eq_true.mp h f (List.contains_iff_mem.mp hf))
def ecB (K : PySem.W.Frag) (C : Addr) : Bool := decide (PySem.W.findIn K (.ref C) "__getattribute__" = some (some (.builtin "BaseException.__getattribute__"))) && (decide (PySem.W.findIn K (.ref C) "__getattr__" = some none) && (decide (PySem.W.subIn K (.ref C) (.type "BaseException") = some true) && (PySem.W.hasDictIn K C &&
  (decide (PySem.W.findIn K (.ref C) "__class__" = some (some (.builtin "object.__class__"))) && (decide (PySem.W.specialIn K (.builtin "object.__class__") "__get__" = some (some (.builtin "getset_descriptor.__get__"))) && (decide (PySem.W.takesIn K (.builtin "object.__class__") = some true) && decide (PySem.W.mroIn K C (.type "object") = some true)))))))
theorem ecB_ok {K : PySem.W.Frag} {C : Addr} (h : ecB K C = true) : ExcC K C := by
  obtain ⟨h1, h⟩ := Bool.and_eq_true_iff.mp h
  obtain ⟨h2, h⟩ := Bool.and_eq_true_iff.mp h
  obtain ⟨h3, h⟩ := Bool.and_eq_true_iff.mp h
  obtain ⟨h4, h⟩ := Bool.and_eq_true_iff.mp h
  obtain ⟨h5, h⟩ := Bool.and_eq_true_iff.mp h
  obtain ⟨h6, h⟩ := Bool.and_eq_true_iff.mp h
  obtain ⟨h7, h8⟩ := Bool.and_eq_true_iff.mp h
  exact ⟨of_decide_eq_true h1, of_decide_eq_true h2, of_decide_eq_true h3, h4, of_decide_eq_true h5, of_decide_eq_true h6, of_decide_eq_true h7, of_decide_eq_true h8⟩
/-- the classes by name, as they stand -/
def kitB2 (K : PySem.W.Frag) (cv : Value) : List (Addr × Bool) → Bool
  | [] => true
  | (C, b) :: r => decide (PySem.W.kitOne K (.ref C) cv = some b) && kitB2 K cv r
theorem kitB2_ok {K : PySem.W.Frag} {cv : Value} {C : Addr} {b : Bool} : ∀ {l : List (Addr × Bool)}, kitB2 K cv l = true → (C, b) ∈ l → PySem.W.kitOne K (.ref C) cv = some b
  | (C', b') :: r, h, hm => by
    obtain ⟨h1, h2⟩ := Bool.and_eq_true_iff.mp h
    rcases List.mem_cons.mp hm with e | hm
    · cases e; exact of_decide_eq_true h1
    · exact kitB2_ok h2 hm
theorem lookup_mem {c : Str} {b : Bool} : ∀ {l : List (Str × Bool)}, l.lookup c = some b → (c, b) ∈ l
  | (k, x) :: r, h => by
    by_cases e : c = k
    · have hb : (c == k) = true := beq_iff_eq.mpr e
      simp only [List.lookup, hb] at h
      cases h; rw [e]; exact List.mem_cons_self
    · have hb : (c == k) = false := beq_eq_false_iff_ne.mpr e
      simp only [List.lookup, hb] at h
      exact List.mem_cons_of_mem _ (lookup_mem h)
/-! ### steps -/
section
variable {r : Env} {M : Mh} {Q : QZ} {a b : ZE} {t : ZA}
theorem mup_get {p q : Addr} {o o' : MO} (h : M q = none) (e : M p = some o) : mup M q o' p = some o := by rw [mup_ne (ne_of_m e h)]; exact e
theorem i_fld {c f : Str} (h : a r M fun d M1 => onIns M1 c d fun _ fs => onFd fs f fun v => Q v M1) : zFld c f a r M Q := h
theorem i_onIns {c : Str} {p : Addr} {fs : List (Str × D)} {k : Addr → List (Str × D) → Prop} (e : M p = some (.ins c fs)) (h : k p fs) : onIns M c (.ref p) k := by
  show (match M p with | some (.ins c' fs) => c' = c ∧ k p fs | _ => False); rw [e]; exact ⟨rfl, h⟩
theorem i_onFd {fs : List (Str × D)} {f : Str} {d : D} {k : D → Prop} (e : fs.lookup f = some d) (h : k d) : onFd fs f k := by
  unfold onFd; rw [e]; exact h
theorem i_setA {c f : Str} {E : ZEnds} (h : b r M fun y M1 => a r M1 fun d M2 => onIns M2 c d fun p fs => fs.length < 1000 ∧ E.nx r (mup M2 p (.ins c (putD f y fs)))) : zSetA c f a b E r M := h
theorem i_f1000 {fs : List (Str × D)} {P : Prop} (h : fs.length < 1000) (q : P) : fs.length < 1000 ∧ P := ⟨h, q⟩
theorem i_lkN {fs : List (Str × D)} {m : Str} {P : Prop} (h : fs.lookup m = none) (q : P) : fs.lookup m = none ∧ P := ⟨h, q⟩
theorem i_meth {c m : Str} {zs : ZSp} {zE : ZW} (h : a r M fun d M1 => onIns M1 c d fun p fs => fs.lookup m = none ∧ t r M1 fun ds M2 => zs (.ref p :: ds) M2 Q fun c fs M' => zE c fs r M') : zMeth c m zs zE a t r M Q := h
theorem i_make {c : Str} {zs : ZSp} {zE : ZW} (h : t r M fun ds M1 => ∀ p, M1 p = none → zs (.ref p :: ds) (mup M1 p (.ins c [])) (fun d M2 => d = .non ∧ Q (.ref p) M2) fun c fs M' => zE c fs r M') : zMake c zs zE t r M Q := h
theorem i_try {cs : List Str} {i j : Nat} {zb : ZW → ZS} {E : ZEnds} (h : zb (fun c fs r' M' => c ∈ cs ∧ fs = [] ∧ i < r'.length ∧ E.nx (st (st (st r' i none) j (some (.exc c))) i none) M') E r M) : zTry cs i j zb E r M := h
theorem i_isx {tab : List (Str × Bool)} {c : Str} {v : Bool} (e : tab.lookup c = some v) (q : Q (.bl v) M) : dIsx tab (.exc c) M Q := by
  show (match tab.lookup c with | some b => Q (.bl b) M | none => False); rw [e]; exact q
theorem i_tryx {cs : List Str} {i : Nat} {c : Str} {P : Prop} (h1 : decide (c ∈ cs) = true) (h2 : decide (i < r.length) = true) (q : P) : c ∈ cs ∧ ([] : List (Str × D)) = [] ∧ i < r.length ∧ P := ⟨of_decide_eq_true h1, rfl, of_decide_eq_true h2, q⟩
theorem i_dct (q : Q .dct M) : zDct r M Q := q
end
end Zl

/-! Zl11: x in a tuple of tuples; xs[::-1]; defs with defaults -/
namespace Zl
open PySem L2
theorem units65 {k : Nat} {A : Around} (r : Room k A) : A.units + 65 < cLine := by have := r.un; omega
def rInDT (K : PySem.W.Frag) : R2 := fun x y H Q => ∃ d ds, Dp K H x d ∧ Dp K H y (.tuple ds) ∧ SeqAt.shaped d = true ∧ SeqAt.shaped (.tuple ds) = true ∧ Q (.bl (ds.any fun z => PyData.eqv z d)) H
theorem op_inT {X : Cx} (hu : X.A.units + 65 < cLine) : OpR X (compareOp .In) (rInDT X.K) := by
  intro pins s σ H x y v u Q I rx ry h
  obtain ⟨d, ds, hd, he, sd, se, q⟩ := h
  obtain ⟨as, r1⟩ := Dp.reads I d x v hd rx
  obtain ⟨bs, r2⟩ := Dp.reads I (.tuple ds) y u he ry
  exact SeqAt.in_tuple_reads r2 r1 (SeqAt.canLay_of_shaped se) (SeqAt.canLay_of_shaped sd) (PyProof.Rows.room_in_shaped sd hu) ⟨.bl _, H, I, rfl, q⟩
/-- x in y, data in a tuple of data -/
def dInT (x y : D) (M : Mh) (Q : QZ) : Prop := match y with
  | .tup ys => plain x = true ∧ plains ys = true ∧ dep x ≤ 64 ∧ dep (.tup ys) ≤ 64 ∧ Q (.bl (ys.any fun z => eqD z x)) M
  | _ => False
theorem any_toP (x : D) : ∀ ys : List D, ((toPs ys).any fun z => PyData.eqv z (toP x)) = ys.any fun z => eqD z x
  | [] => rfl
  | y :: r => by
    show (PyData.eqv (toP y) (toP x) || (toPs r).any _) = _
    rw [any_toP x r]; rfl
theorem snd_inT {K : PySem.W.Frag} {mg : Str → Option Value} : Snd2 K mg (rInDT K) dInT := by
  intro F H M x y p q Q R w rx ry h k
  cases q with
  | tup ys =>
    obtain ⟨h1, h2, h3, h4, h5⟩ := (show plain p = true ∧ plains ys = true ∧ dep p ≤ 64 ∧ dep (.tup ys) ≤ 64 ∧ R (.bl (ys.any fun z => eqD z p)) M from h)
    refine ⟨toP p, toPs ys, rx.dp w.same h1, ry.dp w.same (d := .tup ys) h2, ?_, ?_, ?_⟩
    · show ((toP p).canLay0 && decide ((toP p).depth ≤ 64)) = true
      rw [rx.lay, decide_eq_true (show (toP p).depth ≤ 64 from h3)]; rfl
    · show ((toP (.tup ys)).canLay0 && decide ((toP (.tup ys)).depth ≤ 64)) = true
      rw [ry.lay, decide_eq_true (show (toP (.tup ys)).depth ≤ 64 from h4)]; rfl
    · rw [any_toP]
      exact k _ _ h5 _ _ _ (Le.refl F) w (.bl _)
  | _ => exact False.elim h
/-! ### xs[::-1] -/
def zRev (b : Bool) (a : ZE) : ZE := fun r M Q => a r M fun x M1 => zL M1 x fun ds => zNew b ds.reverse M1 Q
theorem ze_rev {X : Cx} {F0 : Fz} (b : Bool) {e : Expr} {fa : ZE} {k : Nat} {p1 p2 p3 pos : Pos} (he : PE X e (UE X F0 fa)) : PE X (.Subscript e (.Slice none none (some (.UnaryOp .USub (.Constant (.int 1) k p1) p2)) p3) pos) (UE X F0 (zRev b fa)) :=
  pe_imp (pe_revL he) fun s H Q h => by
  obtain ⟨F, rr, M, R, s0, w, e, h, k⟩ := h
  refine ⟨F, rr, M, _, s0, w, e, h, fun x M1 h1 F1 H1 v s1 w1 r1 => ?_⟩
  obtain ⟨p, vs, ds, rfl, e1, l, rl, h2⟩ := zL_out w1 r1 h1
  exact ⟨p, vs, rfl, SqL.of e1, zNew_out w1 (by rw [List.length_reverse]; exact l) rl.reverse h2 (k.mono s1)⟩
/-! ### defs with defaults -/
section
variable {P : Program} {w : World} {K : PySem.W.Frag} {mg : Str → Option Value} {base : Heap}
theorem z_okD (g : Bool) {x qual : Str} {st1 : Stmt} {dvs : List V} {f : Addr} {fd : FuncData} {N ps : List Str} {k n : Nat} {zs : ZSp} {zb : ZW → ZS} (FF : FunD K x qual (defArgs st1) (defBody st1) (defScope st1) dvs [] f fd) (S : FnScope N ps (defScope st1)) (hn : N.length - ps.length = n)
    (hz : ∀ ds M R RE, zs ds M R RE → ds.length = ps.length ∧ zFn g zb (ds.map some ++ List.replicate n none) M R RE)
    (hbody : ∀ (cdv : Value) (A : Around) (outer : List PySem.Env) (s : Shared) (H : Hp) (E : XK) (F0 : Fz) (zE : ZW), Room k (A.deeper (PyProof.Rows.envOfC qual (defScope st1) s.heap.objs.size f cdv)) → Wok K mg F0 (fun cls d _ H => E cls d H) zE →
      PSs (cxOf (L2.CX P w) P w K mg base N qual (defScope st1) f cdv A outer s H E) (defBody st1) (upS K mg F0 (zb zE))) : FnOk P w K mg base (L2.CX P w) (k + 1) f fd ps (liftSp K mg zs) := by
  refine FunD.ok FF S (fun vs H Q E h => ?_) fun cdv A outer s H vs Q E hr h => ?_
  · obtain ⟨F, M, ds, R, RE, w, rl, h, _⟩ := h
    rw [rl.length]; exact (hz ds M R RE h).1
  · obtain ⟨F, M, ds, R, RE, w, rl, h, kq, kx⟩ := h
    obtain ⟨hl, hb⟩ := hz ds M R RE h
    have wk : Wok K mg F (fun cls d _ H => E cls d H) (exB g RE) := by
      cases g with
      | true => exact wok_def kx
      | false => exact wok_def0 kx
    refine ⟨_, hbody cdv A outer s H E F _ hr wk, F, _, M, enB g R, Ge.refl _, w, ?_, hb, ?_⟩
    · have q := repE_start (K := K) (mg := mg) n rl
      have e : L2.start N vs = vs.map some ++ List.replicate n none := by
        show vs.map some ++ List.replicate (N.length - vs.length) none = _
        rw [rl.length, hl, hn]
      rw [e]; exact q
    · cases g with
      | true =>
        refine ⟨fun r M' ⟨M2, l, h⟩ F' s' H' s1 w1 e1 => kq _ _ h F' H' _ s1 (w1.drop l) .non, fun d M' ⟨d', M2, g, h⟩ F' H' v s1 w1 r1 => ?_, fun _ _ h => h.elim, fun _ _ h => h.elim⟩
        obtain ⟨F2, s2, w2, r2⟩ := g.sound w1 r1
        exact kq _ _ h F2 H' v (s1.trans s2) w2 r2
      | false => exact ⟨fun r M' h F' s' H' s1 w1 e1 => kq _ _ h F' H' _ s1 w1 .non, kq, fun _ _ h => h.elim, fun _ _ h => h.elim⟩
/-- the def's facts, from the written part -/
theorem funD_mk {x qual : Str} {st1 : Stmt} {f : Addr} {oc : Value} {od an : Option Addr} {osl : Array (Option Value)} {T : Addr} {ci : List Value} {cn : Nat} {cs : Array (Option Value)} {kV doc pm cdv ct : Value} {dvs : List V} (l : K.lookup f = some ⟨oc, od, .func (PySem.W.fnOf x qual (defArgs st1) (defBody st1) (defScope st1) (.ref T) kV doc pm an cdv ct), osl⟩)
    (c : PySem.W.codeIn K cdv qual = true) (k : PySem.W.keepIn K (.ref f) = true) (lT : K.lookup T = some ⟨.type "tuple", none, .seq ci.toArray cn, cs⟩) (hv : ci.map absV = dvs.map some) (hd : dvs ≠ []) : FunD K x qual (defArgs st1) (defBody st1) (defScope st1) dvs [] f (PySem.W.fnOf x qual (defArgs st1) (defBody st1) (defScope st1) (.ref T) kV doc pm an cdv ct) :=
  ⟨⟨oc, od, .ref T, kV, doc, pm, an, cdv, ct, osl, rfl, l, c, .inr ⟨hd, T, _, ci, cn, rfl, lT, rfl, vals_of_abs hv⟩, .inl rfl⟩, k⟩
end
section
variable {r : Env} {M : Mh} {Q : QZ} {a : ZE}
theorem i_rev {b : Bool} (h : a r M fun x M1 => zL M1 x fun ds => zNew b ds.reverse M1 Q) : zRev b a r M Q := h
theorem i_zLl {ds : List D} {k : List D → Prop} (h : k ds) : zL M (.lst ds) k := h
end
end Zl

/-! Zi: how readings are answered, step by step, outermost first -/
namespace Zl
open PySem L2
section
variable {r : Env} {M M1 : Mh} {Q : QZ} {QB : Bool → Mh → Prop} {QA : List D → Mh → Prop} {d x y : D} {ds xs ys : List D} {i j k : Int} {a b c : ZE} {t u : ZT} {f g : D → D → Mh → QZ → Prop}
theorem i_var {n : Nat} (h : gt r n = some d) (q : Q d M) : zVar n r M Q := by
  unfold zVar; rw [h]; exact q
theorem i_c (q : Q d M) : zC d r M Q := q
theorem i_2 (h : a r M fun x M1 => b r M1 fun y M2 => f x y M2 Q) : z2 f a b r M Q := h
theorem i_1 {f : D → Mh → QZ → Prop} (h : a r M fun x M1 => f x M1 Q) : z1 f a r M Q := h
theorem i_newF (q : Q (.lst ds) M) : zNew false ds M Q := q
theorem i_newT (q : ∀ p, M p = none → Q (.ref p) (mup M p (.lst ds))) : zNew true ds M Q := q
theorem i_addI {n : Bool} (q : Q (.int (i + j)) M) : dAdd n (.int i) (.int j) M Q := q
theorem i_addS {n : Bool} {s t : Str} (h : s.length + t.length ≤ sizeLine) (q : Q (.str (s ++ t)) M) : dAdd n (.str s) (.str t) M Q := ⟨h, q⟩
theorem i_addL {n : Bool} (h : xs.length + ys.length ≤ sizeLine) (q : zNew n (xs ++ ys) M Q) : dAdd n (.lst xs) (.lst ys) M Q := ⟨h, q⟩
theorem i_addLR {n : Bool} {p : Addr} (e : M p = some (.lst ys)) (h : xs.length + ys.length ≤ sizeLine) (q : zNew n (xs ++ ys) M Q) : dAdd n (.lst xs) (.ref p) M Q := by
  show zL M (.ref p) _; rw [zL_ref e]; exact ⟨h, q⟩
theorem i_addRL {n : Bool} {p : Addr} (e : M p = some (.lst xs)) (h : xs.length + ys.length ≤ sizeLine) (q : zNew n (xs ++ ys) M Q) : dAdd n (.ref p) (.lst ys) M Q := by
  show zL M (.ref p) _; rw [zL_ref e]; exact ⟨h, q⟩
theorem i_addRR {n : Bool} {p p' : Addr} (e : M p = some (.lst xs)) (e' : M p' = some (.lst ys)) (h : xs.length + ys.length ≤ sizeLine) (q : zNew n (xs ++ ys) M Q) : dAdd n (.ref p) (.ref p') M Q := by
  show zL M (.ref p) _; rw [zL_ref e, zL_ref e']; exact ⟨h, q⟩
theorem i_sub (q : Q (.int (i - j)) M) : dSub (.int i) (.int j) M Q := q
theorem i_mulI {n : Bool} (h : CMul i j) (q : Q (.int (i * j)) M) : dMul n (.int i) (.int j) M Q := ⟨h, q⟩
theorem i_mulL {n : Bool} (h1 : -(2 ^ 63) ≤ k) (h2 : k < 2 ^ 63) (h : xs.length * k.toNat ≤ sizeLine) (q : zNew n (List.replicate k.toNat xs).flatten M Q) : dMul n (.lst xs) (.int k) M Q := ⟨h1, h2, h, q⟩
theorem i_div (h : CDiv i j) (q : Q (.int (i / j)) M) : dDiv (.int i) (.int j) M Q := ⟨h, q⟩
theorem i_mod (h : 0 < j) (q : Q (.int (i % j)) M) : dMod (.int i) (.int j) M Q := ⟨h, q⟩
theorem i_pow (h : CPow i j) (q : Q (.int (i ^ j.toNat)) M) : dPow (.int i) (.int j) M Q := ⟨h, q⟩
theorem i_shr (h : 0 ≤ j) (q : Q (.int (i / 2 ^ j.toNat)) M) : dShr (.int i) (.int j) M Q := ⟨h, q⟩
theorem i_band (q : Q (.int (Builtin.bitAnd i j)) M) : dAnd (.int i) (.int j) M Q := q
theorem i_bxor (q : Q (.int (Builtin.bitXor i j)) M) : dXor (.int i) (.int j) M Q := q
theorem i_neg (q : Q (.int (-i)) M) : dNeg (.int i) M Q := q
theorem i_lt (q : Q (.bl (decide (i < j))) M) : dCmp pLt (.int i) (.int j) M Q := q
theorem i_le (q : Q (.bl (decide (i ≤ j))) M) : dCmp pLe (.int i) (.int j) M Q := q
theorem i_gt (q : Q (.bl (decide (j < i))) M) : dCmp pGt (.int i) (.int j) M Q := q
theorem i_ge (q : Q (.bl (decide (j ≤ i))) M) : dCmp pGe (.int i) (.int j) M Q := q
/-! equality -/
def nref : D → Bool
  | .ref _ => false
  | _ => true
/-- plain, and not deeper than n -/
structure Pl (n : Nat) (x : D) : Prop where
  p : Zl.plain x = true
  d : dep x ≤ n
theorem Pl.nref {n : Nat} (h : Pl n x) : Zl.nref x = true := by
  cases x <;> first | rfl | exact absurd h.p (by simp [Zl.plain])
theorem Pl.mono {n m : Nat} (h : Pl n x) (l : n ≤ m) : Pl m x := ⟨h.p, Nat.le_trans h.d l⟩
theorem Pl.int (n : Nat) (i : Int) : Pl n (.int i) := ⟨rfl, Nat.zero_le _⟩
theorem Pl.bl (n : Nat) (b : Bool) : Pl n (.bl b) := ⟨rfl, Nat.zero_le _⟩
theorem Pl.str (n : Nat) (s : Str) : Pl n (.str s) := ⟨rfl, Nat.zero_le _⟩
theorem Pl.non (n : Nat) : Pl n .non := ⟨rfl, Nat.zero_le _⟩
theorem plains_all : ∀ {ds : List D}, (∀ x ∈ ds, Zl.plain x = true) → plains ds = true
  | [], _ => rfl
  | d :: r, h => by
    show (Zl.plain d && plains r) = true
    rw [h d List.mem_cons_self, plains_all fun x hx => h x (List.mem_cons_of_mem _ hx)]; rfl
theorem deps_all {n : Nat} : ∀ {ds : List D}, (∀ x ∈ ds, dep x ≤ n) → PyData.depthAll (toPs ds) ≤ n
  | [], _ => Nat.zero_le _
  | d :: r, h => by
    show max (toP d).depth (PyData.depthAll (toPs r)) ≤ n
    exact Nat.max_le.mpr ⟨h d List.mem_cons_self, deps_all fun x hx => h x (List.mem_cons_of_mem _ hx)⟩
theorem Pl.lst {n : Nat} (h : ∀ x ∈ ds, Pl n x) : Pl (n + 1) (.lst ds) := ⟨plains_all fun x hx => (h x hx).p, Nat.succ_le_succ (deps_all fun x hx => (h x hx).d)⟩
theorem Pl.tup {n : Nat} (h : ∀ x ∈ ds, Pl n x) : Pl (n + 1) (.tup ds) := ⟨plains_all fun x hx => (h x hx).p, Nat.succ_le_succ (deps_all fun x hx => (h x hx).d)⟩
theorem Pl.flat {n : Nat} (h : flatD x = true) : Pl n x := by
  cases x with
  | non => exact .non n
  | bl b => exact .bl n b
  | int i => exact .int n i
  | str s => exact .str n s
  | _ => cases h
theorem Pl.lflat {n : Nat} (h : ds.all flatD = true) : Pl (n + 1) (.lst ds) := .lst fun x hx => .flat (List.all_eq_true.mp h x hx)
theorem Pl.tflat {n : Nat} (h : ds.all flatD = true) : Pl (n + 1) (.tup ds) := .tup fun x hx => .flat (List.all_eq_true.mp h x hx)
theorem Pl.ints {n : Nat} (ns : List Int) : Pl (n + 1) (.lst (ns.map D.int)) := .lst fun x hx => by
  obtain ⟨i, _, e⟩ := List.mem_map.mp hx
  subst e; exact .int n i
theorem Pl.two {n : Nat} (h : Pl n x) (h' : Pl n y) : Pl (n + 1) (.tup [x, y]) := .tup fun z hz => by
  rcases List.mem_cons.mp hz with e | hz
  · subst e; exact h
  · rcases List.mem_cons.mp hz with e | hz
    · subst e; exact h'
    · cases hz
theorem i_eqG {x' y' : D} (rx : Rs M x x') (ry : Rs M y y') (hx : Pl 64 x') (hy : Pl 64 y') (q : Q (.bl (eqD x' y')) M) : dEq x y M Q := ⟨x', rx, y', ry, hx.p, hy.p, .inl hx.d, q⟩
theorem i_neG {x' y' : D} (rx : Rs M x x') (ry : Rs M y y') (hx : Pl 64 x') (hy : Pl 64 y') (q : Q (.bl (!eqD x' y')) M) : dNe x y M Q := ⟨x', rx, y', ry, hx.p, hy.p, .inl hx.d, q⟩
theorem Rs.at {p : Addr} (e : M p = some (.lst xs)) : Rs M (.ref p) (.lst xs) := .ref e (.refl M xs)
theorem i_eq (hx : Pl 64 x) (hy : Pl 64 y) (q : Q (.bl (eqD x y)) M) : dEq x y M Q := i_eqG (.refl _) (.refl _) hx hy q
theorem i_ne (hx : Pl 64 x) (hy : Pl 64 y) (q : Q (.bl (!eqD x y)) M) : dNe x y M Q := i_neG (.refl _) (.refl _) hx hy q
theorem i_eqR {p : Addr} (e : M p = some (.lst xs)) (hx : Pl 64 (.lst xs)) (hy : Pl 64 y) (q : Q (.bl (eqD (.lst xs) y)) M) : dEq (.ref p) y M Q := i_eqG (.at e) (.refl _) hx hy q
theorem i_neR {p : Addr} (e : M p = some (.lst xs)) (hx : Pl 64 (.lst xs)) (hy : Pl 64 y) (q : Q (.bl (!eqD (.lst xs) y)) M) : dNe (.ref p) y M Q := i_neG (.at e) (.refl _) hx hy q
theorem i_eqLR {p : Addr} (e : M p = some (.lst ys)) (hx : Pl 64 x) (hy : Pl 64 (.lst ys)) (q : Q (.bl (eqD x (.lst ys))) M) : dEq x (.ref p) M Q := i_eqG (.refl _) (.at e) hx hy q
theorem i_neLR {p : Addr} (e : M p = some (.lst ys)) (hx : Pl 64 x) (hy : Pl 64 (.lst ys)) (q : Q (.bl (!eqD x (.lst ys))) M) : dNe x (.ref p) M Q := i_neG (.refl _) (.at e) hx hy q
@[simp] theorem eqD_int (i j : Int) : eqD (.int i) (.int j) = (i == j) := rfl
@[simp] theorem eqD_str (s t : Str) : eqD (.str s) (.str t) = (s == t) := rfl
@[simp] theorem eqD_bl (s t : Bool) : eqD (.bl s) (.bl t) = (s == t) := rfl
@[simp] theorem eqD_lst (s t : List D) : eqD (.lst s) (.lst t) = eqDs s t := rfl
@[simp] theorem eqD_tup (s t : List D) : eqD (.tup s) (.tup t) = eqDs s t := rfl
@[simp] theorem eqD_is (i : Int) (s : Str) : eqD (.int i) (.str s) = false := rfl
@[simp] theorem eqD_si (i : Int) (s : Str) : eqD (.str s) (.int i) = false := rfl
@[simp] theorem eqDs_nil : eqDs [] [] = true := rfl
@[simp] theorem eqDs_cons (x y : D) (s t : List D) : eqDs (x :: s) (y :: t) = (eqD x y && eqDs s t) := rfl
@[simp] theorem eqDs_nc (y : D) (t : List D) : eqDs [] (y :: t) = false := rfl
@[simp] theorem eqDs_cn (x : D) (s : List D) : eqDs (x :: s) [] = false := rfl
/-! in, is -/
theorem i_inL {n : Bool} (h1 : flatD x = true) (h2 : ys.all flatD = true) (q : Q (.bl (if n then !inD x ys else inD x ys)) M) : dIn n x (.lst ys) M Q := ⟨h1, h2, q⟩
theorem i_inT {n : Bool} (h1 : flatD x = true) (h2 : ys.all flatD = true) (q : Q (.bl (if n then !inD x ys else inD x ys)) M) : dIn n x (.tup ys) M Q := ⟨h1, h2, q⟩
theorem i_isN (q : Q (.bl (isN x)) M) : dIs x .non M Q := q
theorem i_isNotN (q : Q (.bl (!isN x)) M) : dIsNot x .non M Q := q
theorem i_isB {s t : Bool} (q : Q (.bl (decide (s = t))) M) : dIs (.bl s) (.bl t) M Q := q
theorem i_isNotB {s t : Bool} (q : Q (.bl (!decide (s = t))) M) : dIsNot (.bl s) (.bl t) M Q := q
/-! subscripts -/
theorem i_ixL (h : atI ds i = some d) (q : Q d M) : dIx (.lst ds) (.int i) M Q := by
  show (match atI ds i with | some d => Q d M | none => False); rw [h]; exact q
theorem i_ixT (h : atI ds i = some d) (q : Q d M) : dIx (.tup ds) (.int i) M Q := by
  show (match atI ds i with | some d => Q d M | none => False); rw [h]; exact q
theorem i_ixR {p : Addr} (e : M p = some (.lst ds)) (h : atI ds i = some d) (q : Q d M) : dIx (.ref p) (.int i) M Q := by
  show zLT M (.ref p) _; rw [zLT_ref e, h]; exact q
theorem i_ixS {s : Str} {ch : Nat} (h : atI s.cps.toList i = some ch) (q : Q (.str ⟨#[ch]⟩) M) : dIx (.str s) (.int i) M Q := by
  show (match atI s.cps.toList i with | some c => Q (.str ⟨#[c]⟩) M | none => False); rw [h]; exact q
/-- slices, by the values of their parts -/
def dSl (n : Bool) (x : D) (l h : Option Int) (M : Mh) (Q : QZ) : Prop := match x with
  | .str s => Q (.str (cutS s l h)) M
  | x => zL M x fun ds => zNew n (cutD ds l h) M Q
theorem i_sl {n : Bool} {lo hi : ZO} (h : a r M fun x M1 => lo r M1 fun l M2 => hi r M2 fun h M3 => dSl n x l h M3 Q) : zSl n a lo hi r M Q := h
theorem i_part {Q : Option Int → Mh → Prop} (h : a r M fun d M1 => onInt d fun i => Q (some i) M1) : zPart a r M Q := h
theorem i_nopart {Q : Option Int → Mh → Prop} (q : Q none M) : zNoPart r M Q := q
theorem i_onInt {k : Int → Prop} (h : k i) : onInt (.int i) k := h
theorem i_slL {n : Bool} {l h : Option Int} (q : zNew n (cutD ds l h) M Q) : dSl n (.lst ds) l h M Q := q
theorem i_slR {n : Bool} {l h : Option Int} {p : Addr} (e : M p = some (.lst ds)) (q : zNew n (cutD ds l h) M Q) : dSl n (.ref p) l h M Q := by
  show zL M (.ref p) _; rw [zL_ref e]; exact q
theorem i_slS {n : Bool} {l h : Option Int} {s : Str} (q : Q (.str (cutS s l h)) M) : dSl n (.str s) l h M Q := q
/-! truth -/
theorem i_B (h : a r M fun d M1 => onBl d fun b => QB b M1) : zB a r M QB := h
theorem i_onBl {k : Bool → Prop} {b : Bool} (h : k b) : onBl (.bl b) k := h
theorem i_and (h : t r M fun b M1 => bsel b (u r M1 QB) (QB false M1)) : zAnd t u r M QB := h
theorem i_or (h : t r M fun b M1 => bsel b (QB true M1) (u r M1 QB)) : zOr t u r M QB := h
theorem i_not (h : t r M fun b M1 => QB (!b) M1) : zNot t r M QB := h
theorem i_andV (h : a r M fun d M1 => onBl d fun c => bsel c (b r M1 Q) (Q (.bl false) M1)) : zAndV a b r M Q := h
theorem i_orV (h : a r M fun d M1 => onBl d fun c => bsel c (Q (.bl true) M1) (b r M1 Q)) : zOrV a b r M Q := h
theorem i_notV (h : a r M fun d M1 => onBl d fun b => Q (.bl (!b)) M1) : zNotV a r M Q := h
theorem i_ifE (h : t r M fun c M1 => bsel c (a r M1 Q) (b r M1 Q)) : zIfE t a b r M Q := h
theorem i_chain (h : a r M fun x M1 => b r M1 fun y M2 => f x y M2 fun z M3 => onBl z fun k => bsel k (c r M3 fun u M4 => g y u M4 Q) (Q (.bl false) M3)) : zChain f g a b c r M Q := h
theorem i_bT {A B : Prop} (h : A) : bsel true A B := h
theorem i_bF {A B : Prop} (h : B) : bsel false A B := h
theorem i_b {A B : Prop} {b : Bool} (h1 : b = true → A) (h2 : b = false → B) : bsel b A B := by cases b with | true => exact h1 rfl | false => exact h2 rfl
theorem i_bd {A B C : Prop} [Decidable C] (h1 : C → A) (h2 : ¬ C → B) : bsel (decide C) A B := i_b (fun e => h1 (of_decide_eq_true e)) fun e => h2 (of_decide_eq_false e)
theorem i_bdT {A B C : Prop} [Decidable C] (c : C) (h : A) : bsel (decide C) A B := by rw [decide_eq_true c]; exact h
theorem i_bdF {A B C : Prop} [Decidable C] (c : ¬ C) (h : B) : bsel (decide C) A B := by rw [decide_eq_false c]; exact h
theorem i_bnT {A B : Prop} {b : Bool} (e : b = true) (h : B) : bsel (!b) A B := by rw [e]; exact h
theorem i_bnF {A B : Prop} {b : Bool} (e : b = false) (h : A) : bsel (!b) A B := by rw [e]; exact h
theorem i_beT {A B : Prop} {b : Bool} (e : b = true) (h : A) : bsel b A B := by rw [e]; exact h
theorem i_beF {A B : Prop} {b : Bool} (e : b = false) (h : B) : bsel b A B := by rw [e]; exact h
/-! arguments, displays, calls -/
theorem i_nil (q : QA [] M) : zNil r M QA := q
theorem i_cons {t : ZA} (h : a r M fun x M1 => t r M1 fun xs M2 => QA (x :: xs) M2) : zCons a t r M QA := h
theorem i_tup {t : ZA} (h : t r M fun ds M1 => ds.length ≤ sizeLine ∧ Q (.tup ds) M1) : zTup t r M Q := h
theorem i_lst {n : Bool} {t : ZA} (h : t r M fun ds M1 => ds.length ≤ sizeLine ∧ zNew n ds M1 Q) : zLst n t r M Q := h
theorem i_call {zs : ZSp} {zE : ZW} {t : ZA} (h : t r M fun ds M1 => zs ds M1 Q fun c fs M' => zE c fs r M') : zCall zs zE t r M Q := h
theorem i_cb {f : List D → Mh → QZ → Prop} {t : ZA} (h : t r M fun ds M1 => f ds M1 Q) : zCB f t r M Q := h
theorem i_lenL (q : Q (.int ds.length) M) : dLen [.lst ds] M Q := q
theorem i_lenT (q : Q (.int ds.length) M) : dLen [.tup ds] M Q := q
theorem i_lenS {s : Str} (q : Q (.int s.length) M) : dLen [.str s] M Q := q
theorem i_lenR {p : Addr} (e : M p = some (.lst ds)) (q : Q (.int ds.length) M) : dLen [.ref p] M Q := by
  show zLT M (.ref p) _; rw [zLT_ref e]; exact q
theorem i_isi {T t : String} (h : tyD M x = some t) (q : Q (.bl (isiB t T)) M) : dIsi T x M Q := by
  unfold dIsi; rw [h]; exact q
theorem i_sumL {ns : List Int} (q : Q (.int ns.sum) M) : dSum [.lst (ns.map D.int)] M Q := ⟨ns, rfl, q⟩
theorem i_sumE {ns : List Int} (h : ds = ns.map D.int) (q : Q (.int ns.sum) M) : dSum [.lst ds] M Q := ⟨ns, h, q⟩
theorem i_allE {bs : List Bool} (h : ds = bs.map D.bl) (q : Q (.bl (bs.all id)) M) : dAll [.lst ds] M Q := ⟨bs, h, q⟩
theorem i_max2 (q : Q (.int (if j > i then j else i)) M) : dMaxL [.int i, .int j] M Q := q
theorem i_min2 (q : Q (.int (if j < i then j else i)) M) : dMinL [.int i, .int j] M Q := q
theorem i_listL {n : Bool} (q : zNew n ds M Q) : dList n [.lst ds] M Q := q
theorem i_listT {n : Bool} (q : zNew n ds M Q) : dList n [.tup ds] M Q := q
theorem i_listR {n : Bool} {p : Addr} (e : M p = some (.lst ds)) (q : zNew n ds M Q) : dList n [.ref p] M Q := by
  show zLT M (.ref p) _; rw [zLT_ref e]; exact q
theorem i_tuple (q : Q (.tup ds) M) : dTuple [.lst ds] M Q := q
theorem i_divmod (h : CDiv i j) (q : Q (.tup [.int (i / j), .int (i % j)]) M) : dDivmod [.int i, .int j] M Q := ⟨h, q⟩
theorem i_abs (q : Q (.int (if i < 0 then -i else i)) M) : dAbs [.int i] M Q := q
theorem i_m {T : String} {f : D → List D → Mh → QZ → Prop} {t : ZA} (h : a r M fun x M1 => tyD M1 x = some T ∧ t r M1 fun ds M2 => f x ds M2 Q) : zM T f a t r M Q := h
theorem i_app {p : Addr} (e : M p = some (.lst ds)) (h : ds.length < sizeLine) (q : Q .non (mup M p (.lst (ds ++ [d])))) : dApp (.ref p) [d] M Q := by
  have z : dApp (.ref p) [d] M Q = zR M (.ref p) (fun p l => l.length < sizeLine ∧ Q .non (mup M p (.lst (l ++ [d])))) := rfl
  rw [z, zR_ref e]; exact ⟨h, q⟩
theorem i_ext {p : Addr} (e : M p = some (.lst ds)) (h : ds.length + ys.length ≤ sizeLine) (q : Q .non (mup M p (.lst (ds ++ ys)))) : dExt (.ref p) [.lst ys] M Q := by
  have z : dExt (.ref p) [.lst ys] M Q = zR M (.ref p) (fun p l => zL M (.lst ys) fun m => l.length + m.length ≤ sizeLine ∧ Q .non (mup M p (.lst (l ++ m)))) := rfl
  rw [z, zR_ref e]; exact ⟨h, q⟩
theorem tyD_ref {p : Addr} (e : M p = some (.lst ds)) : tyD M (.ref p) = some "list" := by
  show (match M p with | some (.lst _) => some "list" | _ => none) = _; rw [e]
theorem i_tix {t : ZA} (h : t r M fun es M1 => match es with
  | [y] => flatD y = true ∧ (match idxD y ds with | some j => Q (.int (j : Nat)) M1 | none => False)
  | _ => False) : zTIx ds t r M Q := h
end
section
variable {E : ZEnds} {r : Env} {M : Mh} {t u : ZS} {a : ZE} {c : ZT} {g : ZG} {d : D} {Q : Env → Mh → Prop}
theorem i_seq (h : t { nx := u E, rt := E.rt, bk := E.bk, ct := E.ct } r M) : zSeq t u E r M := h
theorem i_asg (h : a r M fun d M1 => g d r M1 E.nx) : zAsg a g E r M := h
theorem i_name {i : Nat} (h : Q (st r i (some d)) M) : zgName i d r M Q := h
theorem i_gtup {n : Nat} {gs : ZGs} {ds : List D} (e : ds.length = n) (h : gs ds r M Q) : zgTup n gs (.tup ds) r M Q := ⟨e, h⟩
theorem i_gcons {gs : ZGs} {ds : List D} (h : g d r M fun r' M' => gs ds r' M' Q) : zgCons g gs (d :: ds) r M Q := h
theorem i_gnil (h : Q r M) : zgNil [] r M Q := h
theorem i_if (h : c r M fun b M1 => bsel b (t E r M1) (u E r M1)) : zIf c t u E r M := h
theorem i_ret (h : a r M E.rt) : zRet a E r M := h
theorem i_retN (h : E.rt .non M) : zRetN E r M := h
theorem i_drop (h : a r M fun _ M1 => E.nx r M1) : zDrop a E r M := h
theorem i_next (h : E.nx r M) : zNext E r M := h
theorem i_brk (h : E.bk r M) : zBreak E r M := h
theorem i_for {zi : ZI} {tb : ZS} (h : zi r M fun ds c M1 => zLoop c (zStep g tb E) E.nx ds r M1) : zFor zi g tb E r M := h
theorem i_while {tb : ZS} (n : Nat) (h : zWhileN c tb E n r M) : zWhile c tb E r M := ⟨n, h⟩
theorem i_raise {zE : ZW} {x : Str} (h : zE x [] r M) : zRaise zE x E r M := h
theorem i_gsub {o i : ZE} (h : o r M fun x M1 => i r M1 fun y M2 => dSet x y d M2 fun M3 => Q r M3) : zgSub o i d r M Q := h
theorem i_set {p : Addr} {n : Int} {j : Nat} {ds : List D} {k : Mh → Prop} (e : M p = some (.lst ds)) (h : ixN ds.length n = some j) (q : k (mup M p (.lst (ds.set j d)))) : dSet (.ref p) (.int n) d M k := by
  show (match M p with | some (.lst ds) => (match ixN ds.length n with | some j => k (mup M p (.lst (ds.set j d))) | none => False) | _ => False)
  rw [e]; simp only [h]; exact q
theorem i_rtG {R : QZ} (h : R d M) : (enB true R).rt d M := ⟨d, M, .refl, h⟩
theorem i_rtF {R : QZ} {p : Addr} {ds : List D} (e : M p = some (.lst ds)) (h : R (.lst ds) (mdel M p)) : (enB true R).rt (.ref p) M := ⟨_, _, .frz e, by unfold frzD; rw [if_pos rfl]; exact h⟩
theorem i_rt0 {R : QZ} (h : R d M) : (enB false R).rt d M := h
theorem i_ex0 {RE : ZX} {x : Str} {fs : List (Str × D)} (h : RE x fs M) : exB false RE x fs r M := h
theorem i_exG {RE : ZX} {x : Str} {fs : List (Str × D)} (h : RE x fs M) : exB true RE x fs r M := ⟨M, Less.refl M, h⟩
theorem i_nx0 {R : QZ} (h : R .non M) : (enB false R).nx r M := h
theorem i_nxG {R : QZ} (h : R .non M) : (enB true R).nx r M := ⟨M, Less.refl M, h⟩
end
/-! ### loops and comprehensions by what holds -/
theorem zLoop_ind {c : Ck} {step : D → (Env → Mh → Prop) → Env → Mh → Prop} {nx : Env → Mh → Prop} (P : List D → Env → Mh → Prop) (hd : ∀ r M, P [] r M → zck c M (nx r M)) (hs : ∀ d l r M (k : Env → Mh → Prop), P (d :: l) r M → (∀ r' M', P l r' M' → k r' M') → zck c M (step d k r M)) :
    ∀ {ds : List D} {r : Env} {M : Mh}, P ds r M → zLoop c step nx ds r M
  | [], r, M, h => hd r M h
  | d :: l, r, M, h => hs d l r M _ h fun r' M' h' => zLoop_ind P hd hs h'
theorem zLcL_ind {c : Ck} {step : D → Mh → (Option D → Mh → Prop) → Prop} {k : List D → Mh → Prop} (P : List D → List D → Mh → Prop) (hd : ∀ acc M, P [] acc M → zck c M (k acc M))
    (hs : ∀ d l acc M (q : Option D → Mh → Prop), P (d :: l) acc M → (∀ M', P l acc M' → q none M') → (∀ y M', P l (acc ++ [y]) M' → q (some y) M') → zck c M (step d M q)) :
    ∀ {ds acc : List D} {M : Mh}, P ds acc M → zLcL c step k ds acc M
  | [], acc, M, h => hd acc M h
  | d :: l, acc, M, h => hs d l acc M _ h (fun M' h' => zLcL_ind P hd hs h') (fun y M' h' => zLcL_ind P hd hs h')
/-- a comprehension that only reckons -/
theorem zLcL_map {step : D → Mh → (Option D → Mh → Prop) → Prop} {k : List D → Mh → Prop} (f : D → D) {M : Mh} : ∀ {ds acc : List D}, (∀ d, d ∈ ds → ∀ Q : Option D → Mh → Prop, Q (some (f d)) M → step d M Q) → k (acc ++ ds.map f) M → zLcL none step k ds acc M
  | [], acc, _, h => by
    show k acc M
    simpa using h
  | d :: l, acc, hs, h => by
    show step d M _
    refine hs d List.mem_cons_self _ ?_
    show zLcL none step k l (acc ++ [f d]) M
    exact zLcL_map f (fun e he => hs e (List.mem_cons_of_mem _ he)) (by simpa using h)
/-- .. with a test -/
theorem zLcL_filter {step : D → Mh → (Option D → Mh → Prop) → Prop} {k : List D → Mh → Prop} (p : D → Bool) (f : D → D) {M : Mh} : ∀ {ds acc : List D}, (∀ d, d ∈ ds → ∀ Q : Option D → Mh → Prop, (p d = true → Q (some (f d)) M) → (p d = false → Q none M) → step d M Q) → k (acc ++ (ds.filter p).map f) M → zLcL none step k ds acc M
  | [], acc, _, h => by
    show k acc M
    simpa using h
  | d :: l, acc, hs, h => by
    show step d M _
    refine hs d List.mem_cons_self _ (fun hp => ?_) (fun hp => ?_)
    · show zLcL none step k l (acc ++ [f d]) M
      exact zLcL_filter p f (fun e he => hs e (List.mem_cons_of_mem _ he)) (by simpa [List.filter_cons, hp] using h)
    · show zLcL none step k l acc M
      exact zLcL_filter p f (fun e he => hs e (List.mem_cons_of_mem _ he)) (by simpa [List.filter_cons, hp] using h)
theorem i_lc {nb : Bool} {zi : ZI} {g : ZG} {tt : ZT} {te : ZE} {vs : List Nat} {r : Env} {M : Mh} {Q : QZ} (h : zi r M fun ds c M1 => zLcL c (zLcS g tt te (zwipe r vs)) (fun acc M2 => zNew nb acc M2 Q) ds [] M1) : zLc nb zi g tt te vs r M Q := h
theorem i_lcS {g : ZG} {tt : ZT} {te : ZE} {r : Env} {d : D} {M : Mh} {Q : Option D → Mh → Prop} (h : g d r M fun r' M' => tt r' M' fun b M1 => bsel b (te r' M1 fun y M2 => Q (some y) M2) (Q none M1)) : zLcS g tt te r d M Q := h
theorem i_yes {r : Env} {M : Mh} {Q : Bool → Mh → Prop} (h : Q true M) : zYes r M Q := h
theorem i_iLl {r : Env} {M : Mh} {a : ZE} {Q : List D → Ck → Mh → Prop} (h : a r M fun d M1 => onLst d M1 fun ds c => Q ds c M1) : ziList a r M Q := h
theorem i_onL {M : Mh} {ds : List D} {k : List D → Ck → Prop} (h : k ds none) : onLst (.lst ds) M k := h
theorem i_onR {M : Mh} {p : Addr} {ds : List D} {k : List D → Ck → Prop} (e : M p = some (.lst ds)) (h : k ds (some (p, ds))) : onLst (.ref p) M k := by
  show (match M p with | some (.lst ds) => k ds (some (p, ds)) | _ => False); rw [e]; exact h
theorem i_range {r : Env} {M : Mh} {ta : ZA} {Q : List D → Ck → Mh → Prop} (h : ta r M fun ds M1 => onI1 ds fun j => -(2 ^ 62) ≤ j ∧ j ≤ 16777216 ∧ Q (rangeD 0 1 j.toNat) none M1) : ziRange ta r M Q := h
theorem i_range2 {r : Env} {M : Mh} {ta : ZA} {Q : List D → Ck → Mh → Prop} (h : ta r M fun ds M1 => onI2 ds fun i j => -(2 ^ 62) ≤ i ∧ i < 2 ^ 62 ∧ -(2 ^ 62) ≤ j ∧ j < 2 ^ 62 ∧ j - i ≤ 16777216 ∧ Q (rangeD i 1 (j - i).toNat) none M1) : ziRange2 ta r M Q := h
theorem i_onI1 {k : Int → Prop} {i : Int} (h : k i) : onI1 [.int i] k := h
theorem i_onI2 {k : Int → Int → Prop} {i j : Int} (h : k i j) : onI2 [.int i, .int j] k := h
theorem i_iT {r : Env} {M : Mh} {a : ZE} {Q : List D → Ck → Mh → Prop} (h : a r M fun d M1 => onTup d fun ds => Q ds none M1) : ziTup a r M Q := h
theorem i_onT {ds : List D} {k : List D → Prop} (h : k ds) : onTup (.tup ds) k := h
theorem i_iS {r : Env} {M : Mh} {a : ZE} {Q : List D → Ck → Mh → Prop} (h : a r M fun d M1 => onStr d fun s => Q (charsD s) none M1) : ziStr a r M Q := h
theorem i_onS {s : Str} {k : Str → Prop} (h : k s) : onStr (.str s) k := h
theorem i_par2 {E : ZEnds} {r : Env} {M : Mh} {i j : Nat} {ta : ZA} (h : ta r M fun ds M1 => on2 ds fun x y => E.nx (st (st r i (some x)) j (some y)) M1) : zPar i j ta E r M := h
theorem i_on2 {x y : D} {k : D → D → Prop} (h : k x y) : on2 [x, y] k := h
theorem rangeD_map (lo : Int) : ∀ (n : Nat), rangeD lo 1 n = (List.range n).map fun (k : Nat) => D.int (lo + (k : Nat)) := by
  intro n
  apply List.ext_getElem?
  intro i
  by_cases h : i < n
  · have h1 : i < (rangeD lo 1 n).length := by rw [rangeD_len]; exact h
    obtain ⟨_, e⟩ := rangeD_get n lo 1 i _ (List.getElem?_eq_getElem h1)
    rw [List.getElem?_eq_getElem h1, e, List.getElem?_map, List.getElem?_range h]
    simp
  · rw [List.getElem?_eq_none (by rw [rangeD_len]; omega), List.getElem?_eq_none (by simp; omega)]
theorem i_ck0 {M : Mh} {P : Prop} (h : P) : zck none M P := h
theorem i_step {g : ZG} {tb : ZS} {E : ZEnds} {d : D} {k : Env → Mh → Prop} {r : Env} {M : Mh} (h : g d r M fun r' M' => tb { nx := k, rt := E.rt, bk := E.nx, ct := k } r' M') : zStep g tb E d k r M := h
/-- a new list goes out, as one that stays -/
theorem i_rtN {R : QZ} {M : Mh} {p : Addr} {ds : List D} (hp : M p = none) (h : R (.lst ds) M) : (enB true R).rt (.ref p) (mup M p (.lst ds)) := i_rtF mup_same (by rw [mdel_mup hp]; exact h)
/-! steps that close their own conditions -/
theorem i_sz {n : Nat} {P : Prop} (h : n ≤ sizeLine) (q : P) : n ≤ sizeLine ∧ P := ⟨h, q⟩
theorem i_rg {j : Int} {P : Prop} (h : -(2 ^ 62) ≤ j) (h' : j ≤ 16777216) (q : P) : -(2 ^ 62) ≤ j ∧ j ≤ 16777216 ∧ P := ⟨h, h', q⟩
theorem i_ty {M : Mh} {x : D} {T : String} {P : Prop} (h : tyD M x = some T) (q : P) : tyD M x = some T ∧ P := ⟨h, q⟩
theorem i_lenIs {M : Mh} {Q : QZ} {α : Type} {f : α → D} {as : List α} (q : Q (.int as.length) M) : dLen [.lst (as.map f)] M Q := by
  show Q (.int (as.map f).length) M; rw [List.length_map]; exact q
theorem i_lenRs {M : Mh} {Q : QZ} {α : Type} {f : α → D} {as : List α} {p : Addr} (e : M p = some (.lst (as.map f))) (q : Q (.int as.length) M) : dLen [.ref p] M Q := i_lenR e (by rw [List.length_map]; exact q)
theorem i_eqII {M : Mh} {Q : QZ} {i j : Int} (q : Q (.bl (decide (i = j))) M) : dEq (.int i) (.int j) M Q := i_eq (.int _ _) (.int _ _) (by
  rw [show eqD (.int i) (.int j) = decide (i = j) from rfl]; exact q)
theorem i_neII {M : Mh} {Q : QZ} {i j : Int} (q : Q (.bl (!decide (i = j))) M) : dNe (.int i) (.int j) M Q := i_ne (.int _ _) (.int _ _) (by
  rw [show eqD (.int i) (.int j) = decide (i = j) from rfl]; exact q)
theorem i_eqSS {M : Mh} {Q : QZ} {i j : Str} (q : Q (.bl (decide (i = j))) M) : dEq (.str i) (.str j) M Q := i_eq (.str _ _) (.str _ _) (by
  rw [show eqD (.str i) (.str j) = decide (i = j) from rfl]; exact q)
theorem i_neSS {M : Mh} {Q : QZ} {i j : Str} (q : Q (.bl (!decide (i = j))) M) : dNe (.str i) (.str j) M Q := i_ne (.str _ _) (.str _ _) (by
  rw [show eqD (.str i) (.str j) = decide (i = j) from rfl]; exact q)
theorem i_eqIS {M : Mh} {Q : QZ} {i : Int} {j : Str} (q : Q (.bl false) M) : dEq (.int i) (.str j) M Q := i_eq (.int _ _) (.str _ _) q
theorem i_neIS {M : Mh} {Q : QZ} {i : Int} {j : Str} (q : Q (.bl true) M) : dNe (.int i) (.str j) M Q := i_ne (.int _ _) (.str _ _) q
theorem i_bN {A B : Prop} {b : Bool} (h : bsel b B A) : bsel (!b) A B := by cases b <;> exact h
theorem i_cif {M : Mh} {Q : QZ} {b : Bool} (q : Q (.bl b) M) : Q (.bl (if false = true then !b else b)) M := q
theorem i_enum {r : Env} {M : Mh} {n : Nat} {ds : List D} {Q : List D → Ck → Mh → Prop} (h : gt r n = some (.lst ds)) (q : Q (enumD 0 ds) none M) : ziEnum (zCons (zVar n) zNil) r M Q := i_cons (i_var h (i_nil q))
theorem i_pair {r : Env} {M : Mh} {i j : Nat} {x y : D} {Q : Env → Mh → Prop} (q : Q (st (st r i (some x)) j (some y)) M) : zgPair i j (.tup [x, y]) r M Q := ⟨rfl, q⟩
theorem enumD_map {α : Type} {f : α → D} : ∀ (as : List α) (k : Nat), enumD k (as.map f) = (as.zipIdx k).map fun x => .tup [.int (x.2 : Nat), f x.1]
  | [], _ => rfl
  | a :: r, k => by
    show .tup [.int (k : Nat), f a] :: enumD (k + 1) (r.map f) = _
    rw [enumD_map r (k + 1)]; rfl
theorem i_inTT {M : Mh} {Q : QZ} {x : D} {ys : List D} (h1 : Pl 64 x) (h2 : Pl 64 (.tup ys)) (q : Q (.bl (ys.any fun z => eqD z x)) M) : dInT x (.tup ys) M Q := ⟨h1.p, h2.p, h1.d, h2.d, q⟩
theorem atI_hd {d : D} {l : List D} : atI (d :: l) (0 : Int) = some d := by
  unfold atI ixN
  rw [if_pos (by decide), if_pos (by rw [List.length_cons]; omega)]; rfl
theorem i_ixH {M : Mh} {Q : QZ} {d : D} {l : List D} (q : Q d M) : dIx (.lst (d :: l)) (.int 0) M Q := i_ixL atI_hd q
end Zl

/-! Zl12: what is never reached; xs[a:b:c]; sorted(xs, reverse=True); list(range(..)); left-out defaults -/
namespace Zl
open PySem L2
section
variable {X : Cx} {F0 : Fz}
/-- a statement that is never reached -/
def zNo : ZS := fun _ _ _ => False
theorem zs_no {st1 : Stmt} : PS X st1 (US X F0 zNo) := ⟨fun pins s r H E I h => by
  obtain ⟨F, rr, M, Z, s0, w, e, h, k⟩ := h
  exact h.elim⟩
def zNoE : ZE := fun _ _ _ => False
theorem ze_no {e : Expr} : PE X e (UE X F0 zNoE) := ⟨fun pins s r H Q I h => by
  obtain ⟨F, rr, M, R, s0, w, e, h, k⟩ := h
  exact h.elim⟩
/-! ### xs[a:b:c] -/
/-- the places of a slice -/
def pickN (n : Nat) (lo hi st : Option Int) : List Nat := sliceRange (sliceBounds lo hi st n).1 (sliceBounds lo hi st n).2.1 (sliceBounds lo hi st n).2.2
def pickL {α : Type} (ds : List α) (lo hi st : Option Int) : List α := (pickN ds.length lo hi st).filterMap (ds[·]?)
theorem pickL_map {α β : Type} (f : α → β) (ds : List α) (lo hi st : Option Int) : pickL (ds.map f) lo hi st = (pickL ds lo hi st).map f := by
  unfold pickL
  rw [List.length_map, List.map_filterMap]
  congr 1
  funext i
  rw [List.getElem?_map]
theorem vals_pick {vs : List V} {us : List Value} (h : Vals vs us) : ∀ l : List Nat, Vals (l.filterMap (vs[·]?)) (l.filterMap (us[·]?))
  | [] => .nil
  | i :: l => by
    cases e : vs[i]? with
    | none =>
      have e2 : us[i]? = none := by
        rw [List.getElem?_eq_none_iff] at e ⊢
        rw [← h.length]; exact e
      rw [List.filterMap_cons_none e, List.filterMap_cons_none e2]
      exact vals_pick h l
    | some v =>
      obtain ⟨u, e2, r⟩ := h.get e
      rw [List.filterMap_cons_some e, List.filterMap_cons_some e2]
      exact .cons r (vals_pick h l)
theorem repL_pick {K : PySem.W.Frag} {mg : Str → Option Value} {F : Fz} {vs : List V} {ds : List D} (h : RepL K mg F vs ds) : ∀ l : List Nat, RepL K mg F (l.filterMap (vs[·]?)) (l.filterMap (ds[·]?))
  | [] => .nil
  | i :: l => by
    cases e : ds[i]? with
    | none =>
      have e2 : vs[i]? = none := by
        rw [List.getElem?_eq_none_iff] at e ⊢
        rw [h.length]; exact e
      rw [List.filterMap_cons_none e, List.filterMap_cons_none e2]
      exact repL_pick h l
    | some d =>
      obtain ⟨v, e2, r⟩ := h.get e
      rw [List.filterMap_cons_some e, List.filterMap_cons_some e2]
      exact .cons r (repL_pick h l)
def tSlS (K : PySem.W.Frag) (te : TE) (tl th ts : TO) : TE := fun σ H Q => te σ H fun x H1 => tl σ H1 fun l H2 => th σ H2 fun h H3 => ts σ H3 fun c H4 => c ≠ some 0 ∧ ∃ a xs, x = .ref a ∧ SqL K H4 a xs ∧ (pickL xs l h c).length ≤ sizeLine ∧ ∀ p, H4 p = none → Q (.ref p) (upd H4 p (.lst (pickL xs l h c)))
theorem pe_slS {e sp : Expr} {te : TE} {lo hi : Option Expr} {tl th ts : TO} {p3 pos : Pos} (he : PE X e te) (hl : PO X lo tl) (hh : PO X hi th) (hs : PO X (some sp) ts) : PE X (.Subscript e (.Slice lo hi (some sp) p3) pos) (tSlS X.K te tl th ts) := by
  refine ⟨fun pins s σ H Q I h => ?_⟩
  refine PyProof.Rows.Subscript_ (thn (he.run pins s σ H _ I h) fun v s1 ⟨x, H1, I1, r1, q1⟩ => ?_)
  refine wpAny_Slice (thn (hl.run pins s1 σ H1 _ I1 q1) fun vl s2 ⟨l, H2, I2, pl, q2⟩ => ?_)
  refine thn (hh.run pins s2 σ H2 _ I2 q2) fun vu s3 ⟨u, H3, I3, pu, q3⟩ => ?_
  refine thn (hs.run pins s3 σ H3 _ I3 q3) fun vs s4 ⟨o, H4, I4, ps, q4⟩ => ?_
  obtain ⟨h0, a, xs, ex, hx, hsz, q⟩ := q4
  subst ex
  cases r1
  have I5 : Inv X pins σ H4 { s4 with heap := s4.heap.push { cls := .type "slice", data := .fields #[vl, vu, vs] } } := I4.kept (t' := s4.toks) fun b ob q => Heap.get?_push_of_some _ q
  obtain ⟨its, r, ht, hz⟩ := I5.list hx
  have hlen := r.length
  show wpAny (model X.prog X.w) X.A (PyProof.Rows.subscriptTail e (.Slice lo hi (some sp) p3) (.ref a) (.ref s4.heap.objs.size)) (EP X pins σ Q) X.xe { s4 with heap := s4.heap.push { cls := .type "slice", data := .fields #[vl, vu, vs] } }
  refine PyProof.Rows.tail_any (ops := [.ref a, .ref s4.heap.objs.size]) ht.isList.typeIs (PySem.slot_list_getitem.lookup) ?_ (by with_unfolding_all rfl)
  refine wpAny_getItem_list_slice ht.isList (Heap.IsSliceOf.new _ vl vu vs) pl pu ps h0 ?_ (by rw [List.size_toArray]; omega)
  have e1 : slicePick its.toArray l u o = (((pickN xs.length l u o).filterMap (its[·]?))).toArray := by
    unfold slicePick pickN
    rw [List.size_toArray, ← hlen]
    congr 1
    congr 1
    funext i
    simp
  rw [e1]
  refine ⟨.ref _, _, I5.laid (t' := s4.toks) (o := .lst (pickL xs l u o)) (fun b ob q => Heap.get?_push_of_some _ q) (Nat.le_refl _) ?_, rfl, q _ (I5.hok.fresh (Nat.le_refl _))⟩
  exact ⟨hsz, _, 0, vals_pick r _, Heap.get?_push_size _ rfl⟩
def zSlS (b : Bool) (a : ZE) (lo hi sp : ZO) : ZE := fun r M Q => a r M fun x M1 => lo r M1 fun l M2 => hi r M2 fun h M3 => sp r M3 fun c M4 => c ≠ some 0 ∧ zL M4 x fun ds => (pickL ds l h c).length ≤ sizeLine ∧ zNew b (pickL ds l h c) M4 Q
theorem ze_slS (b : Bool) {e sp : Expr} {fa : ZE} {lo hi : Option Expr} {fl fh fs : ZO} {p3 pos : Pos} (he : PE X e (UE X F0 fa)) (hl : PO X lo (upO X.K X.mg F0 fl)) (hh : PO X hi (upO X.K X.mg F0 fh)) (hs : PO X (some sp) (upO X.K X.mg F0 fs)) : PE X (.Subscript e (.Slice lo hi (some sp) p3) pos) (UE X F0 (zSlS b fa fl fh fs)) :=
  pe_imp (pe_slS he hl hh hs) fun s H Q h => by
  obtain ⟨F, rr, M, R, s0, w, e, h, k⟩ := h
  refine ⟨F, rr, M, _, s0, w, e, h, fun x M1 h1 F1 H1 v s1 w1 r1 => ⟨F1, rr, M1, _, s0.trans s1, w1, e.mono s1, h1, fun l M2 h2 F2 H2 s2 w2 => ⟨F2, rr, M2, _, s0.trans (s1.trans s2), w2, e.mono (s1.trans s2), h2, fun l2 M3 h3 F3 H3 s3 w3 => ⟨F3, rr, M3, _, s0.trans (s1.trans (s2.trans s3)), w3, e.mono (s1.trans (s2.trans s3)), h3, fun c M4 h4 F4 H4 s4 w4 => ?_⟩⟩⟩⟩
  obtain ⟨h0, h4⟩ := h4
  obtain ⟨p, vs, ds, rfl, e1, len, rl, h5, h6⟩ := zL_out w4 (r1.mono (s2.trans (s3.trans s4))) h4
  have el : vs.length = ds.length := rl.length
  have rp : RepL X.K X.mg F4 (pickL vs l l2 c) (pickL ds l l2 c) := by unfold pickL; rw [el]; exact repL_pick rl _
  exact ⟨h0, p, vs, rfl, SqL.of e1, by rw [rp.length]; exact h5, zNew_out w4 (by rw [rp.length]; exact h5) rp h6 (k.mono (s1.trans (s2.trans (s3.trans s4))))⟩
/-! ### sorted(xs, reverse=True) -/
def dSortedR (b : Bool) (ds : List D) (M : Mh) (Q : QZ) : Prop := match ds with
  | [x] => zL M x fun l => ∃ ns : List Int, l = ns.map D.int ∧ ∀ ns' : List Int, ns'.Perm ns → ns'.Pairwise (· ≥ ·) → zNew b (ns'.map D.int) M Q
  | _ => False
theorem ze_sortedR (b : Bool) {a : Expr} {t : ZA} {j : Nat} {p pos kpos kp2 : Pos} (hm : X.mg "sorted" = none) (hv : bootBuiltins "sorted" = some (.builtin "sorted")) (ha : PA X [a] (UA X F0 t)) (hg : Gl X "sorted" := by rfl)
    (he : backTo pos (starEach [a] X.env) = (false, eval a X.env) :: backTo pos (starEach [] X.env) := by rfl) (hpl : (backTo pos (starEach [a] X.env)).any (·.1) = false := by rfl)
    (hall : (backToKw pos (keywordEach [⟨some (Str.ofString "reverse"), .Constant (.bool true) j kp2, kpos⟩] X.env)).all (·.1.isSome) = true := by rfl) (hnone : (backToKw pos (keywordEach [⟨some (Str.ofString "reverse"), .Constant (.bool true) j kp2, kpos⟩] X.env)).any (·.1.isNone) = false := by rfl) (hks : (backToKw pos (keywordEach [⟨some (Str.ofString "reverse"), .Constant (.bool true) j kp2, kpos⟩] X.env)).filterMap (·.1) = [Str.ofString "reverse"] := by rfl) :
    PE X (.Call (.Name "sorted" p) [a] [⟨some (Str.ofString "reverse"), .Constant (.bool true) j kp2, kpos⟩] pos) (UE X F0 (zCB (dSortedR b) t)) :=
  pe_imp (pe_callBK (cr_sortedRev (b := true)) hg hm hv ha (pk_cons pe_bl pk_nil) (by decide) (by decide) he hpl hall hnone hks) fun s H Q h => by
  obtain ⟨F, rr, M, R, s0, w, e, h, k⟩ := h
  refine ⟨F, rr, M, _, s0, w, e, h, fun ds M1 h1 F1 H1 vs s1 w1 r1 => ?_⟩
  unfold dSortedR at h1
  split at h1
  · cases r1 with
    | cons r1 rl =>
      cases rl
      obtain ⟨a, vs, es, rfl, e, l, rl, ns, rfl, h⟩ := zL_out w1 r1 h1
      have hv := rl.ints_of
      subst hv
      refine ⟨a, ns, rfl, rfl, SqL.of e, fun ns' p hp hs hn => zNew_out w1 ?_ (RepL.ints ns') (h ns' hp hs) (k.mono s1) p hn⟩
      rw [List.length_map, hp.length_eq]; rw [List.length_map] at l; exact l
  · exact h1.elim
/-! ### list(range(..)) -/
def dLrg (b : Bool) (i j : Int) (M : Mh) (Q : QZ) : Prop := RgOk i j ∧ zNew b (rangeD i 1 (j - i).toNat) M Q
def zLrg1 (b : Bool) (ta : ZA) : ZE := fun r M Q => ta r M fun ds M1 => onI1 ds fun j => dLrg b 0 j M1 Q
def zLrg2 (b : Bool) (ta : ZA) : ZE := fun r M Q => ta r M fun ds M1 => onI2 ds fun i j => dLrg b i j M1 Q
theorem rgV_rep {K : PySem.W.Frag} {mg : Str → Option Value} {F : Fz} (i j : Int) : RepL K mg F (rgV i j) (rangeD i 1 (j - i).toNat) := by
  rw [rangeD_map]
  unfold rgV
  generalize List.range (j - i).toNat = l
  induction l with
  | nil => exact .nil
  | cons a l ih => exact .cons (.int _) ih
theorem rg_out {K : PySem.W.Frag} {mg : Str → Option Value} {F : Fz} {H : Hp} {M : Mh} {b : Bool} {i j : Int} {R : QZ} {Q : VK} (w : Wd K mg F H M) (h : dLrg b i j M R) (k : Kq K mg F R Q) : RgOk i j ∧ ∀ q, H q = none → Q (.ref q) (upd H q (.lst (rgV i j))) :=
  ⟨h.1, zNew_out w (by rw [rgV_length, sizeLine_eq]; have := h.1.2.2.2.2; omega) (rgV_rep i j) h.2 k⟩
theorem ze_lrg1 (b : Bool) {a : Expr} {fa : ZE} {p p2 pos pos2 : Pos} (hc : X.calm = true) (hm : X.mg "list" = none) (hm2 : X.mg "range" = none) (ha : PE X a (UE X F0 fa)) (hg : Gl X "list" := by rfl) (hg2 : Gl X "range" := by rfl)
    (na : starEach [a] X.env = (false, eval a X.env) :: starEach [] X.env := by rfl) (na2 : starEach [(.Call (.Name "range" p) [a] [] pos : Expr)] X.env = (false, eval (.Call (.Name "range" p) [a] [] pos) X.env) :: starEach [] X.env := by rfl) : PE X (.Call (.Name "list" p2) [.Call (.Name "range" p) [a] [] pos] [] pos2) (UE X F0 (zLrg1 b (zCons fa zNil))) :=
  pe_imp (pe_listRg hc hg hm (prg_1 hg2 hm2 ha na) na2) fun s H Q h => by
  obtain ⟨F, rr, M, R, s0, w, e, h, k⟩ := h
  refine ⟨F, rr, M, _, s0, w, e, h, fun x M1 h1 F1 H1 v s1 w1 r1 => ?_⟩
  have h1 : onI1 [x] fun j => dLrg b 0 j M1 R := h1
  cases x with
  | int j => cases r1; exact ⟨j, rfl, rg_out w1 h1 (k.mono s1)⟩
  | _ => exact h1.elim
theorem ze_lrg2 (b : Bool) {a c : Expr} {fa fc : ZE} {p p2 pos pos2 : Pos} (hc : X.calm = true) (hm : X.mg "list" = none) (hm2 : X.mg "range" = none) (ha : PE X a (UE X F0 fa)) (hc2 : PE X c (UE X F0 fc)) (hg : Gl X "list" := by rfl) (hg2 : Gl X "range" := by rfl)
    (na : starEach [a, c] X.env = (false, eval a X.env) :: starEach [c] X.env := by rfl) (nb : starEach [c] X.env = (false, eval c X.env) :: starEach [] X.env := by rfl) (hp : (backTo pos (starEach [c] X.env)).any (·.1) = false := by rfl)
    (na2 : starEach [(.Call (.Name "range" p) [a, c] [] pos : Expr)] X.env = (false, eval (.Call (.Name "range" p) [a, c] [] pos) X.env) :: starEach [] X.env := by rfl) : PE X (.Call (.Name "list" p2) [.Call (.Name "range" p) [a, c] [] pos] [] pos2) (UE X F0 (zLrg2 b (zCons fa (zCons fc zNil)))) :=
  pe_imp (pe_listRg hc hg hm (prg_2 hg2 hm2 ha hc2 na nb hp) na2) fun s H Q h => by
  obtain ⟨F, rr, M, R, s0, w, e, h, k⟩ := h
  refine ⟨F, rr, M, _, s0, w, e, h, fun x M1 h1 F1 H1 v s1 w1 r1 => ⟨F1, rr, M1, _, s0.trans s1, w1, e.mono s1, h1, fun y M2 h2 F2 H2 u s2 w2 r2 => ?_⟩⟩
  have h2 : onI2 [x, y] fun i j => dLrg b i j M2 R := h2
  cases x with
  | int i =>
    cases r1
    cases y with
    | int j => cases r2; exact ⟨i, j, rfl, rfl, rg_out w2 h2 (k.mono (s1.trans s2))⟩
    | _ => exact h2.elim
  | _ => exact h2.elim
/-! ### left-out defaults -/
/-- f(e, ..) with the last parameters left out: es their values -/
def zCallD (zs : ZSp) (zE : ZW) (es : List D) (t : ZA) : ZE := fun r M Q => t r M fun ds M1 => zs (ds ++ es) M1 Q fun c fs M' => zE c fs r M'
theorem ze_callD {f : Addr} {fd : FuncData} {ps : List Str} {k : Nat} {zs : ZSp} {zE : ZW} {W : WX} {x : Str} {a : Expr} {es : List Expr} {t : ZA} {p pos : Pos} {dvs : List V} {dws : List Value} {dds : List D} (FO : FnOk X.prog X.w X.K X.mg X.base (L2.CX X.prog X.w) k f fd ps (liftSp X.K X.mg zs)) (hr : Room k X.A) (hm : X.mg x = some (.ref f))
    (hk : PySem.W.keepIn X.K (.ref f) = true) (hb : Binds X.K fd ps dws) (hd : Vals dvs dws) (hdd : ∀ F, RepL X.K X.mg F dvs dds) (tk : Takes X W) (wk : Wok X.K X.mg F0 W zE) (ha : PA X (a :: es) (UA X F0 t)) (hg : Gl X x := by rfl) (hdb : (x == ("__debug__" : Str)) = false := by decide)
    (he : starEach (a :: es) X.env = (false, eval a X.env) :: starEach es X.env := by rfl) (hpl : (backTo pos (starEach es X.env)).any (·.1) = false := by rfl) : PE X (.Call (.Name x p) (a :: es) [] pos) (UE X F0 (zCallD zs zE dds t)) :=
  pe_imp (pe_callSD FO hr hg hm hk hb hd (fun s => passAt tk s) ha hdb he hpl) fun s H Q h => by
  obtain ⟨F, rr, M, R, s0, w, e, h, k⟩ := h
  refine ⟨F, rr, M, _, s0, w, e, h, fun ds M1 h1 F1 H1 vs s1 w1 r1 => ⟨F1, M1, ds ++ dds, R, _, w1, r1.append (hdd F1), h1, k.mono s1, fun c fs M' hx F' H' cls d s2 w2 rx => ?_⟩⟩
  exact wk c fs rr M' hx F' s H' cls d (s0.trans (s1.trans s2)) w2 (e.mono (s1.trans s2)) rx
end
section
variable {r : Env} {M : Mh} {Q : QZ} {a : ZE} {t : ZA}
theorem i_slStep {b : Bool} {lo hi sp : ZO} (h : a r M fun x M1 => lo r M1 fun l M2 => hi r M2 fun h M3 => sp r M3 fun c M4 => c ≠ some 0 ∧ zL M4 x fun ds => (pickL ds l h c).length ≤ sizeLine ∧ zNew b (pickL ds l h c) M4 Q) : zSlS b a lo hi sp r M Q := h
theorem i_lrg1 {b : Bool} (h : t r M fun ds M1 => onI1 ds fun j => dLrg b 0 j M1 Q) : zLrg1 b t r M Q := h
theorem i_lrg2 {b : Bool} (h : t r M fun ds M1 => onI2 ds fun i j => dLrg b i j M1 Q) : zLrg2 b t r M Q := h
theorem i_callD {zs : ZSp} {zE : ZW} {es : List D} (h : t r M fun ds M1 => zs (ds ++ es) M1 Q fun c fs M' => zE c fs r M') : zCallD zs zE es t r M Q := h
end
end Zl

/-! Zl13: len of an own object; calls with keywords; making with defaults -/
namespace Zl
open PySem L2
section
variable {X : Cx} {F0 : Fz}
/-! ### len(o), o of a class with a __len__ of its own -/
theorem call_lenO {C g : Addr} {fd : FuncData} {ps : List Str} {k : Nat} {sp : Sp} (FO : FnOk X.prog X.w X.K X.mg X.base (L2.CX X.prog X.w) k g fd ps sp) (hr : Room (k + 1) X.A) (hm : Meth X.K C "__len__" g) (hb : Binds X.K fd ps []) :
    CallR X (.builtin "len") (fun xs H Q => ∃ a dx fs, xs = [.ref a] ∧ H a = some (.ins C dx fs) ∧ sp [.ref a] H (fun v H' => ∃ n : Int, v = .int n ∧ 0 ≤ n ∧ n < 2 ^ 63 ∧ Q (.int n) H') E0) := by
  intro pins s σ H xs us Q I r h
  obtain ⟨a, dx, fs, rfl, ha, hsp⟩ := h
  obtain ⟨u, rfl, ru⟩ := vals1 r
  obtain rfl : u = Value.ref a := ru
  obtain ⟨mA, J, _⟩ := ins_get I.hok ha
  obtain ⟨od, J, _⟩ := J.look
  refine Calls.call_function_entry kind_len plain_len entry_len (args_len1 _) ?_
  unfold Builtin.«len»
  refine wpAny_bind (m := oneArg "len" _) (wpAny_pure ?_)
  refine wpAny_bind (m := callSpecial? (.ref a) (PySem.Str.ofString "__len__")) (PySem.W.special_fn I.kIn J hm.at_ (beq_iff_eq.mp hm.fn) ?_)
  have e0 : Env0 X.prog X.w X.K X.mg X.base X.A.in1 X.stack s H := by
    have e := I.env0
    exact ⟨e.frames, e.mod, e.bs, e.bsz, e.funs, e.frf, e.hok, e.bare⟩
  have r2 : Vals [V.ref a] [Value.ref a] := .cons rfl .nil
  have hl := FO.len _ _ _ _ hsp
  refine wpAny_call (codeAny_mono (FO.run X.A.in1 X.stack s H ⟨[.ref a], []⟩ [.ref a] [.ref a] _ E0 hr.in1 e0 (by
    have := hb s [.ref a] I.kIn (by simpa using hl)
    simpa using this) r2 hsp) fun r s' hq => ?_)
  cases r with
  | error e => exact passL pins σ H s e s' I hq
  | ok fl =>
    cases fl with
    | ret u =>
      obtain ⟨z, H', I', rz, n, ez, h0, h1, q⟩ := I.after hq
      subst ez
      obtain ⟨t, rfl⟩ := rz
      refine wpAny_bind (wpAny_holding (wpAny_pure ?_))
      refine wpAny_bind (wpAny_letGo ?_)
      show wpAny _ _ (if n < 0 then _ else _) _ _ _
      rw [if_neg (by omega)]
      show wpAny _ _ (if n ≥ 2 ^ 63 then _ else _) _ _ _
      rw [if_neg (by omega)]
      exact wpAny_bind (wpAny_mkInt (wpAny_pure ⟨_, rfl, .int n, H', I'.tok _, ⟨_, rfl⟩, q⟩))
    | next => exact False.elim hq
    | brk => exact False.elim hq
    | cont => exact False.elim hq
def zLenO (c : Str) (zs : ZSp) (a : ZE) : ZE := fun r M Q => a r M fun d M1 => onIns M1 c d fun p _ => zs [.ref p] M1 (fun v M2 => onInt v fun n => 0 ≤ n ∧ n < 2 ^ 63 ∧ Q (.int n) M2) fun _ _ _ => False
theorem ze_lenO {c : Str} {C g : Addr} {fd : FuncData} {ps : List Str} {k : Nat} {zs : ZSp} {a : Expr} {fa : ZE} {p pos : Pos} (gC : X.mg c = some (.ref C)) (hm : Meth X.K C "__len__" g) (FO : FnOk X.prog X.w X.K X.mg X.base (L2.CX X.prog X.w) k g fd ps (liftSp X.K X.mg zs)) (hr : Room (k + 1) X.A) (hb : Binds X.K fd ps [])
    (hn : X.mg "len" = none) (ha : PE X a (UE X F0 fa)) (hg : Gl X "len" := by rfl) (he : starEach [a] X.env = (false, eval a X.env) :: starEach [] X.env := by rfl) (hpl : (backTo pos (starEach [] X.env)).any (·.1) = false := by rfl) : PE X (.Call (.Name "len" p) [a] [] pos) (UE X F0 (zLenO c zs fa)) :=
  pe_imp (pe_callB (call_lenO FO hr hm hb) hg hn (by decide +kernel) (pa_cons ha pa_nil he) (by decide) (by decide) he hpl) fun s H Q h => by
  obtain ⟨F, rr, M, R, s0, w, e, h, k⟩ := h
  refine ⟨F, rr, M, _, s0, w, e, h, fun d M1 h1 F1 H1 v s1 w1 r1 => ?_⟩
  obtain ⟨q, fs, C', dx, vs, rfl, rfl, hM, gC', hH, rv, h2⟩ := onIns_out w1 r1 h1
  cases ref_inj gC gC'
  refine ⟨q, dx, _, rfl, hH, F1, M1, [.ref q], _, _, w1, .cons (.ref q) .nil, h2, fun v M2 h3 F' H' u s2 w2 r2 => ?_, fun _ _ _ z => z.elim⟩
  cases v with
  | int n =>
    cases r2
    obtain ⟨a1, a2, a3⟩ := (show 0 ≤ n ∧ n < 2 ^ 63 ∧ R (.int n) M2 from h3)
    exact ⟨n, rfl, a1, a2, k _ _ a3 F' H' _ (s1.trans s2) w2 (.int n)⟩
  | _ => exact h3.elim
/-! ### f(e, .., k = v, ..), which lets nothing out -/
def zCallK (zs : ZSp) (n m : Nat) (g : List D → List D → List D) (t tk : ZA) : ZE := fun r M Q => t r M fun ds M1 => tk r M1 fun es M2 => ds.length = n ∧ es.length = m ∧ zs (g ds es) M2 Q fun _ _ _ => False
theorem ze_callK {f : Addr} {fd : FuncData} {ps ks : List Str} {k n m : Nat} {zs : ZSp} {x : Str} {a : Expr} {es : List Expr} {kws : List Keyword} {t : ZA} {zk : ZA} {p pos : Pos} {gg : List Value → List Value → List Value} {gV : List V → List V → List V} {gD : List D → List D → List D}
    (FO : FnOk X.prog X.w X.K X.mg X.base (L2.CX X.prog X.w) k f fd ps (liftSp X.K X.mg zs)) (hr : Room k X.A) (hm : X.mg x = some (.ref f)) (hk : PySem.W.keepIn X.K (.ref f) = true) (hb : KBn X.K fd ps n ks gg gV) (hkl : ks.length = m)
    (hgd : ∀ (F : Fz) (vs zs : List V) (ds es : List D), RepL X.K X.mg F vs ds → RepL X.K X.mg F zs es → ds.length = n → es.length = ks.length → RepL X.K X.mg F (gV vs zs) (gD ds es))
    (ha : PA X (a :: es) (UA X F0 t)) (hkw : PK X kws (UA X F0 zk)) (hall : (backToKw pos (keywordEach kws X.env)).all (·.1.isSome) = true := by rfl) (hks : (backToKw pos (keywordEach kws X.env)).filterMap (·.1) = ks := by rfl) (hg : Gl X x := by rfl)
    (hdb : (x == ("__debug__" : Str)) = false := by decide) (he : starEach (a :: es) X.env = (false, eval a X.env) :: starEach es X.env := by rfl)
    (hpl : ((backTo pos (starEach (a :: es) X.env)).any (·.1) || (backToKw pos (keywordEach kws X.env)).any (·.1.isNone)) = false := by rfl) : PE X (.Call (.Name x p) (a :: es) kws pos) (UE X F0 (zCallK zs n m gD t zk)) := by
  subst hkl
  refine pe_imp (pe_callN FO hr hg hm hk hb passL ha hkw hall hks hdb he hpl) fun s H Q h => ?_
  obtain ⟨F, rr, M, R, s0, w, e, h, k⟩ := h
  refine ⟨F, rr, M, _, s0, w, e, h, fun ds M1 h1 F1 H1 vs s1 w1 r1 => ⟨F1, rr, M1, _, s0.trans s1, w1, e.mono s1, h1, fun es M2 h2 F2 H2 us s2 w2 r2 => ⟨by rw [r1.length]; exact h2.1, by rw [r2.length]; exact h2.2.1, F2, M2, _, R, _, w2, hgd F2 vs us ds es (r1.mono s2) r2 h2.1 h2.2.1, h2.2.2, k.mono (s1.trans s2), fun _ _ _ z => z.elim⟩⟩⟩
/-- the keywords' values -/
theorem zk_nil : PK X [] (UA X F0 zNil) := ⟨fun pos pins s σ H Q I h => by
  obtain ⟨F, rr, M, R, s0, w, e, h, k⟩ := h
  exact pk_nil.run pos pins s σ H Q I (k [] M h F H [] (Le.refl F) w .nil)⟩
theorem zk_cons {a : Expr} {fa : ZE} {t : ZA} {kws : List Keyword} {nm : Option Str} {kpos : Pos} (ha : PE X a (UE X F0 fa)) (ht : PK X kws (UA X F0 t)) : PK X (⟨nm, a, kpos⟩ :: kws) (UA X F0 (zCons fa t)) := ⟨fun pos pins s σ H Q I h => by
  obtain ⟨F, rr, M, R, s0, w, e, h, k⟩ := h
  refine (pk_cons (nm := nm) (kpos := kpos) ha ht).run pos pins s σ H Q I ⟨F, rr, M, _, s0, w, e, h, fun d M1 h1 F1 H1 v s1 w1 r1 => ⟨F1, rr, M1, _, s0.trans s1, w1, e.mono s1, h1, fun ds M2 h2 F2 H2 vs s2 w2 r2 => k (d :: ds) M2 h2 F2 H2 (v :: vs) (s1.trans s2) w2 (.cons (r1.mono s2) r2)⟩⟩⟩
/-! ### C(): all defaults; C(k = v, ..): keywords alone; nothing is let out -/
def zMakeD0 (c : Str) (zs : ZSp) (es : List D) : ZE := fun _ M Q => ∀ p, M p = none → zs (.ref p :: es) (mup M p (.ins c [])) (fun d M2 => d = .non ∧ Q (.ref p) M2) fun _ _ _ => False
theorem make_low0 {c : Str} {C : Addr} {zs : ZSp} (gC : X.mg c = some (.ref C)) {F : Fz} {M1 : Mh} {R : QZ} {H1 : Hp} {Q : VK} {ds : List D} {vs : List V} (w : Wd X.K X.mg F H1 M1) (rl : RepL X.K X.mg F vs ds)
    (h : ∀ p, M1 p = none → zs (.ref p :: ds) (mup M1 p (.ins c [])) (fun d M2 => d = .non ∧ R (.ref p) M2) fun _ _ _ => False) (k : Kq X.K X.mg F R Q) : ∀ y dx, H1 y = none → H1 dx = none → dx ≠ y →
    liftSp X.K X.mg zs (.ref y :: vs) (upd (upd H1 dx (.own y)) y (.ins C dx [])) (fun v H2 => v = .non ∧ Q (.ref y) H2) E0 := by
  intro y dx hy hdx ne
  obtain ⟨s1, w1⟩ := w.laidF (o := .own y) hdx
  have hy' : upd H1 dx (.own y) y = none := by rw [upd_ne (Ne.symm ne)]; exact hy
  obtain ⟨m0, _, _⟩ := w1.free hy'
  have w2 : Wd X.K X.mg (F.up dx (.own y)) (upd (upd H1 dx (.own y)) y (.ins C dx [])) (mup M1 y (.ins c [])) := w1.laidM hy' (by intro z; cases z) ⟨C, dx, [], gC, upd_same, .nil⟩
  refine ⟨_, _, _, _, _, w2, .cons (.ref y) (rl.mono s1), h y m0, fun d M2 ⟨hd, hR⟩ F' H' v s2 w3 r3 => ?_, fun _ _ _ z => z.elim⟩
  subst hd
  cases r3
  exact ⟨rfl, k _ _ hR F' H' _ (s1.trans s2) w3 (.ref y)⟩
theorem ze_makeD0 {c : Str} {C : Addr} {k : Nat} {g : Addr} {fd : FuncData} {ps : List Str} {zs : ZSp} {dvs : List V} {dws : List Value} {dds : List D} {p pos : Pos} (gC : X.mg c = some (.ref C)) (Mm : Mk X.K C g) (FO : FnOk X.prog X.w X.K X.mg X.base (L2.CX X.prog X.w) k g fd ps (liftSp X.K X.mg zs)) (hr : Room (k + 1) X.A) (hb : Binds X.K fd ps dws) (hd : Vals dvs dws)
    (hdd : ∀ F, RepL X.K X.mg F dvs dds) (hg : Gl X c := by rfl) (hdb : (c == ("__debug__" : Str)) = false := by decide) : PE X (.Call (.Name c p) [] [] pos) (UE X F0 (zMakeD0 c zs dds)) :=
  pe_imp (pe_make0 (E := E0) Mm FO hr hg gC hb hd passL hdb) fun s H Q h => by
  obtain ⟨F, rr, M, R, s0, w, e, h, k⟩ := h
  exact make_low0 gC w (hdd F) h k
def zMakeK0 (c : Str) (zs : ZSp) (m : Nat) (gD : List D → List D) (tk : ZA) : ZE := fun r M Q => tk r M fun es M1 => es.length = m ∧ ∀ p, M1 p = none → zs (.ref p :: gD es) (mup M1 p (.ins c [])) (fun d M2 => d = .non ∧ Q (.ref p) M2) fun _ _ _ => False
theorem ze_makeK0 {c : Str} {C : Addr} {k m : Nat} {g : Addr} {fd : FuncData} {ps ks : List Str} {zs : ZSp} {kws : List Keyword} {zk : ZA} {p pos : Pos} {gg : List Value → List Value → List Value} {gV : List V → List V → List V} {gD : List D → List D} (gC : X.mg c = some (.ref C)) (Mm : Mk X.K C g) (FO : FnOk X.prog X.w X.K X.mg X.base (L2.CX X.prog X.w) k g fd ps (liftSp X.K X.mg zs)) (hr : Room (k + 1) X.A) (hb : KBn X.K fd ps 1 ks gg gV) (hkl : ks.length = m)
    (hgd : ∀ (x : V) (zs : List V), zs.length = ks.length → ∃ us, gV [x] zs = x :: us ∧ ∀ (F : Fz) (es : List D), RepL X.K X.mg F zs es → RepL X.K X.mg F us (gD es))
    (hkw : PK X kws (UA X F0 zk)) (hall : (backToKw pos (keywordEach kws X.env)).all (·.1.isSome) = true := by rfl) (hks : (backToKw pos (keywordEach kws X.env)).filterMap (·.1) = ks := by rfl) (hg : Gl X c := by rfl)
    (hdb : (c == ("__debug__" : Str)) = false := by decide) (hpl : ((backTo pos (starEach [] X.env)).any (·.1) || (backToKw pos (keywordEach kws X.env)).any (·.1.isNone)) = false := by rfl) : PE X (.Call (.Name c p) [] kws pos) (UE X F0 (zMakeK0 c zs m gD zk)) := by
  subst hkl
  refine pe_imp (pe_makeK0 (E := E0) Mm FO hr hg gC hb passL hkw hall hks hdb hpl) fun s H Q h => ?_
  obtain ⟨F, rr, M, R, s0, w, e, h, k⟩ := h
  refine ⟨F, rr, M, _, s0, w, e, h, fun es M1 h1 F1 H1 vs s1 w1 r1 => ?_⟩
  have hl : vs.length = ks.length := by rw [r1.length]; exact h1.1
  refine ⟨rfl, hl, fun y dx hy hdx ne => ?_⟩
  obtain ⟨us, e1, e2⟩ := hgd (.ref y) vs hl
  rw [e1]
  exact make_low0 gC w1 (e2 F1 es r1) h1.2 (k.mono s1) y dx hy hdx ne
end
/-! ### a choice of readings -/
section
variable {X : Cx} {F0 : Fz}
def zAny (a b : ZE) : ZE := fun r M Q => a r M Q ∨ b r M Q
theorem ze_any {e : Expr} {a b : ZE} (ha : PE X e (UE X F0 a)) (hb : PE X e (UE X F0 b)) : PE X e (UE X F0 (zAny a b)) := ⟨fun pins s r H Q I h => by
  obtain ⟨F, rr, M, R, s0, w, e, h, k⟩ := h
  rcases h with h | h
  · exact ha.run pins s r H Q I ⟨F, rr, M, R, s0, w, e, h, k⟩
  · exact hb.run pins s r H Q I ⟨F, rr, M, R, s0, w, e, h, k⟩⟩
end
section
variable {r : Env} {M : Mh} {Q : QZ} {a : ZE} {t tk : ZA}
/-- the frozen one, the changing one -/
theorem i_anyF {b : ZE} (h : a r M Q) : zAny a b r M Q := .inl h
theorem i_anyT {b : ZE} (h : b r M Q) : zAny a b r M Q := .inr h
theorem i_lenO {c : Str} {zs : ZSp} (h : a r M fun d M1 => onIns M1 c d fun p _ => zs [.ref p] M1 (fun v M2 => onInt v fun n => 0 ≤ n ∧ n < 2 ^ 63 ∧ Q (.int n) M2) fun _ _ _ => False) : zLenO c zs a r M Q := h
theorem i_callK {zs : ZSp} {n m : Nat} {g : List D → List D → List D} (h : t r M fun ds M1 => tk r M1 fun es M2 => ds.length = n ∧ es.length = m ∧ zs (g ds es) M2 Q fun _ _ _ => False) : zCallK zs n m g t tk r M Q := h
theorem i_makeD0 {c : Str} {zs : ZSp} {es : List D} (h : ∀ p, M p = none → zs (.ref p :: es) (mup M p (.ins c [])) (fun d M2 => d = .non ∧ Q (.ref p) M2) fun _ _ _ => False) : zMakeD0 c zs es r M Q := h
theorem i_makeK0 {c : Str} {zs : ZSp} {m : Nat} {gD : List D → List D} (h : tk r M fun es M1 => es.length = m ∧ ∀ p, M1 p = none → zs (.ref p :: gD es) (mup M1 p (.ins c [])) (fun d M2 => d = .non ∧ Q (.ref p) M2) fun _ _ _ => False) : zMakeK0 c zs m gD tk r M Q := h
end
end Zl

/-! Zl16: the end, with how great the script's numbers are all together -/
namespace Zl
open PySem PySem.W PySem.Calls PyProof.Rows L2 Att
theorem log2_bits (n : Int) : n.natAbs.log2 ≤ Builtin.Int.intBits n := by
  unfold Builtin.Int.intBits
  by_cases h : n = 0
  · subst h; decide
  · rw [if_neg (by simpa using h)]; omega
theorem weight_sum : ∀ ns : List Int, (ns.map fun x : Int => x.natAbs.log2).sum ≤ WData.weightAll (ns.map WData.int)
  | [] => Nat.zero_le _
  | n :: r => by
    rw [List.map_cons, List.map_cons, List.sum_cons, Att.weight_cons, Att.weight_int]
    have := weight_sum r
    have := log2_bits n
    omega
theorem script_cells {ns : List Int} (hl : ns.length ≤ 63) (h : WData.layableAll [WData.list (ns.map WData.int)] = true) : cellsOk ns := by
  have h2 : WData.layable (WData.list (ns.map WData.int)) = true := by
    have h0 := h
    simp only [WData.layableAll, List.all_cons, List.all_nil, Bool.and_true] at h0
    exact h0
  have h3 : WData.weight (WData.list (ns.map WData.int)) ≤ 1048576 := by
    unfold WData.layable at h2
    simp only [Bool.and_eq_true, decide_eq_true_eq] at h2
    exact h2.2
  rw [Att.weight_list] at h3
  exact ⟨hl, Nat.le_trans (weight_sum ns) h3⟩
theorem walk_cells {l : OpenLaw} {k : Nat} {q : Program} {loose : List Str} {XP : (Str → Option Value) → Heap → Prop} {YP : World → Heap → Prop} {d : DefRec} {K : Params → PySem.W.Frag} {CX : World → CXT} {sp : World → Sp} {x : Str}
    (hn : l.most = some 63) (hdf : d.params.defaults = []) (hr : Room k callerA) (hY : ∀ (w : World) (h : Heap), YP w h → (K w.params).In h)
    (F : ∀ (w : World) (mg : Str → Option Value) (fa : Addr) (h : Heap), (K w.params).In h → h.Ns mainGlobals mg → mg d.name = some (.ref fa) →
      ∃ fd : FuncData, (∀ (s : Shared) (u : Value), BindsTo s fd ⟨[u], []⟩ [(x, u)]) ∧ ∀ base : Heap, (K w.params).In base → base.Ns mainGlobals mg → FnOk l.prog w (K w.params) mg base (CX w) k fa fd [x] (sp w))
    (hsp : ∀ (w : World) (H : Hp) (a : Addr) (ns : List Int), cellsOk ns → SqL (K w.params) H a (ns.map V.int) → sp w [.ref a] H (fun v _ => v = .bl true) fun _ _ _ => False)
    (hCX : ∀ (w : World) (H : Hp) (s : Shared) (e : Value) (s' : Shared), CX w [] H s (fun _ _ _ => False) e s' → False) : WalkO q loose XP YP l.row.toRowW d [] (fun f vs => PySem.call f vs) := by
  intro w s₀ s₁ mg mb G Y fa o pm cd doc dV kV ho hd hcd hD hmg hg args vals as hpre hlay hrd hwl hlo
  obtain rfl : dV = .none := Dflts.none hD hdf
  obtain rfl : kV = .none := Dflts.noKw hD
  obtain ⟨a, vs, ns, rfl, rfl, hobj, hints, hlen⟩ := script_of hn hpre hwl
  have KX := hY w _ Y
  obtain ⟨fd, hb, hF⟩ := F w mg fa _ KX G.T.g hmg
  refine enter_call (codeAny_mono (law_call KX G.T.g G.T.b G.T.builtins G.T.nolimit hg hobj hints (Nat.le_trans hlen (by decide)) hr hF hb (fun H _ hS => hsp w H a ns (script_cells hlen hlay) hS) fun H e s' => hCX w H s₁ e s') fun r s' hq => ?_)
  obtain ⟨rfl, h2, h3, h4⟩ := hq
  exact ⟨.inl ⟨.bool true, .bool true, [], rfl, fun _ => rfl, .bool true, post_true l _, fun _ => ⟨List.Pairwise.nil, fun _ hm => (nomatch hm)⟩⟩, h2, h3, h4⟩
end Zl

/-! Zl17: enumerate over a changing list -/
namespace Zl
open PySem PySem.Spec L2 PyProof.Rows
section
variable {K : PySem.W.Frag} {mg : Str → Option Value} {F : Fz}
theorem itz_enumR {a : Addr} {ds : List D} : ItZ K mg F (Ite K a) (enumD 0 ds) (some (a, ds)) := by
  intro F1 H1 M1 s w ck
  obtain ⟨_, vs, hv0, _, r⟩ := w.mu a _ ck
  have e := SqL.of (K := K) hv0
  refine ⟨fun i d hd => ?_, ⟨vs, e, by rw [enumD_len, r.length]; exact Nat.le_refl _⟩⟩
  obtain ⟨x, h1, h2⟩ := enumD_get ds 0 i d hd
  obtain ⟨v, hv, rv⟩ := r.get h1
  refine ⟨⟨vs, v, e, hv⟩, fun y H2 ⟨T, x', e1, e2, e3, e4⟩ => ?_⟩
  have := e4 vs e
  rw [hv] at this; cases this
  subst e1 e3 h2
  obtain ⟨s1, w1⟩ := w.laidF (o := .tup [.int (i : Nat), v]) e2
  refine ⟨_, s1, w1, .tup (SqT.of upd_same) (by show 2 ≤ sizeLine; decide) ?_⟩
  rw [Nat.zero_add]
  exact .cons (.int _) (.cons (rv.mono s1) .nil)
end
section
variable {X : Cx} {F0 : Fz} {tg a b c : Expr} {fa fb fc : ZE} {pos p : Pos}
def ziEnumR (ta : ZA) : ZI := fun r M Q => ta r M fun ds M1 => match ds with
  | [.lst ds] => Q (enumD 0 ds) none M1
  | [.ref p] => match M1 p with
    | some (.lst ds) => Q (enumD 0 ds) (some (p, ds)) M1
    | _ => False
  | _ => False
theorem zi_enumR {elts : List Expr} {kk : Nat} {tpos : Pos} {ta : ZA} (hm : X.mg "enumerate" = none) (ha : PA X [a] (UA X F0 ta)) (hg : Gl X "enumerate" := by rfl) (hs : starEach [a] X.env = [(false, eval a X.env)] := by rfl) :
    PI X (.Tuple elts kk tpos) (.Call (.Name "enumerate" p) [a] [] pos) (upI X.K X.mg F0 (ziEnumR ta)) := pi_imp (pi_enum hg hm ha hs) fun s H R h => by
  obtain ⟨F, rr, M, RR, s0, w, e, h, k⟩ := h
  refine ⟨F, rr, M, _, s0, w, e, h, fun ds M1 h1 F1 H1 v s1 w1 r1 => ?_⟩
  split at h1
  · cases r1 with
    | cons q r1 =>
      cases r1
      cases q with
      | lst q l rl => exact ⟨_, _, rfl, SqL.of (w1.sub _ _ q), k _ _ M1 h1 F1 H1 _ s1 w1 (itz_enum q rl) (by rw [enumD_len, ← rl.length]; exact l)⟩
  · rename_i p0
    cases r1 with
    | cons q r1 =>
      cases r1
      cases q
      cases e1 : M1 p0 with
      | none => rw [e1] at h1; exact h1.elim
      | some m =>
        cases m with
        | lst ds =>
          rw [e1] at h1
          obtain ⟨_, vs, hv, l, rl⟩ := w1.mu p0 _ e1
          exact ⟨_, _, rfl, SqL.of hv, k _ _ M1 h1 F1 H1 _ s1 w1 itz_enumR (by rw [enumD_len, ← rl.length]; exact l)⟩
        | ins c fs => rw [e1] at h1; exact h1.elim
        | town => rw [e1] at h1; exact h1.elim
  · exact h1.elim
theorem i_enumF {r : Env} {M : Mh} {n : Nat} {ds : List D} {Q : List D → Ck → Mh → Prop} (h : gt r n = some (.lst ds)) (q : Q (enumD 0 ds) none M) : ziEnumR (zCons (zVar n) zNil) r M Q := i_cons (i_var h (i_nil q))
theorem i_enumR {r : Env} {M : Mh} {n : Nat} {p : Addr} {ds : List D} {Q : List D → Ck → Mh → Prop} (h : gt r n = some (.ref p)) (e : M p = some (.lst ds)) (q : Q (enumD 0 ds) (some (p, ds)) M) : ziEnumR (zCons (zVar n) zNil) r M Q := i_cons (i_var h (i_nil (by dsimp only; rw [e]; exact q)))
end
end Zl

namespace Zp
open PySem L2 Zl
def tE : List Int := [155, 157, 158, 171, 173, 174, 179, 181, 182, 185, 186, 188, 203, 205, 206, 211, 213, 214, 217, 218, 220, 227, 229, 230, 233, 234, 236, 241, 242, 244, 283, 285, 286, 299, 301, 302, 307, 309, 310, 313, 314, 316, 331, 333, 334, 339, 341, 342, 345, 346, 348, 355, 357, 358, 361, 362, 364, 369, 370, 372, 395, 397, 398, 403, 405, 406, 409, 410, 412, 419, 421, 422, 425, 426, 428, 433, 434, 436, 451, 453, 454, 457, 458, 460, 465, 466, 468, 481, 482, 484, 539, 541, 542, 555, 557, 558, 563, 565, 566, 569, 570, 572, 587, 589, 590, 595, 597, 598, 601, 602, 604, 611, 613, 614, 617, 618, 620, 625, 626, 628, 651, 653, 654, 659, 661, 662, 665, 666, 668, 675, 677, 678, 681, 682, 684, 689, 690, 692, 707, 709, 710, 713, 714, 716, 721, 722, 724, 737, 738, 740, 779, 781, 782, 787, 789, 790, 793, 794, 796, 803, 805, 806, 809, 810, 812, 817, 818, 820, 835, 837, 838, 841, 842, 844, 849, 850, 852, 865, 866, 868]
def tH : List Int := [187, 189, 219, 221, 222, 235, 237, 238, 243, 245, 246, 315, 317, 347, 349, 350, 363, 365, 366, 371, 373, 374, 377, 378, 411, 413, 414, 427, 429, 430, 435, 437, 438, 441, 442, 444, 459, 461, 462, 467, 469, 470, 473, 474, 476, 483, 485, 486, 489, 490, 492, 571, 573, 603, 605, 606, 619, 621, 622, 627, 629, 630, 633, 634, 667, 669, 670, 683, 685, 686, 691, 693, 694, 697, 698, 700, 715, 717, 718, 723, 725, 726, 729, 730, 732, 739, 741, 742, 745, 746, 748, 753, 754, 756, 795, 797, 798, 811, 813, 814, 819, 821, 822, 825, 826, 828, 843, 845, 846, 851, 853, 854, 857, 858, 860, 867, 869, 870, 873, 874, 876, 881, 882, 884]
def n_EVEN : List Int := [155, 157, 158, 171, 173, 174, 179, 181, 182, 185, 186, 188, 203, 205, 206, 211, 213, 214, 217, 218, 220, 227, 229, 230, 233, 234, 236, 241, 242, 244, 283, 285, 286, 299, 301, 302, 307, 309, 310, 313, 314, 316, 331, 333, 334, 339, 341, 342, 345, 346, 348, 355, 357, 358, 361, 362, 364, 369, 370, 372, 395, 397, 398, 403, 405, 406, 409, 410, 412, 419, 421, 422, 425, 426, 428, 433, 434, 436, 451, 453, 454, 457, 458, 460, 465, 466, 468, 481, 482, 484, 539, 541, 542, 555, 557, 558, 563, 565, 566, 569, 570, 572, 587, 589, 590, 595, 597, 598, 601, 602, 604, 611, 613, 614, 617, 618, 620, 625, 626, 628, 651, 653, 654, 659, 661, 662, 665, 666, 668, 675, 677, 678, 681, 682, 684, 689, 690, 692, 707, 709, 710, 713, 714, 716, 721, 722, 724, 737, 738, 740, 779, 781, 782, 787, 789, 790, 793, 794, 796, 803, 805, 806, 809, 810, 812, 817, 818, 820, 835, 837, 838, 841, 842, 844, 849, 850, 852, 865, 866, 868]
def c_EVEN : List D := n_EVEN.map D.int
def n_HEAVY : List Int := [187, 189, 219, 221, 222, 235, 237, 238, 243, 245, 246, 315, 317, 347, 349, 350, 363, 365, 366, 371, 373, 374, 377, 378, 411, 413, 414, 427, 429, 430, 435, 437, 438, 441, 442, 444, 459, 461, 462, 467, 469, 470, 473, 474, 476, 483, 485, 486, 489, 490, 492, 571, 573, 603, 605, 606, 619, 621, 622, 627, 629, 630, 633, 634, 667, 669, 670, 683, 685, 686, 691, 693, 694, 697, 698, 700, 715, 717, 718, 723, 725, 726, 729, 730, 732, 739, 741, 742, 745, 746, 748, 753, 754, 756, 795, 797, 798, 811, 813, 814, 819, 821, 822, 825, 826, 828, 843, 845, 846, 851, 853, 854, 857, 858, 860, 867, 869, 870, 873, 874, 876, 881, 882, 884]
def c_HEAVY : List D := n_HEAVY.map D.int
def n_CONTROLS : List Str := ["end", "rest", "skip"]
def c_CONTROLS : List D := n_CONTROLS.map D.str
def n0_SIGNS : List Int := [0, 0, 1, 1, 1, 1, 1]
def n1_SIGNS : List Int := [1, 1, 0, 0, 0, 0, 0]
def c_SIGNS : List D := [.tup (n0_SIGNS.map D.int), .tup (n1_SIGNS.map D.int)]
def zb__wall (zE : ZW) : ZS := (zWhile (zB (zC (.bl true))) zNext)
def z__wall : ZSp := fun ds M Q E => match ds with
  | [a0] => zFn false zb__wall [some a0] M Q E
  | _ => False
def zb_is_whole (zE : ZW) : ZS := (zRet (zAndV (z1 (dIsi "int") (zVar 0)) (zAndV (zNotV (z1 (dIsi "bool") (zVar 0))) (zChain (dCmp pLe) (dCmp pLe) (zVar 1) (zVar 0) (zVar 2)))))
def z_is_whole : ZSp := fun ds M Q E => match ds with
  | [a0, a1, a2] => zFn false zb_is_whole [some a0, some a1, some a2] M Q E
  | _ => False
def zb_look_bits (zE : ZW) : ZS := (zIf (zOr (zNot (zB (z1 (dIsi "list") (zVar 0)))) (zNot (zB (zCB dAll (zCons (zLc false (ziList (zVar 0)) (zgName 1) zYes (zCall z_is_whole zNoX (zCons (zVar 1) (zCons (zC (.int 0)) (zCons (zC (.int 1)) zNil)))) [1]) zNil))))) (zRaise zE "BadBits")
  zNext)
def z_look_bits : ZSp := fun ds M Q E => match ds with
  | [a0] => zFn false zb_look_bits [some a0, none] M Q E
  | _ => False
def zb_word_of (zE : ZW) : ZS := (zSeq (zDrop (zCall z_look_bits zE (zCons (zVar 0) zNil)))
  (zSeq (zIf (zB (z2 dNe (zCB dLen (zCons (zVar 0) zNil)) (zC (.int 10)))) (zRaise zE "BadBits")
  zNext)
  (zSeq (zAsg (zC (.int 0)) (zgName 1))
  (zSeq (zFor (ziList (zVar 0)) (zgName 2) (zAsg (z2 (dAdd false) (z2 (dMul false) (zC (.int 2)) (zVar 1)) (zVar 2)) (zgName 1)))
  (zRet (zVar 1))))))
def z_word_of : ZSp := fun ds M Q E => match ds with
  | [a0] => zFn false zb_word_of [some a0, none, none] M Q E
  | _ => False
def zb_is_item (zE : ZW) : ZS := (zSeq (zIf (zB (z1 (dIsi "str") (zVar 0))) (zRet (zOrV (z2 dEq (zVar 0) (zC (.str "begin"))) (z2 (dIn false) (zVar 0) (zC (.tup c_CONTROLS)))))
  zNext)
  (zRet (zCall z_is_whole zE (zCons (zVar 0) (zCons (zC (.int 0)) (zCons (zC (.int 255)) zNil))))))
def z_is_item : ZSp := fun ds M Q E => match ds with
  | [a0] => zFn false zb_is_item [some a0] M Q E
  | _ => False
def zb_pair_item (zE : ZW) : ZS := (zSeq (zIf (zB (z2 dEq (zVar 0) (zC (.int 250)))) (zRet (zC (.str "begin")))
  zNext)
  (zSeq (zIf (zB (z2 (dIn true) (zVar 0) (zC (.tup c_HEAVY)))) (zRet (zC .non))
  zNext)
  (zSeq (zAsg (zTIx c_HEAVY (zCons (zVar 0) zNil)) (zgName 1))
  (zSeq (zIf (zB (z2 (dCmp pLt) (zVar 1) (zC (.int 76)))) (zRet (z2 (dAdd false) (zCB dLen (zCons (zC (.tup c_EVEN)) zNil)) (zVar 1)))
  zNext)
  (zRet (zIfE (zB (z2 (dCmp pLt) (zVar 1) (z2 (dAdd false) (zC (.int 76)) (zCB dLen (zCons (zC (.tup c_CONTROLS)) zNil))))) (z2 dIx (zC (.tup c_CONTROLS)) (z2 dSub (zVar 1) (zC (.int 76)))) (zC .non)))))))
def z_pair_item : ZSp := fun ds M Q E => match ds with
  | [a0] => zFn false zb_pair_item [some a0, none] M Q E
  | _ => False
def zb_item_at (zE : ZW) : ZS := (zSeq (zIf (zB (z2 (dIn false) (zVar 0) (zC (.tup c_EVEN)))) (zRet (zTup (zCons (zTIx c_EVEN (zCons (zVar 0) zNil)) (zCons (zC (.int 0)) zNil))))
  zNext)
  (zSeq (zIf (zB (z2 dIsNot (zCall z_pair_item zE (zCons (zVar 0) zNil)) (zC .non))) (zRet (zTup (zCons (zCall z_pair_item zE (zCons (zVar 0) zNil)) (zCons (zC (.int 2)) zNil))))
  zNext)
  (zSeq (zIf (zB (z2 dIsNot (zCall z_pair_item zE (zCons (z2 dSub (zC (.int 1023)) (zVar 0)) zNil)) (zC .non))) (zRet (zTup (zCons (zCall z_pair_item zE (zCons (z2 dSub (zC (.int 1023)) (zVar 0)) zNil)) (zCons (z2 dSub (zC (.int 0)) (zC (.int 2))) zNil))))
  zNext)
  (zRet (zC .non)))))
def z_item_at : ZSp := fun ds M Q E => match ds with
  | [a0] => zFn false zb_item_at [some a0] M Q E
  | _ => False
def zb_is_row (zE : ZW) : ZS := (zSeq (zIf (zOr (zNot (zB (z1 (dIsi "list") (zVar 0)))) (zB (z2 (dCmp pGt) (zCB dLen (zCons (zVar 0) zNil)) (zVar 1)))) (zRet (zC (.bl false)))
  zNext)
  (zRet (zCB dAll (zCons (zLc false (ziList (zVar 0)) (zgName 2) zYes (zCall z_is_whole zNoX (zCons (zVar 2) (zCons (zC (.int 0)) (zCons (zC (.int 255)) zNil)))) [2]) zNil))))
def z_is_row : ZSp := fun ds M Q E => match ds with
  | [a0, a1] => zFn false zb_is_row [some a0, some a1, none] M Q E
  | _ => False
def zb_look_row (zE : ZW) : ZS := (zIf (zNot (zB (zCall z_is_row zE (zCons (zVar 0) (zCons (zVar 1) zNil))))) (zRaise zE "BadRow")
  zNext)
def z_look_row : ZSp := fun ds M Q E => match ds with
  | [a0, a1] => zFn false zb_look_row [some a0, some a1] M Q E
  | _ => False
def zb_sum_of (zE : ZW) : ZS := (zRet (z2 dMod (zCB dSum (zCons (zLc false (ziEnumR (zCons (zVar 0) zNil)) (zgPair 1 2) zYes (z2 (dMul false) (z2 (dAdd false) (zVar 1) (zC (.int 1))) (z2 (dAdd false) (zVar 2) (zC (.int 1)))) [1, 2]) zNil)) (zC (.int 65521))))
def z_sum_of : ZSp := fun ds M Q E => match ds with
  | [a0] => zFn false zb_sum_of [some a0, none, none] M Q E
  | _ => False
def zb_check_of (zE : ZW) : ZS := (zSeq (zDrop (zCall z_look_row zE (zCons (zVar 0) (zCons (zC (.int 64)) zNil))))
  (zRet (zCB (dList true) (zCons (zCB dDivmod (zCons (zCall z_sum_of zE (zCons (zVar 0) zNil)) (zCons (zC (.int 256)) zNil))) zNil))))
def z_check_of : ZSp := fun ds M Q E => match ds with
  | [a0] => zFn true zb_check_of [some a0] M Q E
  | _ => False
def zb_row_within (zE : ZW) : ZS := (zSeq (zIf (zOr (zB (z2 dEq (zVar 0) (zLst false zNil))) (zOr (zB (z2 (dCmp pGt) (z2 dIx (zVar 0) (zC (.int 0))) (zC (.int 64)))) (zB (z2 dNe (zCB dLen (zCons (zVar 0) zNil)) (z2 (dAdd false) (z2 dIx (zVar 0) (zC (.int 0))) (zC (.int 3))))))) (zRet (zC .non))
  zNext)
  (zSeq (zAsg (zAny (zSl false (zVar 0) (zPart (zC (.int 1))) (zPart (z1 dNeg (zC (.int 2))))) (zSl true (zVar 0) (zPart (zC (.int 1))) (zPart (z1 dNeg (zC (.int 2)))))) (zgName 1))
  (zRet (zIfE (zB (z2 dEq (zCall z_check_of zE (zCons (zVar 1) zNil)) (zSl false (zVar 0) (zPart (z1 dNeg (zC (.int 2)))) zNoPart))) (zVar 1) (zC .non)))))
def z_row_within : ZSp := fun ds M Q E => match ds with
  | [a0] => zFn false zb_row_within [some a0, none] M Q E
  | _ => False
def zb_Reader___init__ (zE : ZW) : ZS := (zSeq (zSetA "Reader" "last" (zVar 0) (zLst false zNil))
  (zSeq (zSetA "Reader" "part" (zVar 0) (zC .non))
  (zSetA "Reader" "poise" (zVar 0) (zC .non))))
def z_Reader___init__ : ZSp := fun ds M Q E => match ds with
  | [a0] => zFn false zb_Reader___init__ [some a0] M Q E
  | _ => False
def zb_Reader_heard (zE : ZW) : ZS := (zSeq (zIf (zB (z2 (dIn false) (zVar 1) (zTup (zCons (zC (.int 250)) (zCons (z2 dSub (zC (.int 1023)) (zC (.int 250))) zNil))))) (zSeq (zAsg (zIfE (zB (z2 dEq (zVar 1) (zC (.int 250)))) (z2 dSub (zC (.int 0)) (zC (.int 1))) (zC (.int 1))) (zgName 2))
  (zSeq (zAsg (zIfE (zAnd (zB (z2 dIsNot (zFld "Reader" "poise" (zVar 0)) (zC .non))) (zB (z2 dNe (zFld "Reader" "poise" (zVar 0)) (zVar 2)))) (zLst false (zCons (zC (.str "lost")) zNil)) (zLst false zNil)) (zgName 3))
  (zSeq (zSetA "Reader" "poise" (zVar 0) (z2 dSub (zC (.int 0)) (zVar 2)))
  (zRet (z2 (dAdd true) (zVar 3) (zLst false (zCons (zC (.str "begin")) zNil)))))))
  zNext)
  (zSeq (zAsg (zIfE (zB (z2 dIs (zFld "Reader" "poise" (zVar 0)) (zC .non))) (zC .non) (zCall z_item_at zE (zCons (zVar 1) zNil))) (zgName 4))
  (zSeq (zIf (zOr (zB (z2 dIs (zVar 4) (zC .non))) (zNot (zB (zChain (dCmp pLe) (dCmp pLe) (z2 dSub (zC (.int 0)) (zC (.int 1))) (z2 (dAdd false) (zFld "Reader" "poise" (zVar 0)) (z2 dIx (zVar 4) (zC (.int 1)))) (zC (.int 1)))))) (zSeq (zSetA "Reader" "part" (zVar 0) (zC .non))
  (zSeq (zSetA "Reader" "poise" (zVar 0) (zC .non))
  (zRet (zLst true (zCons (zC (.str "lost")) zNil)))))
  zNext)
  (zSeq (zSetA "Reader" "poise" (zVar 0) (z2 (dAdd false) (zFld "Reader" "poise" (zVar 0)) (z2 dIx (zVar 4) (zC (.int 1)))))
  (zRet (zLst true (zCons (z2 dIx (zVar 4) (zC (.int 0))) zNil)))))))
def z_Reader_heard : ZSp := fun ds M Q E => match ds with
  | [a0, a1] => zFn true zb_Reader_heard [some a0, some a1, none, none, none] M Q E
  | _ => False
def zb_Reader_in_step (zE : ZW) : ZS := (zRet (z2 dIsNot (zFld "Reader" "part" (zVar 0)) (zC .non)))
def z_Reader_in_step : ZSp := fun ds M Q E => match ds with
  | [a0] => zFn false zb_Reader_in_step [some a0] M Q E
  | _ => False
def zb_Reader_poise_now (zE : ZW) : ZS := (zDrop (zCall z__wall zE (zCons (zC (.int 0)) zNil)))
def z_Reader_poise_now : ZSp := fun ds M Q E => match ds with
  | [a0] => zFn false zb_Reader_poise_now [some a0] M Q E
  | _ => False
def zb_Reader_waiting (zE : ZW) : ZS := (zDrop (zCall z__wall zE (zCons (zC (.int 1)) zNil)))
def z_Reader_waiting : ZSp := fun ds M Q E => match ds with
  | [a0] => zFn false zb_Reader_waiting [some a0] M Q E
  | _ => False
def zb_Taker___init__ (zE : ZW) : ZS := (zSetA "Taker" "some" (zVar 0) (zC .non))
def z_Taker___init__ : ZSp := fun ds M Q E => match ds with
  | [a0] => zFn false zb_Taker___init__ [some a0] M Q E
  | _ => False
def zb_Taker_took (zE : ZW) : ZS := (zSeq (zIf (zB (z2 dEq (zVar 1) (zC (.str "begin")))) (zSeq (zAsg (zIfE (zB (z2 dIs (zFld "Taker" "some" (zVar 0)) (zC .non))) (zLst false zNil) (zLst false (zCons (zTup (zCons (zC (.str "spoilt")) (zCons (zLst false zNil) zNil))) zNil))) (zgName 2))
  (zSeq (zSetA "Taker" "some" (zVar 0) (zLst true zNil))
  (zRet (zVar 2))))
  zNext)
  (zSeq (zIf (zOr (zB (z2 dIs (zFld "Taker" "some" (zVar 0)) (zC .non))) (zB (z2 dEq (zVar 1) (zC (.str "skip"))))) (zRet (zLst true zNil))
  zNext)
  (zSeq (zIf (zAnd (zNot (zB (z1 (dIsi "str") (zVar 1)))) (zB (z2 (dCmp pLt) (zCB dLen (zCons (zFld "Taker" "some" (zVar 0)) zNil)) (z2 (dAdd false) (zC (.int 64)) (zC (.int 3)))))) (zSeq (zDrop (zM "list" dApp (zFld "Taker" "some" (zVar 0)) (zCons (zVar 1) zNil)))
  (zRet (zLst true zNil)))
  zNext)
  (zSeq (zAsg (zIfE (zB (z2 dEq (zVar 1) (zC (.str "end")))) (zCall z_row_within zE (zCons (zFld "Taker" "some" (zVar 0)) zNil)) (zC .non)) (zgName 3))
  (zSeq (zSetA "Taker" "some" (zVar 0) (zC .non))
  (zRet (zIfE (zB (z2 dIs (zVar 3) (zC .non))) (zLst true (zCons (zTup (zCons (zC (.str "spoilt")) (zCons (zLst false zNil) zNil))) zNil)) (zLst true (zCons (zTup (zCons (zC (.str "frame")) (zCons (zVar 3) zNil))) zNil)))))))))
def z_Taker_took : ZSp := fun ds M Q E => match ds with
  | [a0, a1] => zFn true zb_Taker_took [some a0, some a1, none, none] M Q E
  | _ => False
def zb_Taker_within (zE : ZW) : ZS := (zRet (z2 dIsNot (zFld "Taker" "some" (zVar 0)) (zC .non)))
def z_Taker_within : ZSp := fun ds M Q E => match ds with
  | [a0] => zFn false zb_Taker_within [some a0] M Q E
  | _ => False
def zb_Ear___init__ (zE : ZW) : ZS := (zSeq (zSetA "Ear" "reader" (zVar 0) (zMake "Reader" z_Reader___init__ zE zNil))
  (zSetA "Ear" "taker" (zVar 0) (zMake "Taker" z_Taker___init__ zE zNil)))
def z_Ear___init__ : ZSp := fun ds M Q E => match ds with
  | [a0] => zFn false zb_Ear___init__ [some a0] M Q E
  | _ => False
def zb_Ear_in_step (zE : ZW) : ZS := (zRet (zMeth "Reader" "in_step" z_Reader_in_step zE (zFld "Ear" "reader" (zVar 0)) zNil))
def z_Ear_in_step : ZSp := fun ds M Q E => match ds with
  | [a0] => zFn false zb_Ear_in_step [some a0] M Q E
  | _ => False
def z__law_town : ZSp := fun ds M Q _ => match ds with
  | [.scr _] => (∀ t, M t ≠ some .town) ∧ ∀ t, M t = none → Q (.ref t) (mup M t .town)
  | _ => False
def zb__law_draw (zE : ZW) : ZS := (zSeq (zAsg (z2 dIx (zVar 0) (zC (.int 0))) (zgName 2))
  (zSeq (zAsg (z2 (dAdd false) (z2 dIx (zVar 0) (zC (.int 1))) (zC (.int 1))) (zgSub (zVar 0) (zC (.int 1))))
  (zSeq (zAsg (z2 dMod (z2 dIx (zVar 0) (zC (.int 1))) (zCB dLen (zCons (zVar 2) zNil))) (zgName 3))
  (zSeq (zAsg (z2 dIx (zVar 2) (zVar 3)) (zgName 4))
  (zSeq (zIf (zB (z2 (dCmp pGe) (zVar 4) (zC (.int 1000000000000000000)))) (zSeq (zAsg (z2 dDiv (zVar 4) (zVar 1)) (zgSub (zVar 2) (zVar 3)))
  (zRet (z2 dMod (zVar 4) (zVar 1))))
  zNext)
  (zSeq (zAsg (z2 dMod (z2 (dAdd false) (zVar 4) (z2 (dMul false) (zC (.int 104729)) (z2 dIx (zVar 0) (zC (.int 1))))) (zC (.int 4294967291))) (zgName 5))
  (zSeq (zAsg (z2 dMod (z2 dPow (zVar 5) (zC (.int 5))) (zC (.int 4294967279))) (zgName 5))
  (zRet (z2 dMod (z2 dDiv (z2 dMod (z2 (dAdd false) (z2 (dMul false) (z2 dDiv (zVar 5) (zC (.int 64))) (zC (.int 69621))) (zVar 5)) (zC (.int 4294967231))) (zC (.int 8))) (zVar 1))))))))))
def z0__law_draw : ZSp := fun ds M Q E => match ds with
  | [a0, a1] => zFn true zb__law_draw [some a0, some a1, none, none, none, none] M Q E
  | _ => False
def z__law_draw : ZSp := fun ds M Q _ => match ds with
  | [.ref t, .int n] => M t = some .town ∧ 0 < n ∧ n < 1073741824 ∧ ∀ k, 0 ≤ k → k < n → Q (.int k) M
  | _ => False
def zb__law_pick (zE : ZW) : ZS := (zRet (z2 dIx (zVar 1) (zCall z__law_draw zE (zCons (zVar 0) (zCons (zCB dLen (zCons (zVar 1) zNil)) zNil)))))
def z__law_pick : ZSp := fun ds M Q E => match ds with
  | [a0, a1] => zFn false zb__law_pick [some a0, some a1] M Q E
  | _ => False
def zb1__law_pick (zE : ZW) : ZS := (zRet (z2 dIx (zVar 1) (zCall z0__law_draw zE (zCons (zVar 0) (zCons (zCB dLen (zCons (zVar 1) zNil)) zNil)))))
def z1__law_pick : ZSp := fun ds M Q E => match ds with
  | [a0, a1] => zFn false zb1__law_pick [some a0, some a1] M Q E
  | _ => False
def zb__law_ten (zE : ZW) : ZS := (zRet (zLc false (ziList (zLst false (zCons (zC (.int 512)) (zCons (zC (.int 256)) (zCons (zC (.int 128)) (zCons (zC (.int 64)) (zCons (zC (.int 32)) (zCons (zC (.int 16)) (zCons (zC (.int 8)) (zCons (zC (.int 4)) (zCons (zC (.int 2)) (zCons (zC (.int 1)) zNil)))))))))))) (zgName 1) zYes (z2 dMod (z2 dDiv (zVar 0) (zVar 1)) (zC (.int 2))) [1]))
def z__law_ten : ZSp := fun ds M Q E => match ds with
  | [a0] => zFn false zb__law_ten [some a0, none] M Q E
  | _ => False
def zb__law_even (zE : ZW) : ZS := (zRet (zTup (zCons (zC (.int 155)) (zCons (zC (.int 157)) (zCons (zC (.int 158)) (zCons (zC (.int 171)) (zCons (zC (.int 173)) (zCons (zC (.int 174)) (zCons (zC (.int 179)) (zCons (zC (.int 181)) (zCons (zC (.int 182)) (zCons (zC (.int 185)) (zCons (zC (.int 186)) (zCons (zC (.int 188)) (zCons (zC (.int 203)) (zCons (zC (.int 205)) (zCons (zC (.int 206)) (zCons (zC (.int 211)) (zCons (zC (.int 213)) (zCons (zC (.int 214)) (zCons (zC (.int 217)) (zCons (zC (.int 218)) (zCons (zC (.int 220)) (zCons (zC (.int 227)) (zCons (zC (.int 229)) (zCons (zC (.int 230)) (zCons (zC (.int 233)) (zCons (zC (.int 234)) (zCons (zC (.int 236)) (zCons (zC (.int 241)) (zCons (zC (.int 242)) (zCons (zC (.int 244)) (zCons (zC (.int 283)) (zCons (zC (.int 285)) (zCons (zC (.int 286)) (zCons (zC (.int 299)) (zCons (zC (.int 301)) (zCons (zC (.int 302)) (zCons (zC (.int 307)) (zCons (zC (.int 309)) (zCons (zC (.int 310)) (zCons (zC (.int 313)) (zCons (zC (.int 314)) (zCons (zC (.int 316)) (zCons (zC (.int 331)) (zCons (zC (.int 333)) (zCons (zC (.int 334)) (zCons (zC (.int 339)) (zCons (zC (.int 341)) (zCons (zC (.int 342)) (zCons (zC (.int 345)) (zCons (zC (.int 346)) (zCons (zC (.int 348)) (zCons (zC (.int 355)) (zCons (zC (.int 357)) (zCons (zC (.int 358)) (zCons (zC (.int 361)) (zCons (zC (.int 362)) (zCons (zC (.int 364)) (zCons (zC (.int 369)) (zCons (zC (.int 370)) (zCons (zC (.int 372)) (zCons (zC (.int 395)) (zCons (zC (.int 397)) (zCons (zC (.int 398)) (zCons (zC (.int 403)) (zCons (zC (.int 405)) (zCons (zC (.int 406)) (zCons (zC (.int 409)) (zCons (zC (.int 410)) (zCons (zC (.int 412)) (zCons (zC (.int 419)) (zCons (zC (.int 421)) (zCons (zC (.int 422)) (zCons (zC (.int 425)) (zCons (zC (.int 426)) (zCons (zC (.int 428)) (zCons (zC (.int 433)) (zCons (zC (.int 434)) (zCons (zC (.int 436)) (zCons (zC (.int 451)) (zCons (zC (.int 453)) (zCons (zC (.int 454)) (zCons (zC (.int 457)) (zCons (zC (.int 458)) (zCons (zC (.int 460)) (zCons (zC (.int 465)) (zCons (zC (.int 466)) (zCons (zC (.int 468)) (zCons (zC (.int 481)) (zCons (zC (.int 482)) (zCons (zC (.int 484)) (zCons (zC (.int 539)) (zCons (zC (.int 541)) (zCons (zC (.int 542)) (zCons (zC (.int 555)) (zCons (zC (.int 557)) (zCons (zC (.int 558)) (zCons (zC (.int 563)) (zCons (zC (.int 565)) (zCons (zC (.int 566)) (zCons (zC (.int 569)) (zCons (zC (.int 570)) (zCons (zC (.int 572)) (zCons (zC (.int 587)) (zCons (zC (.int 589)) (zCons (zC (.int 590)) (zCons (zC (.int 595)) (zCons (zC (.int 597)) (zCons (zC (.int 598)) (zCons (zC (.int 601)) (zCons (zC (.int 602)) (zCons (zC (.int 604)) (zCons (zC (.int 611)) (zCons (zC (.int 613)) (zCons (zC (.int 614)) (zCons (zC (.int 617)) (zCons (zC (.int 618)) (zCons (zC (.int 620)) (zCons (zC (.int 625)) (zCons (zC (.int 626)) (zCons (zC (.int 628)) (zCons (zC (.int 651)) (zCons (zC (.int 653)) (zCons (zC (.int 654)) (zCons (zC (.int 659)) (zCons (zC (.int 661)) (zCons (zC (.int 662)) (zCons (zC (.int 665)) (zCons (zC (.int 666)) (zCons (zC (.int 668)) (zCons (zC (.int 675)) (zCons (zC (.int 677)) (zCons (zC (.int 678)) (zCons (zC (.int 681)) (zCons (zC (.int 682)) (zCons (zC (.int 684)) (zCons (zC (.int 689)) (zCons (zC (.int 690)) (zCons (zC (.int 692)) (zCons (zC (.int 707)) (zCons (zC (.int 709)) (zCons (zC (.int 710)) (zCons (zC (.int 713)) (zCons (zC (.int 714)) (zCons (zC (.int 716)) (zCons (zC (.int 721)) (zCons (zC (.int 722)) (zCons (zC (.int 724)) (zCons (zC (.int 737)) (zCons (zC (.int 738)) (zCons (zC (.int 740)) (zCons (zC (.int 779)) (zCons (zC (.int 781)) (zCons (zC (.int 782)) (zCons (zC (.int 787)) (zCons (zC (.int 789)) (zCons (zC (.int 790)) (zCons (zC (.int 793)) (zCons (zC (.int 794)) (zCons (zC (.int 796)) (zCons (zC (.int 803)) (zCons (zC (.int 805)) (zCons (zC (.int 806)) (zCons (zC (.int 809)) (zCons (zC (.int 810)) (zCons (zC (.int 812)) (zCons (zC (.int 817)) (zCons (zC (.int 818)) (zCons (zC (.int 820)) (zCons (zC (.int 835)) (zCons (zC (.int 837)) (zCons (zC (.int 838)) (zCons (zC (.int 841)) (zCons (zC (.int 842)) (zCons (zC (.int 844)) (zCons (zC (.int 849)) (zCons (zC (.int 850)) (zCons (zC (.int 852)) (zCons (zC (.int 865)) (zCons (zC (.int 866)) (zCons (zC (.int 868)) zNil))))))))))))))))))))))))))))))))))))))))))))))))))))))))))))))))))))))))))))))))))))))))))))))))))))))))))))))))))))))))))))))))))))))))))))))))))))))))))))))))))))))))))))))))))))))
def z__law_even : ZSp := fun ds M Q E => match ds with
  | [] => zFn false zb__law_even [] M Q E
  | _ => False
def zb__law_heavy (zE : ZW) : ZS := (zRet (zTup (zCons (zC (.int 187)) (zCons (zC (.int 189)) (zCons (zC (.int 219)) (zCons (zC (.int 221)) (zCons (zC (.int 222)) (zCons (zC (.int 235)) (zCons (zC (.int 237)) (zCons (zC (.int 238)) (zCons (zC (.int 243)) (zCons (zC (.int 245)) (zCons (zC (.int 246)) (zCons (zC (.int 315)) (zCons (zC (.int 317)) (zCons (zC (.int 347)) (zCons (zC (.int 349)) (zCons (zC (.int 350)) (zCons (zC (.int 363)) (zCons (zC (.int 365)) (zCons (zC (.int 366)) (zCons (zC (.int 371)) (zCons (zC (.int 373)) (zCons (zC (.int 374)) (zCons (zC (.int 377)) (zCons (zC (.int 378)) (zCons (zC (.int 411)) (zCons (zC (.int 413)) (zCons (zC (.int 414)) (zCons (zC (.int 427)) (zCons (zC (.int 429)) (zCons (zC (.int 430)) (zCons (zC (.int 435)) (zCons (zC (.int 437)) (zCons (zC (.int 438)) (zCons (zC (.int 441)) (zCons (zC (.int 442)) (zCons (zC (.int 444)) (zCons (zC (.int 459)) (zCons (zC (.int 461)) (zCons (zC (.int 462)) (zCons (zC (.int 467)) (zCons (zC (.int 469)) (zCons (zC (.int 470)) (zCons (zC (.int 473)) (zCons (zC (.int 474)) (zCons (zC (.int 476)) (zCons (zC (.int 483)) (zCons (zC (.int 485)) (zCons (zC (.int 486)) (zCons (zC (.int 489)) (zCons (zC (.int 490)) (zCons (zC (.int 492)) (zCons (zC (.int 571)) (zCons (zC (.int 573)) (zCons (zC (.int 603)) (zCons (zC (.int 605)) (zCons (zC (.int 606)) (zCons (zC (.int 619)) (zCons (zC (.int 621)) (zCons (zC (.int 622)) (zCons (zC (.int 627)) (zCons (zC (.int 629)) (zCons (zC (.int 630)) (zCons (zC (.int 633)) (zCons (zC (.int 634)) (zCons (zC (.int 667)) (zCons (zC (.int 669)) (zCons (zC (.int 670)) (zCons (zC (.int 683)) (zCons (zC (.int 685)) (zCons (zC (.int 686)) (zCons (zC (.int 691)) (zCons (zC (.int 693)) (zCons (zC (.int 694)) (zCons (zC (.int 697)) (zCons (zC (.int 698)) (zCons (zC (.int 700)) (zCons (zC (.int 715)) (zCons (zC (.int 717)) (zCons (zC (.int 718)) (zCons (zC (.int 723)) (zCons (zC (.int 725)) (zCons (zC (.int 726)) (zCons (zC (.int 729)) (zCons (zC (.int 730)) (zCons (zC (.int 732)) (zCons (zC (.int 739)) (zCons (zC (.int 741)) (zCons (zC (.int 742)) (zCons (zC (.int 745)) (zCons (zC (.int 746)) (zCons (zC (.int 748)) (zCons (zC (.int 753)) (zCons (zC (.int 754)) (zCons (zC (.int 756)) (zCons (zC (.int 795)) (zCons (zC (.int 797)) (zCons (zC (.int 798)) (zCons (zC (.int 811)) (zCons (zC (.int 813)) (zCons (zC (.int 814)) (zCons (zC (.int 819)) (zCons (zC (.int 821)) (zCons (zC (.int 822)) (zCons (zC (.int 825)) (zCons (zC (.int 826)) (zCons (zC (.int 828)) (zCons (zC (.int 843)) (zCons (zC (.int 845)) (zCons (zC (.int 846)) (zCons (zC (.int 851)) (zCons (zC (.int 853)) (zCons (zC (.int 854)) (zCons (zC (.int 857)) (zCons (zC (.int 858)) (zCons (zC (.int 860)) (zCons (zC (.int 867)) (zCons (zC (.int 869)) (zCons (zC (.int 870)) (zCons (zC (.int 873)) (zCons (zC (.int 874)) (zCons (zC (.int 876)) (zCons (zC (.int 881)) (zCons (zC (.int 882)) (zCons (zC (.int 884)) zNil))))))))))))))))))))))))))))))))))))))))))))))))))))))))))))))))))))))))))))))))))))))))))))))))))))))))))))))))))))))))))))))
def z__law_heavy : ZSp := fun ds M Q E => match ds with
  | [] => zFn false zb__law_heavy [] M Q E
  | _ => False
def zb__law_has_pair (zE : ZW) : ZS := (zRet (zOrV (z1 (dIsi "str") (zVar 0)) (z2 (dCmp pGe) (zVar 0) (zC (.int 180)))))
def z__law_has_pair : ZSp := fun ds M Q E => match ds with
  | [a0] => zFn false zb__law_has_pair [some a0] M Q E
  | _ => False
def zb__law_put (zE : ZW) : ZS := (zSeq (zIf (zNot (zB (zCall z__law_has_pair zE (zCons (zVar 0) zNil)))) (zRet (zTup (zCons (z2 dIx (zCall z__law_even zNoX zNil) (zVar 0)) (zCons (zVar 1) zNil))))
  zNext)
  (zSeq (zAsg (zC (.int 250)) (zgName 2))
  (zSeq (zIf (zB (z2 dNe (zVar 0) (zC (.str "begin")))) (zAsg (z2 dIx (zCall z__law_heavy zNoX zNil) (zIfE (zB (z1 (dIsi "str") (zVar 0))) (z2 (dAdd false) (zC (.int 76)) (zM "list" dIndex (zLst false (zCons (zC (.str "end")) (zCons (zC (.str "rest")) (zCons (zC (.str "skip")) zNil)))) (zCons (zVar 0) zNil))) (z2 dSub (zVar 0) (zC (.int 180))))) (zgName 2))
  zNext)
  (zRet (zIfE (zB (z2 (dCmp pLt) (zVar 1) (zC (.int 0)))) (zTup (zCons (zVar 2) (zCons (zC (.int 1)) zNil))) (zTup (zCons (z2 dSub (zC (.int 1023)) (zVar 2)) (zCons (z2 dSub (zC (.int 0)) (zC (.int 1))) zNil))))))))
def z__law_put : ZSp := fun ds M Q E => match ds with
  | [a0, a1] => zFn false zb__law_put [some a0, some a1, none] M Q E
  | _ => False
def zb__law_sent (zE : ZW) : ZS := (zSeq (zAsg (zLst false zNil) (zgName 2))
  (zSeq (zFor (ziList (zVar 0)) (zgName 3) (zSeq (zAsg (zCall z__law_put zE (zCons (zVar 3) (zCons (zVar 1) zNil))) (zgTup 2 (zgCons (zgName 4) (zgCons (zgName 1) zgNil))))
  (zAsg (z2 (dAdd false) (zVar 2) (zCall z__law_ten zE (zCons (zVar 4) zNil))) (zgName 2))))
  (zRet (zTup (zCons (zVar 2) (zCons (zVar 1) zNil))))))
def z__law_sent : ZSp := fun ds M Q E => match ds with
  | [a0, a1] => zFn false zb__law_sent [some a0, some a1, none, none, none] M Q E
  | _ => False
def zb__law_byte (zE : ZW) : ZS := (zSeq (zAsg (zCall z__law_draw zE (zCons (zVar 0) (zCons (zC (.int 6)) zNil))) (zgName 1))
  (zSeq (zIf (zB (z2 dEq (zVar 1) (zC (.int 0)))) (zRet (zCall z__law_pick zE (zCons (zVar 0) (zCons (zLst false (zCons (zC (.int 0)) (zCons (zC (.int 1)) (zCons (zC (.int 178)) (zCons (zC (.int 179)) (zCons (zC (.int 180)) (zCons (zC (.int 181)) (zCons (zC (.int 254)) (zCons (zC (.int 255)) zNil))))))))) zNil))))
  zNext)
  (zRet (zIfE (zB (z2 (dCmp pLt) (zVar 1) (zC (.int 3)))) (z2 (dAdd false) (zC (.int 180)) (zCall z__law_draw zE (zCons (zVar 0) (zCons (zC (.int 76)) zNil)))) (zCall z__law_draw zE (zCons (zVar 0) (zCons (zC (.int 180)) zNil)))))))
def z__law_byte : ZSp := fun ds M Q E => match ds with
  | [a0] => zFn false zb__law_byte [some a0, none] M Q E
  | _ => False
def zb__law_row (zE : ZW) : ZS := (zSeq (zAsg (zCall z__law_pick zE (zCons (zVar 0) (zCons (zLst false (zCons (zC (.int 0)) (zCons (zC (.int 1)) (zCons (zC (.int 2)) (zCons (zC (.int 3)) (zCons (zCall z__law_draw zE (zCons (zVar 0) (zCons (z2 (dAdd false) (zVar 1) (zC (.int 1))) zNil))) zNil)))))) zNil))) (zgName 2))
  (zRet (zLc false (ziRange (zCons (zCB dMinL (zCons (zVar 2) (zCons (zVar 1) zNil))) zNil)) (zgName 3) zYes (zCall z__law_byte zNoX (zCons (zVar 0) zNil)) [3])))
def z__law_row : ZSp := fun ds M Q E => match ds with
  | [a0, a1] => zFn false zb__law_row [some a0, some a1, none, none] M Q E
  | _ => False
def zb__law_check (zE : ZW) : ZS := (zSeq (zAsg (zC (.int 0)) (zgName 1))
  (zSeq (zFor (ziRange (zCons (zCB dLen (zCons (zVar 0) zNil)) zNil)) (zgName 2) (zAsg (z2 (dAdd false) (zVar 1) (z2 (dMul false) (z2 (dAdd false) (zVar 2) (zC (.int 1))) (z2 (dAdd false) (z2 dIx (zVar 0) (zVar 2)) (zC (.int 1))))) (zgName 1)))
  (zRet (zLst false (zCons (z2 dDiv (z2 dMod (zVar 1) (zC (.int 65521))) (zC (.int 256))) (zCons (z2 dMod (z2 dMod (zVar 1) (zC (.int 65521))) (zC (.int 256))) zNil))))))
def z__law_check : ZSp := fun ds M Q E => match ds with
  | [a0] => zFn false zb__law_check [some a0, none, none] M Q E
  | _ => False
def zb__law_frame (zE : ZW) : ZS := (zRet (z2 (dAdd false) (z2 (dAdd false) (z2 (dAdd false) (zLst false (zCons (zC (.str "begin")) (zCons (zCB dLen (zCons (zVar 0) zNil)) zNil))) (zVar 0)) (zCall z__law_check zE (zCons (zVar 0) zNil))) (zLst false (zCons (zC (.str "end")) zNil))))
def z__law_frame : ZSp := fun ds M Q E => match ds with
  | [a0] => zFn false zb__law_frame [some a0] M Q E
  | _ => False
def zb__law_gap (zE : ZW) : ZS := (zRet (zLc false (ziRange (zCons (zCall z__law_pick zE (zCons (zVar 0) (zCons (zLst false (zCons (zC (.int 0)) (zCons (zC (.int 0)) (zCons (zC (.int 1)) (zCons (zC (.int 2)) zNil))))) zNil))) zNil)) (zgName 1) zYes (zCall z__law_pick zNoX (zCons (zVar 0) (zCons (zLst false (zCons (zC (.str "rest")) (zCons (zC (.str "rest")) (zCons (zC (.str "skip")) zNil)))) zNil))) [1]))
def z__law_gap : ZSp := fun ds M Q E => match ds with
  | [a0] => zFn false zb__law_gap [some a0, none] M Q E
  | _ => False
def zb__law_cuts (zE : ZW) : ZS := (zSeq (zAsg (zLst true zNil) (zgName 2))
  (zSeq (zWhile (zB (z2 dNe (zVar 1) (zLst false zNil))) (zSeq (zAsg (zCall z1__law_pick zE (zCons (zVar 0) (zCons (zLst false (zCons (zC (.int 0)) (zCons (zC (.int 1)) (zCons (zC (.int 2)) (zCons (zC (.int 3)) (zCons (zC (.int 7)) (zCons (zC (.int 10)) (zCons (zC (.int 11)) (zCons (zC (.int 30)) zNil))))))))) zNil))) (zgName 3))
  (zSeq (zDrop (zM "list" dApp (zVar 2) (zCons (zSl false (zVar 1) zNoPart (zPart (zVar 3))) zNil)))
  (zAsg (zSl false (zVar 1) (zPart (zVar 3)) zNoPart) (zgName 1)))))
  (zRet (z2 (dAdd false) (zVar 2) (zLst false (zCons (zLst false zNil) zNil))))))
def z0__law_cuts : ZSp := fun ds M Q E => match ds with
  | [a0, a1] => zFn true zb__law_cuts [some a0, some a1, none, none] M Q E
  | _ => False
def z__law_cuts : ZSp := fun ds M Q _ => match ds with
  | [.ref t, .lst bs] => M t = some .town ∧ bs.length ≤ 440 ∧ bs.all flatD = true ∧ ∀ ps : List (List D), ps.flatten = bs → Q (.lst (ps.map D.lst ++ [.lst []])) M
  | _ => False
def zb_Reader_found (zE : ZW) : ZS := (zSeq (zAsg (zLst true zNil) (zgName 1))
  (zSeq (zIf (zAnd (zB (z2 dInT (zCB dTuple (zCons (zFld "Reader" "last" (zVar 0)) zNil)) (zC (.tup c_SIGNS)))) (zOr (zB (z2 dIs (zFld "Reader" "part" (zVar 0)) (zC .non))) (zB (z2 dNe (zCB dLen (zCons (zFld "Reader" "part" (zVar 0)) zNil)) (zCB dLen (zCons (zFld "Reader" "last" (zVar 0)) zNil)))))) (zSeq (zIf (zB (z2 dIsNot (zFld "Reader" "part" (zVar 0)) (zC .non))) (zDrop (zM "list" dApp (zVar 1) (zCons (zC (.str "lost")) zNil)))
  zNext)
  (zSeq (zSetA "Reader" "part" (zVar 0) (zCB (dList true) (zCons (zFld "Reader" "last" (zVar 0)) zNil)))
  (zSetA "Reader" "poise" (zVar 0) (zC .non))))
  zNext)
  (zSeq (zIf (zAnd (zB (z2 dIsNot (zFld "Reader" "part" (zVar 0)) (zC .non))) (zB (z2 dEq (zCB dLen (zCons (zFld "Reader" "part" (zVar 0)) zNil)) (zC (.int 10))))) (zSeq (zAsg (zCall z_word_of zE (zCons (zFld "Reader" "part" (zVar 0)) zNil)) (zgName 2))
  (zSeq (zSetA "Reader" "part" (zVar 0) (zLst true zNil))
  (zDrop (zM "list" dExt (zVar 1) (zCons (zMeth "Reader" "heard" z_Reader_heard zE (zVar 0) (zCons (zVar 2) zNil)) zNil)))))
  zNext)
  (zRet (zVar 1)))))
def z_Reader_found : ZSp := fun ds M Q E => match ds with
  | [a0] => zFn true zb_Reader_found [some a0, none, none] M Q E
  | _ => False
def zb_Taker_take (zE : ZW) : ZS := (zSeq (zIf (zOr (zNot (zB (z1 (dIsi "list") (zVar 1)))) (zNot (zB (zCB dAll (zCons (zLc false (ziList (zVar 1)) (zgName 3) zYes (zOrV (z2 dEq (zVar 3) (zC (.str "lost"))) (zCall z_is_item zNoX (zCons (zVar 3) zNil))) [3]) zNil))))) (zRaise zE "BadItem")
  zNext)
  (zSeq (zAsg (zLst true zNil) (zgName 2))
  (zSeq (zFor (ziList (zVar 1)) (zgName 3) (zDrop (zM "list" dExt (zVar 2) (zCons (zMeth "Taker" "took" z_Taker_took zE (zVar 0) (zCons (zVar 3) zNil)) zNil))))
  (zRet (zVar 2)))))
def z_Taker_take : ZSp := fun ds M Q E => match ds with
  | [a0, a1] => zFn true zb_Taker_take [some a0, some a1, none, none] M Q E
  | _ => False
def zb_Reader_hear (zE : ZW) : ZS := (zSeq (zDrop (zCall z_look_bits zE (zCons (zVar 1) zNil)))
  (zSeq (zAsg (zLst true zNil) (zgName 2))
  (zSeq (zFor (ziList (zVar 1)) (zgName 3) (zSeq (zSetA "Reader" "last" (zVar 0) (zSl false (z2 (dAdd false) (zFld "Reader" "last" (zVar 0)) (zLst false (zCons (zVar 3) zNil))) (zPart (z2 dSub (zC (.int 0)) (zCB dLen (zCons (z2 dIx (zC (.tup c_SIGNS)) (zC (.int 0))) zNil)))) zNoPart))
  (zSeq (zIf (zB (z2 dIsNot (zFld "Reader" "part" (zVar 0)) (zC .non))) (zDrop (zM "list" dApp (zFld "Reader" "part" (zVar 0)) (zCons (zVar 3) zNil)))
  zNext)
  (zDrop (zM "list" dExt (zVar 2) (zCons (zMeth "Reader" "found" z_Reader_found zE (zVar 0) zNil) zNil))))))
  (zRet (zVar 2)))))
def z_Reader_hear : ZSp := fun ds M Q E => match ds with
  | [a0, a1] => zFn true zb_Reader_hear [some a0, some a1, none, none] M Q E
  | _ => False
def zb_Ear_hear (zE : ZW) : ZS := (zRet (zMeth "Taker" "take" z_Taker_take zE (zFld "Ear" "taker" (zVar 0)) (zCons (zMeth "Reader" "hear" z_Reader_hear zE (zFld "Ear" "reader" (zVar 0)) (zCons (zVar 1) zNil)) zNil)))
def z_Ear_hear : ZSp := fun ds M Q E => match ds with
  | [a0, a1] => zFn false zb_Ear_hear [some a0, some a1] M Q E
  | _ => False
def zb_law (zE : ZW) : ZS := (zSeq (zAsg (zCall z__law_town zE (zCons (zVar 0) zNil)) (zgName 1))
  (zSeq (zAsg (zCall z__law_gap zE (zCons (zVar 1) zNil)) (zgName 2))
  (zSeq (zAsg (zLst true zNil) (zgName 3))
  (zSeq (zFor (ziRange (zCons (z2 (dAdd false) (zC (.int 1)) (zCall z__law_draw zE (zCons (zVar 1) (zCons (zC (.int 3)) zNil)))) zNil)) (zgName 4) (zSeq (zDrop (zM "list" dApp (zVar 3) (zCons (zCall z__law_row zE (zCons (zVar 1) (zCons (zC (.int 5)) zNil))) zNil)))
  (zSeq (zAsg (zCall z__law_frame zE (zCons (z2 dIx (zVar 3) (z1 dNeg (zC (.int 1)))) zNil)) (zgName 5))
  (zSeq (zAsg (z2 (dAdd false) (zC (.int 1)) (zCall z__law_draw zE (zCons (zVar 1) (zCons (z2 dSub (zCB dLen (zCons (zVar 5) zNil)) (zC (.int 1))) zNil)))) (zgName 6))
  (zAsg (z2 (dAdd false) (z2 (dAdd false) (z2 (dAdd false) (z2 (dAdd false) (zVar 2) (zSl false (zVar 5) zNoPart (zPart (zVar 6)))) (z2 (dMul false) (zLst false (zCons (zC (.str "skip")) zNil)) (zCall z__law_pick zE (zCons (zVar 1) (zCons (zLst false (zCons (zC (.int 0)) (zCons (zC (.int 0)) (zCons (zC (.int 1)) (zCons (zC (.int 2)) zNil))))) zNil))))) (zSl false (zVar 5) (zPart (zVar 6)) zNoPart)) (zCall z__law_gap zE (zCons (zVar 1) zNil))) (zgName 2))))))
  (zSeq (zAsg (z2 dIx (zCall z__law_sent zE (zCons (zVar 2) (zCons (zCall z__law_pick zE (zCons (zVar 1) (zCons (zLst false (zCons (zC (.int 1)) (zCons (z2 dSub (zC (.int 0)) (zC (.int 1))) zNil))) zNil))) zNil))) (zC (.int 0))) (zgName 7))
  (zSeq (zAsg (zMake "Ear" z_Ear___init__ zE zNil) (zgName 8))
  (zSeq (zAsg (zLst false zNil) (zgName 9))
  (zSeq (zFor (ziList (zCall z__law_cuts zE (zCons (zVar 1) (zCons (zVar 7) zNil)))) (zgName 10) (zSeq (zAsg (zMeth "Ear" "hear" z_Ear_hear zE (zVar 8) (zCons (zVar 10) zNil)) (zgName 11))
  (zSeq (zAsg (z2 (dAdd false) (zVar 9) (zVar 11)) (zgName 9))
  (zDrop (zM "list" dApp (zVar 11) (zCons (zC (.str "late")) zNil))))))
  (zSeq (zIf (zOr (zB (z2 dIsNot (zMeth "Ear" "in_step" z_Ear_in_step zE (zVar 8) zNil) (zC (.bl true)))) (zB (z2 dNe (zLc false (ziList (zVar 9)) (zgName 14) (zNot (zB (z1 (dIsi "tuple") (zVar 14)))) (zVar 14) [14]) (zLst false zNil)))) (zRet (zC (.bl false)))
  zNext)
  (zSeq (zIf (zB (z2 dNe (zVar 9) (zLc false (ziList (zVar 3)) (zgName 13) zYes (zTup (zCons (zC (.str "frame")) (zCons (zVar 13) zNil))) [13]))) (zRet (zC (.bl false)))
  zNext)
  (zSeq (zFor (ziList (zVar 9)) (zgTup 2 (zgCons (zgName 12) (zgCons (zgName 13) zgNil))) (zDrop (zM "list" dApp (zVar 13) (zCons (zC (.int 0)) zNil))))
  (zRet (z2 dEq (zMeth "Ear" "hear" z_Ear_hear zE (zMake "Ear" z_Ear___init__ zE zNil) (zCons (zVar 7) zNil)) (zLc false (ziList (zVar 3)) (zgName 13) zYes (zTup (zCons (zC (.str "frame")) (zCons (zVar 13) zNil))) [13]))))))))))))))
def z_law : ZSp := fun ds M Q E => match ds with
  | [a0] => zFn true zb_law [some a0, none, none, none, none, none, none, none, none, none, none, none, none, none, none] M Q E
  | _ => False
local macro_rules | `(tactic| walk_at "zs") => `(tactic| first | (with_reducible apply i_seq) | (with_reducible apply i_2) | (with_reducible apply i_1) | (with_reducible apply i_c) | (with_reducible apply i_asg) | (with_reducible apply i_cons) | (with_reducible apply i_nil) | (with_reducible apply i_if) | (with_reducible apply i_ret) | (with_reducible apply i_B) | (with_reducible apply i_onBl) | (with_reducible apply i_drop) | (with_reducible apply i_call) | (with_reducible apply i_cb) | (with_reducible apply i_sub) | (with_reducible apply i_addI) | (with_reducible apply i_andV) | (with_reducible apply i_orV) | (with_reducible apply i_notV) | (with_reducible apply i_and) | (with_reducible apply i_or) | (with_reducible apply i_not) | (with_reducible apply i_ifE) | (with_reducible apply i_chain) | (with_reducible apply i_bT) | (with_reducible apply i_bF) | (with_reducible apply i_lt) | (with_reducible apply i_le) | (with_reducible apply i_gt) | (with_reducible apply i_ge) | (with_reducible apply i_neg) | (with_reducible apply i_newF) | (with_reducible apply i_tup) | (with_reducible apply i_lst) | (with_reducible apply i_isN) | (with_reducible apply i_isNotN) | (with_reducible apply i_lenIs) | (with_reducible apply i_lenL) | (with_reducible apply i_lenT) | (with_reducible apply i_lenS) | (with_reducible apply i_sl) | (with_reducible apply i_part) | (with_reducible apply i_nopart) | (with_reducible apply i_onInt) | (with_reducible apply i_slL) | (with_reducible apply i_for) | (with_reducible apply i_m) | (with_reducible apply i_raise) | (with_reducible apply i_rt0) | (with_reducible apply i_nx0) | (with_reducible apply i_ex0) | (with_reducible apply i_next) | (with_reducible apply i_retN) | (with_reducible apply i_band) | (with_reducible apply i_bxor) | (with_reducible apply i_max2) | (with_reducible apply i_min2) | (with_reducible apply i_listL) | (with_reducible apply i_listT) | (with_reducible apply i_abs) | (with_reducible apply i_gcons) | (with_reducible apply i_gnil) | (with_reducible apply i_isB) | (with_reducible apply i_isNotB) | (with_reducible apply i_slS) | (with_reducible apply i_gsub) | (with_reducible apply i_lc) | (with_reducible apply i_lcS) | (with_reducible apply i_yes) | (with_reducible apply i_iLl) | (with_reducible apply i_onL) | (with_reducible apply i_range) | (with_reducible apply i_range2) | (with_reducible apply i_onI1) | (with_reducible apply i_onI2) | (with_reducible apply i_iT) | (with_reducible apply i_onT) | (with_reducible apply i_iS) | (with_reducible apply i_onS) | (with_reducible apply i_par2) | (with_reducible apply i_on2) | (with_reducible apply i_ck0) | (with_reducible apply i_step) | (with_reducible apply i_exG) | (with_reducible apply i_nxG) | (with_reducible apply i_sumL) | (with_reducible apply i_eqII) | (with_reducible apply i_neII) | (with_reducible apply i_eqSS) | (with_reducible apply i_neSS) | (with_reducible apply i_eqIS) | (with_reducible apply i_neIS) | (with_reducible apply i_bN) | (with_reducible apply i_fld) | (with_reducible apply i_setA) | (with_reducible apply i_meth) | (with_reducible apply i_make) | (with_reducible apply i_try) | (with_reducible apply i_dct) | (with_reducible apply i_rev) | (with_reducible apply i_zLl) | (with_reducible apply i_slStep) | (with_reducible apply i_lrg1) | (with_reducible apply i_lrg2) | (with_reducible apply i_callD) | (with_reducible apply i_lenO) | (with_reducible apply i_callK) | (with_reducible apply i_makeD0) | (with_reducible apply i_makeK0) | ((with_reducible apply i_name); (try dsimp only [st, zwipe])) | ((with_reducible apply i_pair); (try dsimp only [st, zwipe])) | ((with_reducible apply i_var); rfl) | ((with_reducible apply i_isi); (first | rfl | exact tyD_ref mup_same)) | ((with_reducible apply i_gtup); rfl) | ((with_reducible apply i_beT); rfl) | ((with_reducible apply i_beF); rfl) | ((with_reducible apply i_sz); exact Nat.le_of_ble_eq_true rfl) | ((with_reducible apply i_inT); rfl; rfl) | ((with_reducible apply i_rg); (first | decide | omega); (first | decide | omega)) | ((with_reducible apply i_ty); (first | rfl | exact tyD_ref mup_same | exact tyD_ref (by assumption))) | ((with_reducible apply i_onIns); walk_at "m") | ((with_reducible apply i_onFd); rfl) | ((with_reducible apply i_f1000); exact of_decide_eq_true rfl) | ((with_reducible apply i_lkN); rfl) | ((with_reducible apply i_isx); rfl) | ((with_reducible apply i_tryx); rfl; rfl) | ((with_reducible apply i_bdT); (first | omega | decide)) | ((with_reducible apply i_bdF); (first | omega | decide)) | ((with_reducible apply i_mod); (first | decide | omega)) | ((with_reducible apply i_div); exact ⟨by first | decide | omega, by first | decide | omega⟩) | ((with_reducible apply i_mulI); (first | exact .inl (by decide) | exact .inr (by decide) | exact .inl (by omega) | exact .inr (by omega))) | ((with_reducible apply i_shr); (first | decide | omega)) | ((with_reducible apply i_ixT); rfl) | ((with_reducible apply i_ixL); rfl) | ((with_reducible apply i_enum); rfl) | ((with_reducible apply i_divmod); exact ⟨by first | decide | omega, by first | decide | omega⟩))
local macro_rules | `(tactic| walk_at "m") => `(tactic| (first | exact mup_same | assumption | (refine mup_get (by assumption) ?_; walk_at "m") | (refine (mup_ne (by first | assumption | (apply Ne.symm; assumption))).trans ?_; walk_at "m")))
local macro_rules | `(tactic| walk_at "sz") => `(tactic| (rw [sizeLine_eq]; (try simp only [List.length_append, List.length_map, List.length_cons, List.length_nil, List.length_take, List.length_drop]); omega))
local macro_rules | `(tactic| walk_at "ys") => `(tactic| first | walk_at "zs" | ((with_reducible apply i_lenRs); walk_at "m") | ((with_reducible apply i_lenR); walk_at "m") | ((with_reducible apply i_listR); walk_at "m") | ((with_reducible apply i_slR); walk_at "m") | ((with_reducible apply i_onR); walk_at "m") | ((with_reducible apply i_app); (walk_at "m"); (walk_at "sz")) | ((with_reducible apply i_ext); (walk_at "m"); (walk_at "sz")) | ((with_reducible apply i_addL); walk_at "sz") | ((with_reducible apply i_addLR); (walk_at "m"); (walk_at "sz")) | ((with_reducible apply i_addRL); (walk_at "m"); (walk_at "sz")) | ((with_reducible apply i_sz); walk_at "sz") | ((with_reducible apply i_ixR); (walk_at "m"); rfl) | ((with_reducible apply i_ty); exact tyD_ref (by walk_at "m")) | ((with_reducible apply i_isi); exact tyD_ref (by walk_at "m")))
local macro_rules | `(tactic| walk_at "y") => `(tactic| repeat walk_at "ys")
local macro_rules | `(tactic| walk_at "z") => `(tactic| repeat walk_at "zs")

-- needs: _law_draw
theorem div_log2 {c n : Int} (hc : 0 ≤ c) (hn : 0 < n) : (c / n).natAbs.log2 ≤ c.natAbs.log2 := by
  have h1 : (c / n).natAbs ≤ c.natAbs := by
    have a := Int.ediv_nonneg hc (by omega : 0 ≤ n)
    have b := Int.ediv_le_self n hc
    omega
  by_cases h0 : (c / n).natAbs = 0
  · rw [h0]; exact Nat.zero_le _
  · have h2 : c.natAbs ≠ 0 := by omega
    exact (Nat.le_log2 h2).mpr (Nat.le_trans (Nat.log2_self_le h0) h1)
theorem sum_set_le {l : List Int} {j : Nat} {x : Int} (f : Int → Nat) (hj : j < l.length) (h : f x ≤ f l[j]) : ((l.set j x).map f).sum ≤ (l.map f).sum := by
  induction l generalizing j with
  | nil => simp at hj
  | cons a l ih =>
    cases j with
    | zero => simp at h ⊢; exact h
    | succ j =>
      have := ih (j := j) (by simpa using hj) (by simpa using h)
      rw [List.set_cons_succ, List.map_cons, List.map_cons, List.sum_cons, List.sum_cons]; omega
theorem cellsOk_set {l : List Int} {j : Nat} {x : Int} (h : cellsOk l) (hj : j < l.length) (hx : x.natAbs.log2 ≤ (l[j]).natAbs.log2) : cellsOk (l.set j x) := ⟨by rw [List.length_set]; exact h.1, Nat.le_trans (sum_set_le (fun x : Int => x.natAbs.log2) hj hx) h.2⟩
theorem plains_ints : ∀ ns : List Int, plains (ns.map D.int) = true
  | [] => by simp [plains]
  | n :: r => by simp [plains, Zl.plain, plains_ints r]
theorem tOpen_t {M : Mh} {t c : Addr} {n : Int} {cells : List Int} : tOpen M t c n cells t = some (.lst [.ref c, .int n]) := mup_same
theorem tOpen_c {M : Mh} {t c : Addr} {n : Int} {cells : List Int} (h : c ≠ t) : tOpen M t c n cells c = some (.lst (cells.map D.int)) := by
  unfold tOpen; rw [mup_ne h]; exact mup_same
theorem tOpen_n {M : Mh} {t c : Addr} {n m : Int} {cells : List Int} : mup (tOpen M t c n cells) t (.lst [.ref c, .int m]) = tOpen M t c m cells := mup_mup
theorem tOpen_k {M : Mh} {t c : Addr} {n : Int} {cells cs : List Int} (h : c ≠ t) : mup (tOpen M t c n cells) c (.lst (cs.map D.int)) = tOpen M t c n cs := by
  funext b
  unfold tOpen mup
  by_cases e : b = c
  · subst e; simp [h]
  · simp [e]
theorem draw0 {M : Mh} {t c : Addr} {cells : List Int} {n m : Int} {Q : QZ} {E : ZX} (T : TownOk M t c cells) (h0 : 0 < n) (h1 : n < 1073741824)
    (k : ∀ (k m : Int) (cs : List Int), 0 ≤ k → k < n → cs ≠ [] → cellsOk cs → Q (.int k) (tOpen M t c m cs)) : z0__law_draw [.ref t, .int n] (tOpen M t c m cells) Q E := by
  have ct := T.ct
  have lp : 0 < cells.length := List.length_pos_iff.mpr T.ne
  obtain ⟨j, hj, ej⟩ : ∃ j : Nat, j < cells.length ∧ (m + 1) % (cells.length : Int) = (j : Int) := by
    have a := Int.emod_nonneg (m + 1) (show (cells.length : Int) ≠ 0 by omega)
    have b := Int.emod_lt_of_pos (m + 1) (show (0 : Int) < cells.length by omega)
    exact ⟨((m + 1) % (cells.length : Int)).toNat, by omega, by omega⟩
  show zFn true zb__law_draw _ _ _ _
  unfold zFn zb__law_draw
  walk_at "z"
  refine i_ixR tOpen_t (d := .ref c) (by rfl) ?_
  walk_at "z"
  refine i_ixR tOpen_t (d := .int m) (by rfl) ?_
  walk_at "z"
  refine i_set tOpen_t (j := 1) (by rfl) ?_
  dsimp only [List.set]
  rw [tOpen_n]
  walk_at "z"
  refine i_ixR tOpen_t (d := .int (m + 1)) (by rfl) ?_
  walk_at "z"
  refine i_lenR (tOpen_c ct) ?_
  rw [List.length_map]
  refine i_mod (by omega) ?_
  rw [ej]
  walk_at "z"
  have hat : atI (cells.map D.int) (j : Int) = some (.int cells[j]) := atI_nat (by rw [List.getElem?_map, List.getElem?_eq_getElem hj]; rfl)
  have hix : ixN (cells.map D.int).length (j : Int) = some j := by
    unfold ixN
    rw [List.length_map, if_pos (by omega), if_pos (by omega)]; simp
  refine i_ixR (tOpen_c ct) hat ?_
  walk_at "z"
  refine i_bd (fun hc => ?_) (fun hc => ?_)
  · walk_at "z"
    refine i_set (tOpen_c ct) hix ?_
    rw [show (cells.map D.int).set j (.int (cells[j] / n)) = (cells.set j (cells[j] / n)).map D.int by rw [List.map_set], tOpen_k ct]
    walk_at "z"
    exact i_rtG (k _ _ _ (Int.emod_nonneg _ (by omega)) (Int.emod_lt_of_pos _ h0) (fun z => by
      have := congrArg List.length z
      rw [List.length_set] at this
      exact absurd this (by simp; exact T.ne)) (cellsOk_set T.len hj (div_log2 (by omega) h0)))
  · walk_at "z"
    refine i_ixR tOpen_t (d := .int (m + 1)) (by rfl) ?_
    walk_at "z"
    have b1 := Int.emod_nonneg (cells[j] + 104729 * (m + 1)) (show (4294967291 : Int) ≠ 0 by decide)
    have b2 := Int.emod_lt_of_pos (cells[j] + 104729 * (m + 1)) (show (0 : Int) < 4294967291 by decide)
    refine i_pow ⟨by decide, by decide, ?_⟩ ?_
    · generalize (cells[j] + 104729 * (m + 1)) % 4294967291 = q at *
      omega
    walk_at "z"
    exact i_rtG (k _ _ _ (Int.emod_nonneg _ (by omega)) (Int.emod_lt_of_pos _ h0) T.ne T.len)

/-- is_whole's answer -/
def iw (d : D) (lo hi : Int) : Bool := match d with
  | .int i => decide (lo ≤ i) && decide (i ≤ hi)
  | _ => false
/-- a thing whose kind is known -/
def known (M : Mh) (d : D) : Prop := ∃ t, tyD M d = some t
theorem known_int {M : Mh} (i : Int) : known M (.int i) := ⟨_, rfl⟩
theorem known_str {M : Mh} (i : Str) : known M (.str i) := ⟨_, rfl⟩
theorem known_lst {M : Mh} (i : List D) : known M (.lst i) := ⟨_, rfl⟩
theorem i_eqT {M : Mh} {Q : QZ} {x y : D} (hx : Pl 64 x) (hy : Pl 64 y) (e : eqD x y = true) (q : Q (.bl true) M) : dEq x y M Q := i_eq hx hy (by rw [e]; exact q)
theorem i_neF {M : Mh} {Q : QZ} {x y : D} (hx : Pl 64 x) (hy : Pl 64 y) (e : eqD x y = true) (q : Q (.bl false) M) : dNe x y M Q := i_ne hx hy (by rw [e]; exact q)
theorem i_eqF {M : Mh} {Q : QZ} {x y : D} (hx : Pl 64 x) (hy : Pl 64 y) (e : eqD x y = false) (q : Q (.bl false) M) : dEq x y M Q := i_eq hx hy (by rw [e]; exact q)
theorem i_neT {M : Mh} {Q : QZ} {x y : D} (hx : Pl 64 x) (hy : Pl 64 y) (e : eqD x y = false) (q : Q (.bl true) M) : dNe x y M Q := i_ne hx hy (by rw [e]; exact q)
theorem i_neFR {M : Mh} {Q : QZ} {y : D} {xs : List D} {p : Addr} (e : M p = some (.lst xs)) (hx : Pl 64 (.lst xs)) (hy : Pl 64 y) (e2 : eqD (.lst xs) y = true) (q : Q (.bl false) M) : dNe (.ref p) y M Q := i_neR e hx hy (by rw [e2]; exact q)
theorem eqDs_refl_ints : ∀ ns : List Int, eqDs (ns.map D.int) (ns.map D.int) = true
  | [] => rfl
  | n :: r => by simp [eqDs_refl_ints r]
theorem eqD_int_of {i j : Int} (h : i = j) : eqD (.int i) (.int j) = true := by simp [h]
theorem eqD_ints_of {ns ms : List Int} (h : ns = ms) : eqD (.lst (ns.map D.int)) (.lst (ms.map D.int)) = true := by subst h; exact eqDs_refl_ints ns
theorem i_neI {M : Mh} {Q : QZ} {i j : Int} (e : i = j) (q : Q (.bl false) M) : dNe (.int i) (.int j) M Q := i_neF (.int _ _) (.int _ _) (eqD_int_of e) q
theorem i_eqI {M : Mh} {Q : QZ} {i j : Int} (e : i = j) (q : Q (.bl true) M) : dEq (.int i) (.int j) M Q := i_eqT (.int _ _) (.int _ _) (eqD_int_of e) q
theorem i_neIs {M : Mh} {Q : QZ} {ns ms : List Int} (e : ns = ms) (q : Q (.bl false) M) : dNe (.lst (ns.map D.int)) (.lst (ms.map D.int)) M Q := i_neF (.ints _) (.ints _) (eqD_ints_of e) q
theorem i_eqIs {M : Mh} {Q : QZ} {ns ms : List Int} (e : ns = ms) (q : Q (.bl true) M) : dEq (.lst (ns.map D.int)) (.lst (ms.map D.int)) M Q := i_eqT (.ints _) (.ints _) (eqD_ints_of e) q
theorem i_idx {M : Mh} {Q : QZ} {y : D} {l : List D} {j : Nat} (h1 : flatD y = true) (h2 : l.all flatD = true) (h3 : idxD y l = some j) (q : Q (.int (j : Nat)) M) : dIndex (.lst l) [y] M Q := by
  show flatD y = true ∧ l.all flatD = true ∧ (match idxD y l with | some j => Q (.int (j : Nat)) M | none => False)
  rw [h3]; exact ⟨h1, h2, q⟩
theorem i_tixV {r : Zl.Env} {M : Mh} {Q : QZ} {y : D} {ds : List D} {n j : Nat} (h : gt r n = some y) (h1 : flatD y = true) (h3 : idxD y ds = some j) (q : Q (.int (j : Nat)) M) : zTIx ds (zCons (zVar n) zNil) r M Q := by
  refine i_tix (i_cons (i_var h (i_nil ?_)))
  show flatD y = true ∧ (match idxD y ds with | some j => Q (.int (j : Nat)) M | none => False)
  rw [h3]; exact ⟨h1, q⟩
def knowns (M : Mh) (ds : List D) : Prop := ∀ d ∈ ds, known M d
theorem knowns_ints {M : Mh} (ns : List Int) : knowns M (ns.map D.int) := fun d hd => by
  obtain ⟨i, _, rfl⟩ := List.mem_map.mp hd
  exact known_int i
/-- the ten bits of a word -/
def ten (w : Int) : List Int := [512, 256, 128, 64, 32, 16, 8, 4, 2, 1].map fun b => w / b % 2
theorem iw_int {i lo hi : Int} : iw (.int i) lo hi = (decide (lo ≤ i) && decide (i ≤ hi)) := rfl
theorem iw_true {i lo hi : Int} (h1 : lo ≤ i) (h2 : i ≤ hi) : iw (.int i) lo hi = true := by simp [iw, h1, h2]
def wordOf (ns : List Int) : Int := ns.foldl (fun a b => 2 * a + b) 0
def bitL (ns : List Int) : Prop := ∀ n ∈ ns, n = 0 ∨ n = 1
theorem ten_bits (w : Int) : bitL (ten w) := fun n hn => by
  obtain ⟨b, _, rfl⟩ := List.mem_map.mp hn
  omega
theorem ten_len (w : Int) : (ten w).length = 10 := rfl
/-! loops and comprehensions over what is known -/
theorem zLoop_map {α : Type} {f : α → D} {c : Ck} {step : D → (Zl.Env → Mh → Prop) → Zl.Env → Mh → Prop} {nx : Zl.Env → Mh → Prop} (P : List α → Zl.Env → Mh → Prop) (hd : ∀ r M, P [] r M → zck c M (nx r M))
    (hs : ∀ a l r M (k : Zl.Env → Mh → Prop), P (a :: l) r M → (∀ r' M', P l r' M' → k r' M') → zck c M (step (f a) k r M)) :
    ∀ {as : List α} {r : Zl.Env} {M : Mh}, P as r M → zLoop c step nx (as.map f) r M
  | [], r, M, h => hd r M h
  | a :: l, r, M, h => hs a l r M _ h fun r' M' h' => zLoop_map P hd hs h'
theorem rangeD_succ (lo : Int) (n : Nat) : rangeD lo 1 (n + 1) = .int lo :: rangeD (lo + 1) 1 n := rfl
theorem zLoop_range0 {step : D → (Zl.Env → Mh → Prop) → Zl.Env → Mh → Prop} {nx : Zl.Env → Mh → Prop} {lo : Int} (P : Nat → Zl.Env → Mh → Prop) (m : Nat) (hd : ∀ r M, P m r M → nx r M)
    (hs : ∀ j r M (k : Zl.Env → Mh → Prop), j < m → P j r M → (∀ r' M', P (j + 1) r' M' → k r' M') → step (.int (lo + (j : Nat))) k r M) :
    ∀ (n i : Nat) {r : Zl.Env} {M : Mh}, i + n = m → P i r M → zLoop none step nx (rangeD (lo + (i : Nat)) 1 n) r M
  | 0, i, r, M, e, h => by
    have e' : i = m := by omega
    subst e'; exact hd r M h
  | n + 1, i, r, M, e, h => by
    rw [rangeD_succ]
    refine hs i r M _ (by omega) h fun r' M' h' => ?_
    have := zLoop_range0 P m hd hs n (i + 1) (by omega) h'
    rw [show (lo + ((i + 1 : Nat) : Int)) = lo + (i : Nat) + 1 by omega] at this
    exact this
/-- a loop over a range, by its index -/
theorem zLoop_range {step : D → (Zl.Env → Mh → Prop) → Zl.Env → Mh → Prop} {nx : Zl.Env → Mh → Prop} {lo : Int} {m : Nat} (P : Nat → Zl.Env → Mh → Prop) (hd : ∀ r M, P m r M → nx r M)
    (hs : ∀ j r M (k : Zl.Env → Mh → Prop), j < m → P j r M → (∀ r' M', P (j + 1) r' M' → k r' M') → step (.int (lo + (j : Nat))) k r M) {r : Zl.Env} {M : Mh} (h : P 0 r M) : zLoop none step nx (rangeD lo 1 m) r M := by
  have := zLoop_range0 P m hd hs m 0 (by omega) h
  rw [show lo + ((0 : Nat) : Int) = lo by omega] at this; exact this
theorem zLcL_mapm {α : Type} {f g : α → D} {step : D → Mh → (Option D → Mh → Prop) → Prop} {k : List D → Mh → Prop} {M : Mh} : ∀ {as : List α} {acc : List D}, (∀ a, a ∈ as → ∀ Q : Option D → Mh → Prop, Q (some (g a)) M → step (f a) M Q) → k (acc ++ as.map g) M → zLcL none step k (as.map f) acc M
  | [], acc, _, h => by
    show k acc M
    simpa using h
  | a :: l, acc, hs, h => by
    show step (f a) M _
    refine hs a List.mem_cons_self _ ?_
    show zLcL none step k (l.map f) (acc ++ [g a]) M
    exact zLcL_mapm (fun e he => hs e (List.mem_cons_of_mem _ he)) (by simpa using h)
theorem zLcL_filterm {α : Type} {f g : α → D} {p : α → Bool} {step : D → Mh → (Option D → Mh → Prop) → Prop} {k : List D → Mh → Prop} {M : Mh} : ∀ {as : List α} {acc : List D}, (∀ a, a ∈ as → ∀ Q : Option D → Mh → Prop, (p a = true → Q (some (g a)) M) → (p a = false → Q none M) → step (f a) M Q) → k (acc ++ (as.filter p).map g) M → zLcL none step k (as.map f) acc M
  | [], acc, _, h => by
    show k acc M
    simpa using h
  | a :: l, acc, hs, h => by
    show step (f a) M _
    refine hs a List.mem_cons_self _ (fun hp => ?_) (fun hp => ?_)
    · show zLcL none step k (l.map f) (acc ++ [g a]) M
      exact zLcL_filterm (fun e he => hs e (List.mem_cons_of_mem _ he)) (by simpa [List.filter_cons, hp] using h)
    · show zLcL none step k (l.map f) acc M
      exact zLcL_filterm (fun e he => hs e (List.mem_cons_of_mem _ he)) (by simpa [List.filter_cons, hp] using h)
theorem rangeD_mapI (n : Nat) : rangeD 0 1 n = (List.range n).map fun (k : Nat) => D.int (k : Nat) := by
  rw [rangeD_map]; apply List.map_congr_left; intro k _; rw [Int.zero_add]
theorem atI_ints {ns : List Int} {k : Nat} (h : k < ns.length) : atI (ns.map D.int) (k : Int) = some (.int ns[k]) := atI_nat (by rw [List.getElem?_map, List.getElem?_eq_getElem h]; rfl)
/-- a while, by a measure that falls -/
theorem zWhile_ind {t : ZT} {tb : ZS} {E : ZEnds} (P : Nat → Zl.Env → Mh → Prop) (hs : ∀ n r M (k : Zl.Env → Mh → Prop), P n r M → (∀ m r' M', m < n → P m r' M' → k r' M') → t r M fun b M1 => bsel b (tb { nx := k, rt := E.rt, bk := E.nx, ct := k } r M1) (E.nx r M1)) {r : Zl.Env} {M : Mh} (n : Nat) (h : P n r M) : zWhile t tb E r M := by
  have up : ∀ (f n : Nat) (r : Zl.Env) (M : Mh), n < f → P n r M → zWhileN t tb E f r M := by
    intro f
    induction f with
    | zero => intro n r M h; omega
    | succ f ih =>
      intro n r M h hp
      exact hs n r M (zWhileN t tb E f) hp fun m r' M' hm h' => ih m r' M' (by omega) h'
  exact ⟨n + 1, up (n + 1) n r M (by omega) h⟩
theorem cutD_to (ds : List D) (k : Nat) : cutD ds none (some (k : Int)) = ds.take k := by
  unfold cutD
  rw [HT.sIx_none, HT.sIx_nat, List.drop_zero, Nat.sub_zero]
  by_cases h : k ≤ ds.length
  · rw [Nat.min_eq_left h]
  · rw [Nat.min_eq_right (by omega), List.take_of_length_le (Nat.le_refl _), List.take_of_length_le (by omega)]
theorem cutD_from (ds : List D) (k : Nat) : cutD ds (some (k : Int)) none = ds.drop k := by
  unfold cutD
  rw [HT.sIx_none, HT.sIx_nat, List.take_of_length_le (by rw [List.length_drop]; omega)]
  by_cases h : k ≤ ds.length
  · rw [Nat.min_eq_left h]
  · rw [Nat.min_eq_right (by omega), List.drop_of_length_le (Nat.le_refl _), List.drop_of_length_le (by omega)]
theorem cutD_mid (ds : List D) (i j : Nat) : cutD ds (some (i : Int)) (some (j : Int)) = (ds.drop i).take (j - i) := by
  unfold cutD
  rw [HT.sIx_nat, HT.sIx_nat]
  by_cases h : i ≤ ds.length
  · rw [Nat.min_eq_left h]
    by_cases h2 : j ≤ ds.length
    · rw [Nat.min_eq_left h2]
    · rw [Nat.min_eq_right (by omega), List.take_of_length_le (by rw [List.length_drop]; omega), List.take_of_length_le (by rw [List.length_drop]; omega)]
  · rw [show min i ds.length = ds.length by omega, List.drop_of_length_le (Nat.le_refl _), List.drop_of_length_le (show ds.length ≤ i by omega), List.take_nil, List.take_nil]
theorem bitL_app {a b : List Int} (h : bitL a) (h' : bitL b) : bitL (a ++ b) := fun n hn => (List.mem_append.mp hn).elim (h n) (h' n)
theorem bitL_take {a : List Int} (h : bitL a) (k : Nat) : bitL (a.take k) := fun n hn => h n (List.mem_of_mem_take hn)
theorem bitL_drop {a : List Int} (h : bitL a) (k : Nat) : bitL (a.drop k) := fun n hn => h n (List.mem_of_mem_drop hn)
theorem ixN_last {acc : List Int} (h : acc ≠ []) : ixN (acc.map D.int).length (-1) = some (acc.length - 1) := by
  have : 0 < acc.length := List.length_pos_iff.mpr h
  unfold ixN
  rw [List.length_map, if_neg (by decide), if_pos (by omega)]
  congr 1; omega
theorem atI_last {acc : List Int} (h : acc ≠ []) : atI (acc.map D.int) (-1) = some (.int (acc.getLastD 0)) := by
  have : 0 < acc.length := List.length_pos_iff.mpr h
  unfold atI
  rw [ixN_last h]
  show (acc.map D.int)[acc.length - 1]? = _
  rw [List.getElem?_map, ← List.getLast?_eq_getElem?, List.getLastD_eq_getLast?]
  cases e : acc.getLast? with
  | none => rw [List.getLast?_eq_none_iff] at e; exact absurd e h
  | some x => rfl
theorem set_last {acc : List Int} {x : Int} (h : acc ≠ []) : (acc.map D.int).set (acc.length - 1) (.int x) = (acc.dropLast ++ [x]).map D.int := by
  have : 0 < acc.length := List.length_pos_iff.mpr h
  rw [← List.map_set]
  congr 1
  obtain ⟨l, y, rfl⟩ : ∃ l y, acc = l ++ [y] := ⟨acc.dropLast, acc.getLast h, (List.dropLast_concat_getLast h).symm⟩
  simp
/-- a statement, by what holds behind it -/
theorem i_seqP {t u : ZS} {E : ZEnds} {r : Zl.Env} {M : Mh} (P : Zl.Env → Mh → Prop) (h1 : ∀ r M, P r M → u E r M) (h2 : ∀ k : Zl.Env → Mh → Prop, (∀ r M, P r M → k r M) → t { nx := k, rt := E.rt, bk := E.bk, ct := E.ct } r M) : zSeq t u E r M := h2 _ h1
theorem rep_ints (x : Int) (n : Nat) : (List.replicate n [D.int x]).flatten = (List.replicate n x).map D.int := by
  induction n with
  | zero => rfl
  | succ n ih => rw [List.replicate_succ, List.flatten_cons, ih]; rfl
theorem i_addIs {M : Mh} {Q : QZ} {a b : List Int} {n : Bool} (h : a.length + b.length ≤ 16777216) (q : zNew n ((a ++ b).map D.int) M Q) : dAdd n (.lst (a.map D.int)) (.lst (b.map D.int)) M Q := i_addL (by rw [List.length_map, List.length_map]; exact h) (by rw [← List.map_append]; exact q)
theorem i_addI1 {M : Mh} {Q : QZ} {a : List Int} {b : Int} {n : Bool} (h : a.length + 1 ≤ 16777216) (q : zNew n ((a ++ [b]).map D.int) M Q) : dAdd n (.lst (a.map D.int)) (.lst [.int b]) M Q := i_addIs (b := [b]) h q
theorem i_mulI1 {M : Mh} {Q : QZ} {x k : Int} {n : Bool} (h0 : 0 ≤ k) (h : k ≤ 16777216) (q : zNew n ((List.replicate k.toNat x).map D.int) M Q) : dMul n (.lst [.int x]) (.int k) M Q := i_mulL (by omega) (by omega) (by show 1 * _ ≤ 2 ^ 24; omega) (by rw [rep_ints]; exact q)
theorem i_rtN2 {R : QZ} {M : Mh} {p : Addr} {ds : List D} {x : Int} (hp : M p = none) (h : R (.tup [.lst ds, .int x]) M) : (enB true R).rt (.tup [.ref p, .int x]) (mup M p (.lst ds)) :=
  ⟨_, _, .frz (p := p) mup_same, by rw [mdel_mup hp]; simpa [frzD, frzDs] using h⟩
theorem zck_at {M : Mh} {p : Addr} {ds : List D} (e : M p = some (.lst ds)) : ∀ P : Prop, P → zck (some (p, ds)) M P := fun _ h => ⟨e, h⟩
/-- a comprehension over what may change, but doesn't here -/
theorem zLcL_filterc {c : Ck} {step : D → Mh → (Option D → Mh → Prop) → Prop} {k : List D → Mh → Prop} {M : Mh} (hc : ∀ P : Prop, P → zck c M P) (p : D → Bool) (f : D → D) : ∀ {ds acc : List D}, (∀ d, d ∈ ds → ∀ Q : Option D → Mh → Prop, (p d = true → Q (some (f d)) M) → (p d = false → Q none M) → step d M Q) → k (acc ++ (ds.filter p).map f) M → zLcL c step k ds acc M
  | [], acc, _, h => by
    refine hc _ ?_
    simpa using h
  | d :: l, acc, hs, h => by
    refine hc _ (hs d List.mem_cons_self _ (fun hp => ?_) (fun hp => ?_))
    · show zLcL c step k l (acc ++ [f d]) M
      exact zLcL_filterc hc p f (fun e he => hs e (List.mem_cons_of_mem _ he)) (by simpa [List.filter_cons, hp] using h)
    · show zLcL c step k l acc M
      exact zLcL_filterc hc p f (fun e he => hs e (List.mem_cons_of_mem _ he)) (by simpa [List.filter_cons, hp] using h)
/-- a changing list is left as it stands -/
theorem i_ghF {t : ZS} {E : ZEnds} {r : Zl.Env} {M : Mh} {p : Addr} {ds : List D} (e : M p = some (.lst ds)) (h : t E (r.map fun o => o.map (frzD p ds)) (mdel M p)) : zGh t E r M := ⟨_, _, .frz e, h⟩
theorem i_gh0 {t : ZS} {E : ZEnds} {r : Zl.Env} {M : Mh} (h : t E r M) : zGh t E r M := ⟨_, _, .refl, h⟩
mutual
/-- no changing thing inside -/
def noRef : D → Bool
  | .lst ds => noRefs ds
  | .tup ds => noRefs ds
  | .ref _ => false
  | _ => true
def noRefs : List D → Bool
  | [] => true
  | d :: r => noRef d && noRefs r
end
mutual
theorem frzD_no {p : Addr} {es : List D} : ∀ {d : D}, noRef d = true → frzD p es d = d
  | .lst ds, h => by unfold frzD; rw [frzDs_no (by simpa [noRef] using h)]
  | .tup ds, h => by unfold frzD; rw [frzDs_no (by simpa [noRef] using h)]
  | .ref a, h => by simp [noRef] at h
  | .non, _ => by simp [frzD]
  | .bl b, _ => by simp [frzD]
  | .int i, _ => by simp [frzD]
  | .str x, _ => by simp [frzD]
  | .dct, _ => by simp [frzD]
  | .exc c, _ => by simp [frzD]
  | .scr ns, _ => by simp [frzD]
theorem frzDs_no {p : Addr} {es : List D} : ∀ {ds : List D}, noRefs ds = true → frzDs p es ds = ds
  | [], _ => by simp [frzDs]
  | d :: r, h => by
    have q := Bool.and_eq_true_iff.mp (show (noRef d && noRefs r) = true by simpa [noRefs] using h)
    unfold frzDs; rw [frzD_no q.1, frzDs_no q.2]
end
theorem noRefs_ints : ∀ ns : List Int, noRefs (ns.map D.int) = true
  | [] => by simp [noRefs]
  | n :: r => by simp [noRefs, noRef, noRefs_ints r]
theorem frz_ints {p : Addr} {es : List D} (ns : List Int) : frzD p es (.lst (ns.map D.int)) = .lst (ns.map D.int) := frzD_no (by unfold noRef; exact noRefs_ints ns)
theorem frz_at {p : Addr} {es : List D} : frzD p es (.ref p) = .lst es := by unfold frzD; rw [if_pos rfl]
theorem frz_other {p a : Addr} {es : List D} (h : a ≠ p) : frzD p es (.ref a) = .ref a := by unfold frzD; rw [if_neg h]
theorem frz_int {p : Addr} {es : List D} (i : Int) : frzD p es (.int i) = .int i := by simp [frzD]
theorem frz_scr {p : Addr} {es : List D} (i : List Int) : frzD p es (.scr i) = .scr i := by simp [frzD]
theorem atI_snoc {ds : List D} {d : D} : atI (ds ++ [d]) (-1) = some d := by
  unfold atI ixN
  rw [List.length_append, if_neg (by decide), if_pos (by simp only [List.length_cons, List.length_nil]; omega)]
  show (ds ++ [d])[_]? = _
  rw [show ((-1 : Int) + ((ds.length + [d].length : Nat) : Int)).toNat = ds.length by simp only [List.length_cons, List.length_nil]; omega]
  simp
theorem ixN_snoc {ds : List D} {d : D} : ixN (ds ++ [d]).length (-1) = some ds.length := by
  unfold ixN
  rw [List.length_append, if_neg (by decide), if_pos (by simp only [List.length_cons, List.length_nil]; omega)]
  congr 1; simp only [List.length_cons, List.length_nil]; omega
theorem set_snoc {ds : List D} {d e : D} : (ds ++ [d]).set ds.length e = ds ++ [e] := by simp
theorem all_flat_ints (ns : List Int) : (ns.map D.int).all flatD = true := by rw [List.all_map]; exact List.all_eq_true.mpr fun _ _ => rfl

theorem l_is_whole {d : D} {lo hi : Int} {M : Mh} {Q : QZ} {E : ZX} (h : known M d) (q : Q (.bl (iw d lo hi)) M) : z_is_whole [d, .int lo, .int hi] M Q E := by
  show zFn false zb_is_whole _ _ _ _
  unfold zFn zb_is_whole
  obtain ⟨t, ht⟩ := h
  cases d with
  | int i =>
    walk_at "z"
    refine i_bd (fun h1 => ?_) (fun h1 => ?_)
    · walk_at "z"
      have e : iw (.int i) lo hi = decide (i ≤ hi) := by simp [iw, h1]
      rw [e] at q; exact q
    · walk_at "z"
      have e : iw (.int i) lo hi = false := by simp [iw, h1]
      rw [e] at q; exact q
  | bl b => walk_at "z"; exact q
  | non => walk_at "z"; exact q
  | str s => walk_at "z"; exact q
  | lst l => walk_at "z"; exact q
  | tup l => walk_at "z"; exact q
  | dct => walk_at "z"; exact q
  | exc c => cases ht
  | scr c => cases ht
  | ref p =>
    have ht' : tyD M (.ref p) = some "list" := by
      have z : (match M p with | some (.lst _) => some "list" | _ => none) = some t := ht
      split at z
      · cases z; exact ht
      · cases z
    walk_at "z"
    refine i_isi ht' ?_
    walk_at "z"
    exact q

/-- whether a thing is a list of bits -/
def isBits (M : Mh) (d : D) : Bool := match d with
  | .lst ds => ds.all fun x => iw x 0 1
  | .ref p => (match M p with | some (.lst ds) => ds.all fun x => iw x 0 1 | _ => false)
  | _ => false
theorem l_look_bits {d : D} {M : Mh} {Q : QZ} {E : ZX} (h : known M d) (hk : ∀ ds, d = .lst ds → knowns M ds) (hr : ∀ p, d ≠ .ref p) (q1 : isBits M d = true → Q .non M) (q2 : isBits M d = false → E "BadBits" [] M) : z_look_bits [d] M Q E := by
  show zFn false zb_look_bits _ _ _ _
  unfold zFn zb_look_bits
  obtain ⟨t, ht⟩ := h
  cases d with
  | lst ds =>
    walk_at "z"
    refine zLcL_map (fun x => .bl (iw x 0 1)) (fun x hx Q hq => ?_) ?_
    · walk_at "z"
      refine l_is_whole (hk ds rfl x hx) ?_
      exact hq
    · walk_at "z"
      refine i_allE (bs := ds.map fun x => iw x 0 1) (by simp [Function.comp_def]) ?_
      walk_at "z"
      have e : (ds.map fun x => iw x 0 1).all id = isBits M (.lst ds) := by
        simp [isBits, List.all_map, Function.comp_def]
      rw [e]
      refine i_b (fun e => ?_) (fun e => ?_)
      · walk_at "z"; exact q1 (by simpa using e)
      · walk_at "z"; exact q2 (by simpa using e)
  | bl b => walk_at "z"; exact q2 rfl
  | non => walk_at "z"; exact q2 rfl
  | int i => walk_at "z"; exact q2 rfl
  | str s => walk_at "z"; exact q2 rfl
  | tup l => walk_at "z"; exact q2 rfl
  | dct => walk_at "z"; exact q2 rfl
  | exc c => cases ht
  | scr c => cases ht
  | ref p => exact absurd rfl (hr p)
theorem isBits_ints {M : Mh} {ns : List Int} (h : bitL ns) : isBits M (.lst (ns.map D.int)) = true := by
  show (ns.map D.int).all _ = true
  rw [List.all_map, List.all_eq_true]
  intro n hn
  rcases h n hn with e | e <;> subst e <;> rfl
/-- look_bits of bits -/
theorem l_look_bits_ok {ns : List Int} {M : Mh} {Q : QZ} {E : ZX} (h : bitL ns) (q : Q .non M) : z_look_bits [.lst (ns.map D.int)] M Q E :=
  l_look_bits (known_lst _) (fun ds e => by cases e; exact knowns_ints ns) (fun p e => by cases e) (fun _ => q) fun e => by rw [isBits_ints h] at e; cases e
def badBits (M : Mh) (d : D) : Prop := known M d ∧ (∀ ds, d = .lst ds → knowns M ds) ∧ (∀ p, d ≠ .ref p) ∧ isBits M d = false
theorem l_look_bits_bad {d : D} {M : Mh} {Q : QZ} {E : ZX} (h : badBits M d) (q : E "BadBits" [] M) : z_look_bits [d] M Q E := by
  obtain ⟨h1, h2, h3, h4⟩ := h
  exact l_look_bits h1 h2 h3 (fun e => by rw [h4] at e; cases e) fun _ => q
theorem badBits_of {M : Mh} {d : D} {t : String} (h1 : tyD M d = some t) (h2 : ∀ ds, d ≠ .lst ds) (h3 : ∀ p, d ≠ .ref p) : badBits M d := by
  refine ⟨⟨_, h1⟩, (fun ds e => absurd e (h2 ds)), h3, ?_⟩
  cases d with
  | lst ds => exact absurd rfl (h2 ds)
  | ref p => exact absurd rfl (h3 p)
  | _ => rfl
theorem l_look_bitsR {p : Addr} {ns : List Int} {M : Mh} {Q : QZ} {E : ZX} (e : M p = some (.lst (ns.map D.int))) (h : bitL ns) (q : Q .non M) : z_look_bits [.ref p] M Q E := by
  show zFn _ zb_look_bits _ _ _ _
  unfold zFn zb_look_bits
  walk_at "y"
  refine zLcL_filterc (zck_at e) (fun _ => true) (fun x => .bl (iw x 0 1)) (fun d hd Q h1 _ => ?_) ?_
  · walk_at "y"
    obtain ⟨i, _, rfl⟩ := List.mem_map.mp hd
    exact l_is_whole (known_int i) (h1 rfl)
  · walk_at "y"
    refine i_allE (bs := ns.map fun x => iw (.int x) 0 1) (by rw [List.filter_eq_self.mpr (fun _ _ => rfl)]; simp [Function.comp_def]) ?_
    walk_at "y"
    rw [show (ns.map fun x => iw (.int x) 0 1).all id = true by
      rw [List.all_map, List.all_eq_true]
      intro n hn
      rcases h n hn with e | e <;> subst e <;> rfl]
    walk_at "y"
    exact q
theorem known_up {M : Mh} {x : Addr} {o : MO} {d : D} (hx : M x = none) (h : known M d) : known (mup M x o) d := by
  obtain ⟨t, ht⟩ := h
  cases d with
  | ref p =>
    have ht : (match M p with | some (.lst _) => some "list" | _ => none) = some t := ht
    cases e : M p with
    | none => rw [e] at ht; cases ht
    | some m =>
      cases m with
      | lst ds => exact ⟨"list", by show (match mup M x o p with | some (.lst _) => some "list" | _ => none) = _; rw [mup_get hx e]⟩
      | ins c fs => rw [e] at ht; cases ht
      | town => rw [e] at ht; cases ht
  | _ => exact ⟨t, ht⟩
theorem badBits.up {M : Mh} {x : Addr} {o : MO} {d : D} (hx : M x = none) (h : badBits M d) : badBits (mup M x o) d := by
  obtain ⟨h1, h2, h3, h4⟩ := h
  refine ⟨known_up hx h1, (fun ds e y hy => known_up hx (h2 ds e y hy)), h3, ?_⟩
  cases d with
  | ref p => exact absurd rfl (h3 p)
  | lst ds => exact h4
  | _ => rfl

theorem l_word_of {ns : List Int} {M : Mh} {Q : QZ} {E : ZX} (h : bitL ns) (hl : ns.length = 10) (q : Q (.int (wordOf ns)) M) : z_word_of [.lst (ns.map D.int)] M Q E := by
  show zFn false zb_word_of _ _ _ _
  unfold zFn zb_word_of
  walk_at "z"
  refine l_look_bits_ok h ?_
  walk_at "z"
  refine zLoop_ind (fun l r M' => M' = M ∧ ∃ (a : Int) (x : Option D) (ms : List Int), l = ms.map D.int ∧ r = [some (.lst (ns.map D.int)), some (.int a), x] ∧ ms.foldl (fun a b => 2 * a + b) a = wordOf ns) ?_ ?_ ⟨rfl, 0, none, ns, rfl, rfl, rfl⟩
  · rintro r M' ⟨rfl, a, x, ms, e, rfl, e2⟩
    have : ms = [] := by simpa using e.symm
    subst this
    walk_at "z"
    rw [show a = wordOf ns from e2]; exact q
  · rintro d l r M' k ⟨rfl, a, x, ms, e, rfl, e2⟩ hk
    cases ms with
    | nil => cases e
    | cons m ms =>
      injection e with e1 e3
      subst e1
      walk_at "z"
      exact hk _ _ ⟨rfl, _, _, ms, e3, rfl, e2⟩
theorem l_word_of_bad {d : D} {M : Mh} {Q : QZ} {E : ZX} (h : badBits M d) (q : E "BadBits" [] M) : z_word_of [d] M Q E := by
  show zFn _ zb_word_of _ _ _ _
  unfold zFn zb_word_of
  walk_at "z"
  refine l_look_bits_bad h ?_
  walk_at "z"
  exact q
theorem l_word_of_len {ns : List Int} {M : Mh} {Q : QZ} {E : ZX} (h : bitL ns) (hl : ns.length ≠ 10) (q : E "BadBits" [] M) : z_word_of [.lst (ns.map D.int)] M Q E := by
  show zFn _ zb_word_of _ _ _ _
  unfold zFn zb_word_of
  walk_at "z"
  refine l_look_bits_ok h ?_
  walk_at "z"
  exact q
theorem l_word_ofR {p : Addr} {ns : List Int} {M : Mh} {Q : QZ} {E : ZX} (e : M p = some (.lst (ns.map D.int))) (h : bitL ns) (hl : ns.length = 10) (q : Q (.int (wordOf ns)) M) : z_word_of [.ref p] M Q E := by
  show zFn false zb_word_of _ _ _ _
  unfold zFn zb_word_of
  walk_at "y"
  refine l_look_bitsR e h ?_
  walk_at "y"
  refine zLoop_ind (fun l r M' => M' = M ∧ ∃ (a : Int) (x : Option D) (ms : List Int), l = ms.map D.int ∧ r = [some (.ref p), some (.int a), x] ∧ ms.foldl (fun a b => 2 * a + b) a = wordOf ns) ?_ ?_ ⟨rfl, 0, none, ns, rfl, rfl, rfl⟩
  · rintro r M' ⟨rfl, a, x, ms, e1, rfl, e2⟩
    have : ms = [] := by simpa using e1.symm
    subst this
    refine zck_at e _ ?_
    walk_at "y"
    rw [show a = wordOf ns from e2]; exact q
  · rintro d l r M' k ⟨rfl, a, x, ms, e1, rfl, e2⟩ hk
    cases ms with
    | nil => cases e1
    | cons m ms =>
      injection e1 with e1 e3
      subst e1
      refine zck_at e _ ?_
      walk_at "y"
      exact hk _ _ ⟨rfl, _, _, ms, e3, rfl, e2⟩

/-! the 260 items by number: 0 to 255 bytes, then begin, end, rest, skip -/
def itD (n : Nat) : D := if n < 256 then .int n else if n = 256 then .str "begin" else if n = 257 then .str "end" else if n = 258 then .str "rest" else .str "skip"
theorem itD_int {n : Nat} (h : n < 256) : itD n = .int n := if_pos h
theorem it_cases {n : Nat} (h : n < 260) : n < 180 ∨ (180 ≤ n ∧ n < 256) ∨ n = 256 ∨ n = 257 ∨ n = 258 ∨ n = 259 := by omega
def evW (n : Nat) : Int := tE.getD n 0
def hvW (n : Nat) : Int := if n = 256 then 250 else if n < 256 then tH.getD (n - 180) 0 else tH.getD (n - 181) 0
def putW (n : Nat) (p : Int) : Int := if n < 180 then evW n else if p < 0 then hvW n else 1023 - hvW n
theorem putW_e {n : Nat} {p : Int} (h : n < 180) : putW n p = evW n := if_pos h
theorem putW_h {n : Nat} {p : Int} (h : ¬ n < 180) (hp : p < 0) : putW n p = hvW n := by unfold putW; rw [if_neg h, if_pos hp]
theorem putW_l {n : Nat} {p : Int} (h : ¬ n < 180) (hp : ¬ p < 0) : putW n p = 1023 - hvW n := by unfold putW; rw [if_neg h, if_neg hp]
theorem hvW_b {n : Nat} (h : n < 256) : hvW n = tH.getD (n - 180) 0 := by unfold hvW; rw [if_neg (by omega), if_pos h]
def putP (n : Nat) (p : Int) : Int := if n < 180 then p else 0 - p
theorem tE_at : ∀ n : Nat, n < 180 → (tE.map D.int)[n]? = some (.int (evW n)) := fun n h => by
  have h' : n < tE.length := h
  rw [List.getElem?_map, List.getElem?_eq_getElem h']
  unfold evW
  rw [List.getD_eq_getElem?_getD, List.getElem?_eq_getElem h']; rfl
theorem tH_at : ∀ n : Nat, n < 124 → (tH.map D.int)[n]? = some (.int (tH.getD n 0)) := fun n h => by
  have h' : n < tH.length := h
  rw [List.getElem?_map, List.getElem?_eq_getElem h', List.getD_eq_getElem?_getD, List.getElem?_eq_getElem h']; rfl
theorem itD_flat (n : Nat) : flatD (itD n) = true := by
  unfold itD; repeat' split
  all_goals rfl
theorem itD_known {M : Mh} (n : Nat) : known M (itD n) := by
  unfold itD; repeat' split
  all_goals exact ⟨_, rfl⟩
theorem itD_Pl (n k : Nat) : Pl k (itD n) := .flat (itD_flat n)
theorem putP_e {n : Nat} {p : Int} (h : n < 180) : putP n p = p := if_pos h
theorem putP_h {n : Nat} {p : Int} (h : ¬ n < 180) : putP n p = 0 - p := if_neg h
def pm (p : Int) : Prop := p = 1 ∨ p = -1
theorem putP_pm {n : Nat} {p : Int} (h : pm p) : pm (putP n p) := by
  unfold putP pm at *; split <;> omega
theorem putW_rng {n : Nat} {p : Int} (h : n < 260) : 0 ≤ putW n p ∧ putW n p < 1024 := by
  have a : ∀ n : Nat, n < 260 → 0 ≤ hvW n ∧ hvW n < 1024 := by decide +kernel
  have b : ∀ n : Nat, n < 180 → 0 ≤ evW n ∧ evW n < 1024 := by decide +kernel
  have a' := a n h
  unfold putW
  split
  · exact b n (by assumption)
  · split <;> omega
theorem it256 : itD 256 = .str "begin" := rfl
theorem it257 : itD 257 = .str "end" := rfl
theorem it258 : itD 258 = .str "rest" := rfl
theorem it259 : itD 259 = .str "skip" := rfl
theorem itD_str {n : Nat} (h : ¬ n < 256) : ∃ s, itD n = .str s := by
  unfold itD; rw [if_neg h]; repeat' split
  all_goals exact ⟨_, rfl⟩
theorem itD_inj {n m : Nat} (hn : n < 260) (hm : m < 260) : eqD (itD n) (itD m) = decide (n = m) := by
  by_cases hn' : n < 256 <;> by_cases hm' : m < 256
  · rw [itD_int hn', itD_int hm']
    show decide ((n : Int) = m) = _
    by_cases e : n = m
    · rw [decide_eq_true e, decide_eq_true (by omega)]
    · rw [decide_eq_false e, decide_eq_false (by omega)]
  · obtain ⟨s, e⟩ := itD_str hm'
    rw [itD_int hn', e, decide_eq_false (by omega)]; rfl
  · obtain ⟨s, e⟩ := itD_str hn'
    rw [itD_int hm', e, decide_eq_false (by omega)]; rfl
  · have a : ∀ i : Nat, i < 4 → ∀ j : Nat, j < 4 → eqD (itD (256 + i)) (itD (256 + j)) = decide (256 + i = 256 + j) := by decide +kernel
    have := a (n - 256) (by omega) (m - 256) (by omega)
    rw [show 256 + (n - 256) = n by omega, show 256 + (m - 256) = m by omega] at this
    exact this
theorem itD_begin {n : Nat} (hn : n < 260) : eqD (itD n) (.str "begin") = decide (n = 256) := itD_inj (m := 256) hn (by decide)
theorem eqDs_refl : ∀ {ds : List D}, (∀ d ∈ ds, eqD d d = true) → eqDs ds ds = true
  | [], _ => rfl
  | d :: r, h => by rw [eqDs_cons, h d List.mem_cons_self, eqDs_refl fun x hx => h x (List.mem_cons_of_mem _ hx)]; rfl
theorem eqD_itD {n : Nat} (h : n < 260) : eqD (itD n) (itD n) = true := by rw [itD_inj h h, decide_eq_true rfl]
theorem eqD_items {is : List Nat} (h : ∀ n ∈ is, n < 260) : eqD (.lst (is.map itD)) (.lst (is.map itD)) = true := eqDs_refl fun d hd => by
  obtain ⟨n, hn, rfl⟩ := List.mem_map.mp hd
  exact eqD_itD (h n hn)
theorem Pl_items {k : Nat} (is : List Nat) : Pl (k + 1) (.lst (is.map itD)) := .lst fun x hx => by
  obtain ⟨n, hn, rfl⟩ := List.mem_map.mp hx
  exact itD_Pl n k

-- needs: items
def isIt (d : D) : Bool := match d with
  | .str s => (eqD (.str s) (.str "begin")) || inD (.str s) [.str "end", .str "rest", .str "skip"]
  | d => iw d 0 255
theorem l_is_item {d : D} {M : Mh} {Q : QZ} {E : ZX} (h : known M d) (q : Q (.bl (isIt d)) M) : z_is_item [d] M Q E := by
  show zFn false zb_is_item _ _ _ _
  unfold zFn zb_is_item
  obtain ⟨t, ht⟩ := h
  cases d with
  | str s =>
    walk_at "z"
    refine i_b (fun e => ?_) (fun e => ?_)
    · walk_at "z"
      rw [show isIt (.str s) = true by show (eqD (.str s) (.str "begin") || _) = true; rw [show eqD (.str s) (.str "begin") = true from e]; rfl] at q; exact q
    · walk_at "z"
      rw [show isIt (.str s) = inD (.str s) c_CONTROLS by show (eqD (.str s) (.str "begin") || _) = _; rw [show eqD (.str s) (.str "begin") = false from e]; rfl] at q; exact q
  | exc c => cases ht
  | scr c => cases ht
  | ref p =>
    have ht' : tyD M (.ref p) = some "list" := by
      have z : (match M p with | some (.lst _) => some "list" | _ => none) = some t := ht
      split at z
      · cases z; exact ht
      · cases z
    walk_at "z"
    refine i_isi ht' ?_
    walk_at "z"
    exact l_is_whole ⟨_, ht'⟩ q
  | _ => walk_at "z"; exact l_is_whole ⟨_, rfl⟩ q
theorem isIt_itD : ∀ n : Nat, n < 260 → isIt (itD n) = true := by decide +kernel

-- needs: items
theorem inD_ints (w : Int) : ∀ t : List Int, inD (.int w) (t.map D.int) = decide (w ∈ t)
  | [] => rfl
  | x :: r => by
    show (eqD (.int x) (.int w) || inD (.int w) (r.map D.int)) = _
    rw [inD_ints w r, eqD_int]
    by_cases h : x = w
    · subst h; simp
    · have h' : ¬ w = x := fun z => h z.symm
      simp [h, h']
theorem idxD_ints (w : Int) : ∀ t : List Int, idxD (.int w) (t.map D.int) = t.idxOf? w
  | [] => rfl
  | x :: r => by
    show (if eqD (.int x) (.int w) = true then some 0 else (idxD (.int w) (r.map D.int)).map (· + 1)) = _
    rw [idxD_ints w r, List.idxOf?_cons, eqD_int]
theorem idxOf?_none {w : Int} {t : List Int} (h : ¬ w ∈ t) : t.idxOf? w = none := List.idxOf?_eq_none_iff.mpr h
theorem idxOf?_some {w : Int} : ∀ {t : List Int}, w ∈ t → ∃ k, t.idxOf? w = some k ∧ k < t.length
  | x :: r, h => by
    rw [List.idxOf?_cons]
    by_cases e : x = w
    · rw [if_pos (by simpa using e)]; exact ⟨0, rfl, by simp⟩
    · rw [if_neg (by simpa using e)]
      obtain ⟨k, h1, h2⟩ := idxOf?_some (t := r) ((List.mem_cons.mp h).resolve_left (fun z => e z.symm))
      exact ⟨k + 1, by rw [h1]; rfl, by simpa using h2⟩
def itO : Option Nat → D
  | none => .non
  | some n => itD n

-- needs: items
/-! what a word stands for -/
def pairI (h : Int) : Option Nat := if h = 250 then some 256 else match tH.idxOf? h with
  | none => none
  | some k => if k < 76 then some (180 + k) else if k < 79 then some (181 + k) else none
def itemAt (w : Int) : Option (Nat × Int) := match tE.idxOf? w with
  | some k => some (k, 0)
  | none => match pairI w with
    | some n => some (n, 2)
    | none => match pairI (1023 - w) with
      | some n => some (n, -2)
      | none => none
theorem itemAt_put : ∀ n : Nat, n < 260 → itemAt (putW n 1) = some (n, putP n 1 - 1) ∧ itemAt (putW n (-1)) = some (n, putP n (-1) + 1) := by decide +kernel
theorem itemAt_putP {n : Nat} {p : Int} (h : n < 260) (hp : pm p) : itemAt (putW n p) = some (n, putP n p - p) := by
  have := itemAt_put n h
  rcases hp with e | e <;> subst e
  · exact this.1
  · exact this.2
theorem putW_inj {n m : Nat} {p s : Int} (hn : n < 260) (hm : m < 260) (hp : pm p) (hs : pm s) (e : putW m s = putW n p) : m = n ∧ (180 ≤ n → s = p) := by
  have h1 := itemAt_putP hn hp
  have h2 := itemAt_putP hm hs
  rw [e, h1] at h2
  injection h2 with h3
  injection h3 with h4 h5
  subst h4
  refine ⟨rfl, fun h => ?_⟩
  rw [putP_h (by omega), putP_h (by omega)] at h5
  omega

-- needs: tabs codes
theorem pairI_lt {h : Int} {n : Nat} (e : pairI h = some n) : n < 260 := by
  unfold pairI at e
  split at e
  · cases e; decide
  · split at e
    · cases e
    · split at e
      · cases e; omega
      · split at e
        · cases e; omega
        · cases e
theorem l_pair_item {h : Int} {M : Mh} {Q : QZ} {E : ZX} (q : Q (itO (pairI h)) M) : z_pair_item [.int h] M Q E := by
  have eH : c_HEAVY = tH.map D.int := rfl
  show zFn _ zb_pair_item _ _ _ _
  unfold zFn zb_pair_item
  unfold pairI at q
  walk_at "z"
  refine i_bd (fun e => ?_) fun e => ?_
  · rw [if_pos e] at q
    walk_at "z"
    exact q
  · rw [if_neg e] at q
    walk_at "z"
    rw [if_pos rfl, eH, inD_ints]
    walk_at "z"
    refine i_bd (fun hm => ?_) fun hm => ?_
    · obtain ⟨k, hk, hkl⟩ := idxOf?_some hm
      have hkl : k < 124 := hkl
      rw [hk] at q
      walk_at "z"
      refine i_tixV rfl rfl (by rw [idxD_ints]; exact hk) ?_
      walk_at "z"
      dsimp only at q
      refine i_bd (fun e2 => ?_) fun e2 => ?_
      · rw [if_pos (by omega)] at q
        walk_at "z"
        have e3 : itO (some (180 + k)) = .int (((180 : Nat) : Int) + (k : Nat)) := by
          show itD (180 + k) = _
          rw [itD_int (by omega)]; congr 1
        rw [e3] at q
        exact q
      · rw [if_neg (by omega)] at q
        walk_at "z"
        refine i_bd (fun e3 => ?_) fun e3 => ?_
        · rw [if_pos (by have : (k : Int) < 76 + ((3 : Nat) : Int) := e3; omega)] at q
          have e3 : (k : Int) < 79 := e3
          obtain e4 | e4 | e4 : k = 76 ∨ k = 77 ∨ k = 78 := by omega
          all_goals
            subst e4
            walk_at "z"
            exact q
        · rw [if_neg (by have : ¬ (k : Int) < 76 + ((3 : Nat) : Int) := e3; omega)] at q
          walk_at "z"
          exact q
    · rw [idxOf?_none hm] at q
      walk_at "z"
      exact q

-- needs: tabs codes
def itA : Option (Nat × Int) → D
  | none => .non
  | some x => .tup [itD x.1, .int x.2]
theorem isN_itO (o : Option Nat) : isN (itO o) = decide (o = none) := by
  cases o with
  | none => rfl
  | some n =>
    show isN (itD n) = _
    unfold itD
    split
    · rfl
    · split
      · rfl
      · split
        · rfl
        · split <;> rfl
theorem l_item_at {w : Int} {M : Mh} {Q : QZ} {E : ZX} (q : Q (itA (itemAt w)) M) : z_item_at [.int w] M Q E := by
  have eE : c_EVEN = tE.map D.int := rfl
  show zFn _ zb_item_at _ _ _ _
  unfold zFn zb_item_at
  unfold itemAt at q
  walk_at "z"
  rw [if_neg (by decide), eE, inD_ints]
  refine i_bd (fun hm => ?_) fun hm => ?_
  · obtain ⟨k, hk, hkl⟩ := idxOf?_some hm
    have hkl : k < 180 := hkl
    rw [hk] at q
    walk_at "z"
    refine i_tixV rfl rfl (by rw [idxD_ints]; exact hk) ?_
    walk_at "z"
    have e3 : itA (some (k, 0)) = .tup [.int (k : Nat), .int 0] := by
      show D.tup [itD k, .int 0] = _
      rw [itD_int (by omega)]
    dsimp only at q
    rw [e3] at q
    exact q
  · rw [idxOf?_none hm] at q
    dsimp only at q
    walk_at "z"
    refine l_pair_item ?_
    walk_at "z"
    rw [isN_itO]
    cases e1 : pairI w with
    | some n =>
      rw [e1] at q
      walk_at "z"
      refine l_pair_item ?_
      rw [e1]
      walk_at "z"
      exact q
    | none =>
      rw [e1] at q
      dsimp only at q
      walk_at "z"
      refine l_pair_item ?_
      walk_at "z"
      rw [isN_itO]
      cases e2 : pairI (1023 - w) with
      | some n =>
        rw [e2] at q
        walk_at "z"
        refine l_pair_item ?_
        rw [e2]
        walk_at "z"
        exact q
      | none =>
        rw [e2] at q
        walk_at "z"
        exact q

/-! rows of bytes -/
def byteL (ns : List Int) : Prop := ∀ n ∈ ns, 0 ≤ n ∧ n ≤ 255
/-- the sum that a check tells -/
def wsum : Nat → List Int → Int
  | _, [] => 0
  | k, b :: r => ((k : Int) + 1) * (b + 1) + wsum (k + 1) r
def sumOf (ns : List Int) : Int := wsum 0 ns % 65521
def checkL (ns : List Int) : List Int := [sumOf ns / 256, sumOf ns % 256]
theorem byteL_app {a b : List Int} (h : byteL a) (h' : byteL b) : byteL (a ++ b) := fun n hn => (List.mem_append.mp hn).elim (h n) (h' n)
theorem byteL_take {a : List Int} (h : byteL a) (k : Nat) : byteL (a.take k) := fun n hn => h n (List.mem_of_mem_take hn)
theorem byteL_drop {a : List Int} (h : byteL a) (k : Nat) : byteL (a.drop k) := fun n hn => h n (List.mem_of_mem_drop hn)
theorem wsum_idx : ∀ (ns : List Int) (k : Nat), ((ns.zipIdx k).map fun x => ((x.2 : Int) + 1) * (x.1 + 1)).sum = wsum k ns
  | [], _ => rfl
  | b :: r, k => by
    rw [List.zipIdx_cons, List.map_cons, List.sum_cons, wsum_idx r (k + 1)]; rfl
theorem wsum_app : ∀ (a b : List Int) (k : Nat), wsum k (a ++ b) = wsum k a + wsum (k + a.length) b
  | [], b, k => by show wsum k b = 0 + wsum (k + 0) b; rw [Int.zero_add]; rfl
  | x :: r, b, k => by
    show _ + wsum (k + 1) (r ++ b) = _ + wsum (k + 1) r + wsum (k + (r.length + 1)) b
    rw [wsum_app r b (k + 1), show k + 1 + r.length = k + (r.length + 1) by omega, Int.add_assoc]
theorem sumOf_rng (ns : List Int) : 0 ≤ sumOf ns ∧ sumOf ns < 65521 := ⟨Int.emod_nonneg _ (by decide), Int.emod_lt_of_pos _ (by decide)⟩
theorem checkL_eq {a b : List Int} : checkL a = checkL b ↔ sumOf a = sumOf b := by
  constructor
  · intro h
    injection h with h1 h2
    injection h2 with h2
    have e1 := Int.mul_ediv_add_emod (sumOf a) 256
    have e2 := Int.mul_ediv_add_emod (sumOf b) 256
    rw [h1, h2] at e1
    omega
  · intro h; unfold checkL; rw [h]
theorem sumOf_ne {a b : List Int} (h : ¬ (wsum 0 a - wsum 0 b) % 65521 = 0) : sumOf a ≠ sumOf b := by
  unfold sumOf; omega
theorem checkL_ne {a b : List Int} (h : ¬ (wsum 0 a - wsum 0 b) % 65521 = 0) : eqD (.lst ((checkL a).map D.int)) (.lst ((checkL b).map D.int)) = false := by
  have hs : sumOf a ≠ sumOf b := sumOf_ne h
  cases e : eqD (.lst ((checkL a).map D.int)) (.lst ((checkL b).map D.int)) with
  | false => rfl
  | true =>
    exfalso
    apply hs
    apply checkL_eq.mp
    simp [checkL] at e ⊢
    exact e
theorem wsum_set : ∀ (ns : List Int) (k j : Nat) (x : Int) (h : j < ns.length), wsum k (ns.set j x) = wsum k ns + ((k + j : Nat) + 1) * (x - ns[j])
  | b :: r, k, 0, x, _ => by
    show ((k : Int) + 1) * (x + 1) + wsum (k + 1) r = ((k : Int) + 1) * (b + 1) + wsum (k + 1) r + ((k + 0 : Nat) + 1) * (x - b)
    have e : ((k + 0 : Nat) : Int) = k := by omega
    rw [e, Int.mul_add, Int.mul_add, Int.mul_sub]; omega
  | b :: r, k, j + 1, x, h => by
    show ((k : Int) + 1) * (b + 1) + wsum (k + 1) (r.set j x) = ((k : Int) + 1) * (b + 1) + wsum (k + 1) r + ((k + (j + 1) : Nat) + 1) * (x - r[j]'(by simpa using h))
    rw [wsum_set r (k + 1) j x (by simpa using h), show k + 1 + j = k + (j + 1) by omega]; omega

-- needs: rows
/-- whether a thing is a row -/
def isRow (M : Mh) (d : D) (most : Int) : Bool := match d with
  | .lst ds => decide ((ds.length : Int) ≤ most) && ds.all fun x => iw x 0 255
  | _ => false
theorem isRow_ok {M : Mh} {ns : List Int} {most : Int} (h : byteL ns) (hl : (ns.length : Int) ≤ most) : isRow M (.lst (ns.map D.int)) most = true := by
  show (decide (((ns.map D.int).length : Int) ≤ most) && (ns.map D.int).all fun x => iw x 0 255) = true
  rw [List.length_map, decide_eq_true hl, List.all_map, Bool.true_and, List.all_eq_true]
  intro n hn
  exact iw_true (h n hn).1 (h n hn).2
theorem l_is_row {d : D} {most : Int} {M : Mh} {Q : QZ} {E : ZX} (h : known M d) (hk : ∀ ds, d = .lst ds → knowns M ds) (hr : ∀ p, d ≠ .ref p) (q : Q (.bl (isRow M d most)) M) : z_is_row [d, .int most] M Q E := by
  show zFn _ zb_is_row _ _ _ _
  unfold zFn zb_is_row
  obtain ⟨t, ht⟩ := h
  cases d with
  | lst ds =>
    walk_at "z"
    refine i_bd (fun h => ?_) (fun h => ?_)
    · walk_at "z"
      rw [show isRow M (.lst ds) most = false by show (decide _ && _) = false; rw [decide_eq_false (by omega)]; rfl] at q
      exact q
    · walk_at "z"
      refine zLcL_map (fun x => .bl (iw x 0 255)) (fun x hx Q hq => ?_) ?_
      · walk_at "z"
        refine l_is_whole (hk ds rfl x hx) ?_
        exact hq
      · walk_at "z"
        refine i_allE (bs := ds.map fun x => iw x 0 255) (by simp [Function.comp_def]) ?_
        walk_at "z"
        rw [show isRow M (.lst ds) most = (ds.map fun x => iw x 0 255).all id by show (decide _ && _) = _; rw [decide_eq_true (by omega), List.all_map]; rfl] at q
        exact q
  | exc c => cases ht
  | scr c => cases ht
  | ref p => exact absurd rfl (hr p)
  | _ => walk_at "z"; exact q
/-- .. of a list that may change -/
theorem l_is_rowR {p : Addr} {ns : List Int} {most : Int} {M : Mh} {Q : QZ} {E : ZX} (e : M p = some (.lst (ns.map D.int))) (h : byteL ns) (hl : (ns.length : Int) ≤ most) (q : Q (.bl true) M) : z_is_row [.ref p, .int most] M Q E := by
  show zFn _ zb_is_row _ _ _ _
  unfold zFn zb_is_row
  walk_at "y"
  refine zLcL_filterc (zck_at e) (fun _ => true) (fun x => .bl (iw x 0 255)) (fun d hd Q h1 _ => ?_) ?_
  · walk_at "y"
    obtain ⟨i, _, rfl⟩ := List.mem_map.mp hd
    exact l_is_whole (known_int i) (h1 rfl)
  · walk_at "y"
    refine i_allE (bs := ns.map fun x => iw (.int x) 0 255) (by rw [List.filter_eq_self.mpr (fun _ _ => rfl)]; simp [Function.comp_def]) ?_
    walk_at "y"
    rw [show (ns.map fun x => iw (.int x) 0 255).all id = true by
      rw [List.all_map, List.all_eq_true]
      intro n hn
      exact iw_true (h n hn).1 (h n hn).2]
    exact q

theorem l_look_row {d : D} {most : Int} {M : Mh} {Q : QZ} {E : ZX} (h : known M d) (hk : ∀ ds, d = .lst ds → knowns M ds) (hr : ∀ p, d ≠ .ref p) (q1 : isRow M d most = true → Q .non M) (q2 : isRow M d most = false → E "BadRow" [] M) : z_look_row [d, .int most] M Q E := by
  show zFn _ zb_look_row _ _ _ _
  unfold zFn zb_look_row
  walk_at "z"
  refine l_is_row h hk hr ?_
  walk_at "z"
  cases e : isRow M d most with
  | true => walk_at "z"; exact q1 e
  | false => walk_at "z"; exact q2 e
theorem l_look_row_ok {ns : List Int} {most : Int} {M : Mh} {Q : QZ} {E : ZX} (h : byteL ns) (hl : (ns.length : Int) ≤ most) (q : Q .non M) : z_look_row [.lst (ns.map D.int), .int most] M Q E :=
  l_look_row (known_lst _) (fun ds e => by cases e; exact knowns_ints ns) (fun p e => by cases e) (fun _ => q) fun e => by rw [isRow_ok h hl] at e; cases e
theorem l_look_rowR {p : Addr} {ns : List Int} {most : Int} {M : Mh} {Q : QZ} {E : ZX} (e : M p = some (.lst (ns.map D.int))) (h : byteL ns) (hl : (ns.length : Int) ≤ most) (q : Q .non M) : z_look_row [.ref p, .int most] M Q E := by
  show zFn _ zb_look_row _ _ _ _
  unfold zFn zb_look_row
  walk_at "z"
  refine l_is_rowR e h hl ?_
  walk_at "z"
  exact q

theorem zLcL_filterC {α : Type} {f g : α → D} {p : α → Bool} {step : D → Mh → (Option D → Mh → Prop) → Prop} {k : List D → Mh → Prop} {M : Mh} {c : Addr} {ds : List D} (hc : M c = some (.lst ds)) : ∀ {as : List α} {acc : List D}, (∀ a, a ∈ as → ∀ Q : Option D → Mh → Prop, (p a = true → Q (some (g a)) M) → (p a = false → Q none M) → step (f a) M Q) → k (acc ++ (as.filter p).map g) M → zLcL (some (c, ds)) step k (as.map f) acc M
  | [], acc, _, h => by
    show zck (some (c, ds)) M (k acc M)
    exact ⟨hc, by simpa using h⟩
  | a :: as, acc, hs, h => by
    show zck (some (c, ds)) M _
    refine ⟨hc, hs a List.mem_cons_self _ (fun hp => ?_) fun hp => ?_⟩
    · show zLcL (some (c, ds)) step k _ (acc ++ [g a]) M
      exact zLcL_filterC hc (fun b hb => hs b (List.mem_cons_of_mem _ hb)) (by simpa [List.filter_cons, hp] using h)
    · show zLcL (some (c, ds)) step k _ acc M
      exact zLcL_filterC hc (fun b hb => hs b (List.mem_cons_of_mem _ hb)) (by simpa [List.filter_cons, hp] using h)

-- needs: items filterC
theorem frz_items {p : Addr} {es : List D} (is : List Nat) : frzD p es (.lst (is.map itD)) = .lst (is.map itD) := frzD_no (by
  unfold noRef
  induction is with
  | nil => simp [noRefs]
  | cons n r ih =>
    rw [List.map_cons]
    unfold noRefs
    rw [ih, Bool.and_true]
    have := itD_flat n
    cases e : itD n with
    | non => rfl
    | bl _ => rfl
    | int _ => rfl
    | str _ => rfl
    | _ => rw [e] at this; cases this)
theorem frz_bl {p : Addr} {es : List D} (i : Bool) : frzD p es (.bl i) = .bl i := by simp [frzD]
theorem zLcL_mapC {α : Type} {f g : α → D} {step : D → Mh → (Option D → Mh → Prop) → Prop} {k : List D → Mh → Prop} {M : Mh} {c : Addr} {ds : List D} (hc : M c = some (.lst ds)) {as : List α} {acc : List D} (hs : ∀ a, a ∈ as → ∀ Q : Option D → Mh → Prop, Q (some (g a)) M → step (f a) M Q) (hk : k (acc ++ as.map g) M) : zLcL (some (c, ds)) step k (as.map f) acc M :=
  zLcL_filterC (p := fun _ => true) hc (fun a ha Q h1 _ => hs a ha Q (h1 rfl)) (by rw [List.filter_eq_self.mpr fun _ _ => rfl]; exact hk)
/-- a test, by what holds of its answer -/
theorem i_ifP {c : ZT} {t u : ZS} {E : ZEnds} {r : Zl.Env} {M : Mh} (P : Bool → Prop) (h1 : ∀ QB : Bool → Mh → Prop, (∀ b, P b → QB b M) → c r M QB) (h2 : P true → t E r M) (h3 : P false → u E r M) : zIf c t u E r M := h1 _ fun b hb => by
  cases b with
  | true => exact h2 hb
  | false => exact h3 hb

-- needs: rows filterC own37
theorem l_sum_of {ns : List Int} {M : Mh} {Q : QZ} {E : ZX} (hl : ns.length ≤ 1000) (q : Q (.int (sumOf ns)) M) : z_sum_of [.lst (ns.map D.int)] M Q E := by
  show zFn _ zb_sum_of _ _ _ _
  unfold zFn zb_sum_of
  walk_at "z"
  refine i_enumF rfl ?_
  rw [enumD_map]
  refine zLcL_mapm (g := fun x => .int (((x.2 : Int) + 1) * (x.1 + 1))) (fun x hx Q hq => ?_) ?_
  · obtain ⟨v, i⟩ := x
    have : i < ns.length := (List.mem_zipIdx' hx).1
    walk_at "z"
    exact hq
  · walk_at "z"
    refine i_sumE (ns := (ns.zipIdx.map fun x => ((x.2 : Int) + 1) * (x.1 + 1))) (by rw [List.map_map]; rfl) ?_
    rw [wsum_idx]
    walk_at "z"
    exact q
theorem l_sum_ofR {p : Addr} {ns : List Int} {M : Mh} {Q : QZ} {E : ZX} (e : M p = some (.lst (ns.map D.int))) (hl : ns.length ≤ 1000) (q : Q (.int (sumOf ns)) M) : z_sum_of [.ref p] M Q E := by
  show zFn _ zb_sum_of _ _ _ _
  unfold zFn zb_sum_of
  walk_at "y"
  refine i_enumR rfl e ?_
  rw [enumD_map]
  refine zLcL_mapC e (g := fun x => .int (((x.2 : Int) + 1) * (x.1 + 1))) (fun x hx Q hq => ?_) ?_
  · obtain ⟨v, i⟩ := x
    have : i < ns.length := (List.mem_zipIdx' hx).1
    walk_at "z"
    exact hq
  · walk_at "z"
    refine i_sumE (ns := (ns.zipIdx.map fun x => ((x.2 : Int) + 1) * (x.1 + 1))) (by rw [List.map_map]; rfl) ?_
    rw [wsum_idx]
    walk_at "z"
    exact q

theorem l_check_ofM {ns : List Int} {M : Mh} {Q : QZ} {E : ZX} (h : byteL ns) (hl : ns.length ≤ 64) (q : ∀ p, M p = none → (enB true Q).rt (.ref p) (mup M p (.lst ((checkL ns).map D.int)))) : z_check_of [.lst (ns.map D.int)] M Q E := by
  show zFn _ zb_check_of _ _ _ _
  unfold zFn zb_check_of
  walk_at "z"
  refine l_look_row_ok h (by omega) ?_
  walk_at "z"
  refine l_sum_of (by omega) ?_
  walk_at "z"
  exact q
theorem l_check_of {ns : List Int} {M : Mh} {Q : QZ} {E : ZX} (h : byteL ns) (hl : ns.length ≤ 64) (q : Q (.lst ((checkL ns).map D.int)) M) : z_check_of [.lst (ns.map D.int)] M Q E :=
  l_check_ofM h hl fun p hp => i_rtN hp q
theorem l_check_of_bad {d : D} {M : Mh} {Q : QZ} {E : ZX} (h : known M d) (hk : ∀ ds, d = .lst ds → knowns M ds) (hr : ∀ p, d ≠ .ref p) (hb : isRow M d 64 = false) (q : E "BadRow" [] M) : z_check_of [d] M Q E := by
  show zFn _ zb_check_of _ _ _ _
  unfold zFn zb_check_of
  walk_at "z"
  refine l_look_row h hk hr (fun e => by rw [hb] at e; cases e) fun _ => ?_
  walk_at "z"
  exact q

-- needs: codes tabs
/-! a reader, as a machine -/
structure RS where
  last : List Int
  part : Option (List Int)
  poise : Option Int
def hdD : Option Int → D
  | none => .non
  | some p => .int p
/-- what is told: an item, by number, or lost (260) -/
def tkD (n : Nat) : D := if n = 260 then .str "lost" else itD n
theorem tkD_it {n : Nat} (h : n < 260) : tkD n = itD n := if_neg (by omega)
theorem tkD_flat (n : Nat) : flatD (tkD n) = true := by
  unfold tkD; split
  · rfl
  · exact itD_flat n
/-- a word judged: told, whether in step behind it, the poise -/
def judge (o : Option Int) (w : Int) : List Nat × Bool × Option Int :=
  if w = 250 ∨ w = 773 then
    ((match o with | none => [] | some p => if p = (if w = 250 then -1 else 1) then [] else [260]) ++ [256], true, some (if w = 250 then 1 else -1))
  else match o with
    | none => ([260], false, none)
    | some p => match itemAt w with
      | none => ([260], false, none)
      | some (n, d) => if -1 ≤ p + d ∧ p + d ≤ 1 then ([n], true, some (p + d)) else ([260], false, none)
def sign (l : List Int) : Bool := decide (l = [0, 0, 1, 1, 1, 1, 1]) || decide (l = [1, 1, 0, 0, 0, 0, 0])
/-- behind a bit that was put to last and part: what is found -/
def findR (s : RS) : List Nat × RS :=
  let (t1, s1) := if sign s.last && decide (s.part.map List.length ≠ some 7) then ((if s.part.isSome then [260] else []), RS.mk s.last (some s.last) none) else ([], s)
  match s1.part with
  | none => (t1, s1)
  | some ps => if ps.length = 10 then
      let j := judge s1.poise (wordOf ps)
      (t1 ++ j.1, RS.mk s1.last (if j.2.1 then some [] else none) j.2.2)
    else (t1, s1)
def putR (s : RS) (b : Int) : RS := ⟨(s.last ++ [b]).drop ((s.last ++ [b]).length - 7), s.part.map (· ++ [b]), s.poise⟩
def stepR (s : RS) (b : Int) : List Nat × RS := findR (putR s b)
def runR : RS → List Int → List Nat × RS
  | s, [] => ([], s)
  | s, b :: r => let x := stepR s b; let y := runR x.2 r; (x.1 ++ y.1, y.2)
theorem runR_app : ∀ (a b : List Int) (s : RS), runR s (a ++ b) = ((runR s a).1 ++ (runR (runR s a).2 b).1, (runR (runR s a).2 b).2)
  | [], b, s => by simp [runR]
  | x :: r, b, s => by
    show ((stepR s x).1 ++ (runR (stepR s x).2 (r ++ b)).1, (runR (stepR s x).2 (r ++ b)).2) = _
    rw [runR_app r b]
    show _ = ((stepR s x).1 ++ (runR (stepR s x).2 r).1 ++ _, _)
    rw [List.append_assoc]; rfl
/-- what holds of a reader's state -/
structure ROk (s : RS) : Prop where
  last : bitL s.last
  len : s.last.length ≤ 7
  part : ∀ ps, s.part = some ps → bitL ps ∧ ps.length < 10
  poise : ∀ p, s.poise = some p → pm p
theorem judge_ok {o : Option Int} {w : Int} (h : ∀ p, o = some p → pm p) : ∀ p, (judge o w).2.2 = some p → pm p := by
  intro p e
  unfold judge at e
  split at e
  · split at e
    all_goals
      injection e with e
      subst e
      split
      · exact .inl rfl
      · exact .inr rfl
  · cases o with
    | none => cases e
    | some p0 =>
      dsimp only at e
      have hp := h p0 rfl
      cases e1 : itemAt w with
      | none => rw [e1] at e; cases e
      | some x =>
        obtain ⟨n, d⟩ := x
        rw [e1] at e
        dsimp only at e
        split at e
        · rename_i hr
          injection e with e
          subst e
          -- the poise moves by 0, 2 or -2
          have hd : d = 0 ∨ d = 2 ∨ d = -2 := by
            unfold itemAt at e1
            split at e1
            · cases e1; exact .inl rfl
            · split at e1
              · cases e1; exact .inr (.inl rfl)
              · split at e1
                · cases e1; exact .inr (.inr rfl)
                · cases e1
          rcases hp with e | e <;> subst e <;> rcases hd with e | e | e <;> subst e <;> first | exact .inl rfl | exact .inr rfl | omega
        · cases e
theorem pairI_260 {h : Int} {k : Nat} (e : pairI h = some k) : k < 260 := by
  unfold pairI at e
  split at e
  · cases e; decide
  · split at e
    · cases e
    · split at e
      · cases e; omega
      · split at e
        · cases e; omega
        · cases e
theorem itemAt_lt {w : Int} {n : Nat} {d : Int} (e1 : itemAt w = some (n, d)) : n < 260 := by
  unfold itemAt at e1
  split at e1
  · rename_i k hk
    injection e1 with e1
    injection e1 with e1 _
    subst e1
    by_cases hm : w ∈ tE
    · obtain ⟨k', h1, h2⟩ := idxOf?_some hm
      rw [hk] at h1; cases h1
      have : tE.length = 180 := rfl
      omega
    · rw [idxOf?_none hm] at hk; cases hk
  · split at e1
    · rename_i k hk
      cases e1
      exact pairI_260 hk
    · split at e1
      · rename_i k hk
        cases e1
        exact pairI_260 hk
      · cases e1
theorem judge_lt {o : Option Int} {w : Int} : ∀ n ∈ (judge o w).1, n ≤ 260 := by
  intro n hn
  unfold judge at hn
  split at hn
  · rcases List.mem_append.mp hn with hn | hn
    · cases o with
      | none => cases hn
      | some p =>
        dsimp only at hn
        by_cases hq : p = (if w = 250 then -1 else 1)
        · rw [if_pos hq] at hn; cases hn
        · rw [if_neg hq] at hn; rw [List.mem_singleton.mp hn]; exact Nat.le_refl _
    · rw [List.mem_singleton.mp hn]; decide
  · cases o with
    | none => rw [List.mem_singleton.mp hn]; exact Nat.le_refl _
    | some p0 =>
      dsimp only at hn
      cases e1 : itemAt w with
      | none => rw [e1] at hn; rw [List.mem_singleton.mp hn]; exact Nat.le_refl _
      | some x =>
        obtain ⟨m, d⟩ := x
        rw [e1] at hn
        dsimp only at hn
        split at hn
        · rw [List.mem_singleton.mp hn]; exact Nat.le_of_lt (itemAt_lt e1)
        · rw [List.mem_singleton.mp hn]; exact Nat.le_refl _
/-! a reader in the heap -/
def rdF (last : List Int) (pd : D) (o : Option Int) : MO := .ins "Reader" [("last", .lst (last.map D.int)), ("part", pd), ("poise", hdD o)]
def rfD : Option Addr → D
  | none => .non
  | some q => .ref q
def partAt (M : Mh) (a : Addr) : Option (List Int) → Option Addr → Prop
  | none, none => True
  | some ps, some q => q ≠ a ∧ M q = some (.lst (ps.map D.int))
  | _, _ => False
theorem partAt.keep {M M' : Mh} {a : Addr} {p : Option (List Int)} {fo : Option Addr} (h : partAt M a p fo) (k : ∀ q, fo = some q → M' q = M q) : partAt M' a p fo := by
  cases p with
  | none => cases fo with | none => trivial | some f => exact False.elim h
  | some ps => cases fo with | none => exact False.elim h | some f => exact ⟨h.1, (k f rfl).trans h.2⟩
structure RdAt (M : Mh) (a : Addr) (s : RS) (fo : Option Addr) : Prop where
  me : M a = some (.ins "Reader" [("last", .lst (s.last.map D.int)), ("part", rfD fo), ("poise", hdD s.poise)])
  part : partAt M a s.part fo
/-- nothing else is touched -/
def Fr (M : Mh) (a : Addr) (fo : Option Addr) (M' : Mh) (fo' : Option Addr) : Prop := ∀ y o, M y = some o → y ≠ a → fo ≠ some y → M' y = some o ∧ fo' ≠ some y
theorem Fr.refl (M : Mh) (a : Addr) (fo : Option Addr) : Fr M a fo M fo := fun _ _ h _ h2 => ⟨h, h2⟩
theorem Fr.trans {M M1 M2 : Mh} {a : Addr} {f f1 f2 : Option Addr} (h : Fr M a f M1 f1) (h' : Fr M1 a f1 M2 f2) : Fr M a f M2 f2 := fun y o e h1 h2 => by
  obtain ⟨q1, q2⟩ := h y o e h1 h2
  exact h' y o q1 h1 q2
theorem judge_len {o : Option Int} {w : Int} : (judge o w).1.length ≤ 2 := by
  unfold judge
  split
  · rw [List.length_append]
    cases o with
    | none => simp
    | some p =>
      dsimp only
      by_cases hq : p = (if w = 250 then -1 else 1)
      · rw [if_pos hq]; simp
      · rw [if_neg hq]; simp
  · cases o with
    | none => simp
    | some p =>
      dsimp only
      split
      · simp
      · split <;> simp

-- needs: rows
/-- rows as data -/
def rowD (ns : List Int) : D := .lst (ns.map D.int)
def rowsD (rs : List (List Int)) : List D := rs.map rowD
theorem Pl_row (n : Nat) (ns : List Int) : Pl (n + 1) (rowD ns) := .ints ns
theorem Pl_rows (n : Nat) (rs : List (List Int)) : Pl (n + 2) (.lst (rowsD rs)) := .lst fun x hx => by
  obtain ⟨r, _, rfl⟩ := List.mem_map.mp hx
  exact Pl_row n r
theorem eqDs_ints : ∀ {a b : List Int}, eqDs (a.map D.int) (b.map D.int) = decide (a = b)
  | [], [] => rfl
  | [], _ :: _ => rfl
  | _ :: _, [] => rfl
  | x :: a, y :: b => by
    show (eqD (.int x) (.int y) && eqDs (a.map D.int) (b.map D.int)) = _
    rw [eqDs_ints, eqD_int]
    by_cases h : x = y
    · subst h; simp
    · simp [h]
theorem eqD_rows {a b : List Int} : eqD (rowD a) (rowD b) = decide (a = b) := eqDs_ints
theorem eqD_nil {ds : List D} : eqD (.lst ds) (.lst []) = decide (ds = []) := by
  cases ds with
  | nil => rfl
  | cons d r => rfl
theorem atI_head {d : D} {l : List D} : atI (d :: l) (0 : Int) = some d := by
  unfold atI ixN
  rw [if_pos (by decide), if_pos (by rw [List.length_cons]; omega)]; rfl
theorem i_pop0 {M : Mh} {Q : QZ} {p : Addr} {d : D} {l : List D} (e : M p = some (.lst (d :: l))) (q : Q d (mup M p (.lst l))) : dPopAt (.ref p) [.int 0] M Q := by
  refine ⟨by decide, by decide, ?_⟩
  rw [zR_ref e]
  have e1 : ixN (d :: l).length (0 : Int) = some 0 := by
    unfold ixN
    rw [if_pos (by decide), if_pos (by rw [List.length_cons]; omega)]; rfl
  simp only [e1]
  exact q
def badRow (M : Mh) (most : Int) (d : D) : Prop := known M d ∧ (∀ ds, d = .lst ds → knowns M ds) ∧ (∀ p, d ≠ .ref p) ∧ (match d with | .lst ds => decide ((ds.length : Int) ≤ most) && ds.all fun x => iw x 0 255 | _ => false) = false
theorem badRow_of {M : Mh} {most : Int} {d : D} {t : String} (h1 : tyD M d = some t) (h2 : ∀ ds, d ≠ .lst ds) (h3 : ∀ p, d ≠ .ref p) : badRow M most d := by
  refine ⟨⟨_, h1⟩, (fun ds e => absurd e (h2 ds)), h3, ?_⟩
  cases d with
  | lst ds => exact absurd rfl (h2 ds)
  | ref p => exact absurd rfl (h3 p)
  | _ => rfl
theorem badRow_long {M : Mh} {most : Int} {ns : List Int} (h : most < ns.length) : badRow M most (.lst (ns.map D.int)) := by
  refine ⟨known_lst _, (fun ds e => by cases e; exact knowns_ints _), (fun p e => by cases e), ?_⟩
  show (decide (((ns.map D.int).length : Int) ≤ most) && _) = false
  rw [decide_eq_false (by rw [List.length_map]; omega), Bool.false_and]
/-- a row with one odd thing put in -/
theorem badRow_odd {M : Mh} {most : Int} {row : List Int} {b : D} {i j : Nat} (h1 : known M b) (h2 : iw b 0 255 = false) : badRow M most (.lst ((row.map D.int).take i ++ [b] ++ (row.map D.int).drop j)) := by
  have hi : ∀ x ∈ row.map D.int, known M x := fun x hx => by
    obtain ⟨i, _, rfl⟩ := List.mem_map.mp hx
    exact known_int i
  refine ⟨known_lst _, (fun ds e => by
    cases e
    intro x hx
    rcases List.mem_append.mp hx with hx | hx
    · rcases List.mem_append.mp hx with hx | hx
      · exact hi x (List.mem_of_mem_take hx)
      · rw [List.mem_singleton.mp hx]; exact h1
    · exact hi x (List.mem_of_mem_drop hx)), (fun p e => by cases e), ?_⟩
  show (decide _ && List.all _ _) = false
  rw [List.all_append, List.all_append, show List.all [b] (fun x => iw x 0 255) = false by simp [h2]]
  simp

-- needs: reader rows rowsD
/-! a taker, as a machine: events are frames (some row) and spoilt ones (none) -/
def evD : Option (List Int) → D
  | none => .tup [.str "spoilt", .lst []]
  | some r => .tup [.str "frame", rowD r]
def withinL : List Int → Option (List Int)
  | [] => none
  | n :: r => if 64 < n ∨ (r.length : Int) + 1 ≠ n + 3 then none else if checkL (r.take (r.length - 2)) = r.drop (r.length - 2) then some (r.take (r.length - 2)) else none
def tookB (s : Option (List Int)) (n : Nat) : List (Option (List Int)) × Option (List Int) := match s with
    | none => ([], none)
    | some l => if n = 259 then ([], some l) else if n < 256 ∧ l.length < 67 then ([], some (l ++ [(n : Int)])) else ([if n = 257 then withinL l else none], none)
def tookT (s : Option (List Int)) (n : Nat) : List (Option (List Int)) × Option (List Int) :=
  if n = 256 then ((if s.isSome then [none] else []), some []) else tookB s n
def runT : Option (List Int) → List Nat → List (Option (List Int)) × Option (List Int)
  | s, [] => ([], s)
  | s, n :: r => ((tookT s n).1 ++ (runT (tookT s n).2 r).1, (runT (tookT s n).2 r).2)
theorem runT_app : ∀ (a b : List Nat) (s : Option (List Int)), runT s (a ++ b) = ((runT s a).1 ++ (runT (runT s a).2 b).1, (runT (runT s a).2 b).2)
  | [], b, s => by simp [runT]
  | x :: r, b, s => by
    show ((tookT s x).1 ++ (runT (tookT s x).2 (r ++ b)).1, (runT (tookT s x).2 (r ++ b)).2) = _
    rw [runT_app r b]
    show _ = ((tookT s x).1 ++ (runT (tookT s x).2 r).1 ++ _, _)
    rw [List.append_assoc]; rfl
def TOk (s : Option (List Int)) : Prop := ∀ l, s = some l → byteL l ∧ l.length ≤ 67
theorem tookT_ok {s : Option (List Int)} {n : Nat} (h : TOk s) : TOk (tookT s n).2 ∧ (tookT s n).1.length ≤ 1 := by
  unfold tookT
  split
  · refine ⟨fun l e => ?_, by split <;> simp⟩
    cases e; exact ⟨(fun _ h => nomatch h), Nat.zero_le _⟩
  · unfold tookB
    cases s with
    | none => exact ⟨(fun _ e => nomatch e), by simp⟩
    | some l =>
      dsimp only
      obtain ⟨h1, h2⟩ := h l rfl
      split
      · exact ⟨h, by simp⟩
      · split
        · rename_i hn
          refine ⟨fun l' e => ?_, by simp⟩
          cases e
          exact ⟨byteL_app h1 (fun m hm => by rw [List.mem_singleton.mp hm]; omega), by rw [List.length_append]; simp only [List.length_cons, List.length_nil]; omega⟩
        · exact ⟨(fun _ e => nomatch e), by simp⟩
theorem runT_ok : ∀ {ts : List Nat} {s : Option (List Int)}, TOk s → TOk (runT s ts).2 ∧ (runT s ts).1.length ≤ ts.length
  | [], s, h => ⟨h, Nat.le_refl _⟩
  | n :: r, s, h => by
    obtain ⟨h1, h2⟩ := tookT_ok (n := n) h
    obtain ⟨h3, h4⟩ := runT_ok (ts := r) h1
    refine ⟨h3, ?_⟩
    show ((tookT s n).1 ++ (runT (tookT s n).2 r).1).length ≤ _
    rw [List.length_append, List.length_cons]; omega
theorem tkD_int {n : Nat} (h : n < 256) : tkD n = .int n := by rw [tkD_it (by omega), itD_int h]
theorem tkD_eqs {n : Nat} (h : n ≤ 260) : eqD (tkD n) (.str "begin") = decide (n = 256) ∧ eqD (tkD n) (.str "skip") = decide (n = 259) ∧ eqD (tkD n) (.str "end") = decide (n = 257) ∧ eqD (tkD n) (.str "lost") = decide (n = 260) := by
  by_cases hn : n < 256
  · rw [tkD_int hn, decide_eq_false (by omega), decide_eq_false (by omega), decide_eq_false (by omega), decide_eq_false (by omega)]
    exact ⟨rfl, rfl, rfl, rfl⟩
  · obtain e | e | e | e | e : n = 256 ∨ n = 257 ∨ n = 258 ∨ n = 259 ∨ n = 260 := by omega
    all_goals subst e; decide
theorem tkD_str {n : Nat} (h : ¬ n < 256) : ∃ s, tkD n = .str s := by
  unfold tkD
  split
  · exact ⟨_, rfl⟩
  · exact itD_str h
theorem tkD_Pl (n : Nat) : Pl 64 (tkD n) := .flat (tkD_flat n)
/-! a taker in the heap -/
structure TkAt (M : Mh) (a : Addr) (s : Option (List Int)) (fo : Option Addr) : Prop where
  me : M a = some (.ins "Taker" [("some", rfD fo)])
  part : partAt M a s fo
theorem cutD_1m2 {ds : List D} (h : 3 ≤ ds.length) : cutD ds (some 1) (some (-2)) = (ds.drop 1).take (ds.length - 3) := by
  unfold cutD
  have e1 : HT.sIx ds.length 0 (some (1 : Int)) = 1 := by
    unfold HT.sIx
    first | (simp; omega) | (dsimp only; split <;> omega)
  have e2 : HT.sIx ds.length ds.length (some (-2 : Int)) = ds.length - 2 := by
    unfold HT.sIx
    first | (simp; omega) | (dsimp only; split <;> omega)
  rw [e1, e2, show ds.length - 2 - 1 = ds.length - 3 by omega]
theorem cutD_m2 {ds : List D} (h : 3 ≤ ds.length) : cutD ds (some (-2)) none = ds.drop (ds.length - 2) := by
  unfold cutD
  have e1 : HT.sIx ds.length 0 (some (-2 : Int)) = ds.length - 2 := by
    unfold HT.sIx
    first | (simp; omega) | (dsimp only; split <;> omega)
  have e2 : HT.sIx ds.length ds.length none = ds.length := rfl
  rw [e1, e2, List.take_of_length_le (by rw [List.length_drop]; omega)]

-- needs: taker rows rowsD filterC own37 sum_of check_of look_row
theorem l_check_ofR {p : Addr} {ns : List Int} {M : Mh} {Q : QZ} {E : ZX} (e : M p = some (.lst (ns.map D.int))) (h : byteL ns) (hl : ns.length ≤ 64) (q : Q (.lst ((checkL ns).map D.int)) M) : z_check_of [.ref p] M Q E := by
  show zFn _ zb_check_of _ _ _ _
  unfold zFn zb_check_of
  walk_at "z"
  refine l_look_rowR e h (by omega) ?_
  walk_at "z"
  refine l_sum_ofR e (by omega) ?_
  walk_at "z"
  intro x hx
  exact i_rtN hx q
theorem l_row_withinR {p : Addr} {l : List Int} {M : Mh} {Q : QZ} {E : ZX} (e : M p = some (.lst (l.map D.int))) (hb : byteL l) (hl : l.length ≤ 67) (q0 : withinL l = none → ∀ M', (∀ y o, M y = some o → M' y = some o) → Q .non M') (q1 : ∀ r, withinL l = some r → ∀ g, M g = none → Q (.ref g) (mup M g (.lst (r.map D.int)))) : z_row_within [.ref p] M Q E := by
  show zFn _ zb_row_within _ _ _ _
  unfold zFn zb_row_within
  walk_at "z"
  refine i_eqG (.at e) (.refl _) (.ints _) (.lflat rfl) ?_
  cases l with
  | nil =>
    walk_at "z"
    exact q0 rfl _ fun _ _ h => h
  | cons n r =>
    have hn := hb n List.mem_cons_self
    have hr : byteL r := fun m hm => hb m (List.mem_cons_of_mem _ hm)
    rw [List.length_cons] at hl
    unfold withinL at q0 q1
    dsimp only at q0 q1
    rw [show eqD (.lst ((n :: r).map D.int)) (.lst []) = false from rfl]
    walk_at "z"
    refine i_ixR e (d := .int n) atI_hd ?_
    walk_at "z"
    refine i_bd (fun h64 => ?_) fun h64 => ?_
    · rw [if_pos (.inl h64)] at q0
      walk_at "z"
      exact q0 rfl _ fun _ _ h => h
    · walk_at "y"
      refine i_ixR e (d := .int n) atI_hd ?_
      walk_at "y"
      rw [List.length_cons]
      refine i_bd (fun h3 => ?_) fun h3 => ?_
      · have h3 : (r.length : Int) + 1 = n + 3 := h3
        rw [if_neg (by omega)] at q0 q1
        walk_at "y"
        refine i_anyT ?_
        walk_at "y"
        have l3 : 3 ≤ ((n :: r).map D.int).length := by rw [List.length_map, List.length_cons]; omega
        rw [cutD_1m2 l3, show ((List.map D.int (n :: r)).drop 1).take ((List.map D.int (n :: r)).length - 3) = (r.take (r.length - 2)).map D.int by
          rw [List.length_map, List.length_cons, List.map_take]; rfl]
        refine i_newT fun g hg => ?_
        have eg : mup M g (.lst ((r.take (r.length - 2)).map D.int)) p = some (.lst ((n :: r).map D.int)) := mup_get hg e
        walk_at "y"
        refine l_check_ofR mup_same (byteL_take hr _) (by rw [List.length_take]; omega) ?_
        walk_at "y"
        rw [cutD_m2 l3, show (List.map D.int (n :: r)).drop ((List.map D.int (n :: r)).length - 2) = (r.drop (r.length - 2)).map D.int by
          rw [List.length_map, List.length_cons, List.map_drop, show r.length + 1 - 2 = (r.length - 2) + 1 by omega]; rfl]
        refine i_eq (.ints _) (.ints _) ?_
        rw [show eqD (.lst ((checkL (r.take (r.length - 2))).map D.int)) (.lst ((r.drop (r.length - 2)).map D.int)) = decide (checkL (r.take (r.length - 2)) = r.drop (r.length - 2)) from eqDs_ints]
        walk_at "y"
        refine i_bd (fun h4 => ?_) fun h4 => ?_
        · rw [if_pos h4] at q1
          walk_at "y"
          exact q1 _ rfl g hg
        · rw [if_neg h4] at q0
          walk_at "y"
          exact q0 rfl _ fun y o hy => mup_get hg hy
      · have h3 : ¬ (r.length : Int) + 1 = n + 3 := h3
        rw [if_pos (.inr h3)] at q0
        walk_at "y"
        exact q0 rfl _ fun _ _ h => h

-- needs: reader
theorem l_Reader___init__ {a : Addr} {M : Mh} {Q : QZ} {E : ZX} (h : M a = some (.ins "Reader" [])) (q : ∀ M', RdAt M' a ⟨[], none, none⟩ none → (∀ y, y ≠ a → M' y = M y) → Q .non M') : z_Reader___init__ [.ref a] M Q E := by
  show zFn _ zb_Reader___init__ _ _ _ _
  unfold zFn zb_Reader___init__
  walk_at "y"
  rw [mup_mup, mup_mup]
  exact q _ ⟨mup_same, trivial⟩ fun y hy => mup_ne hy

-- needs: reader
theorem l_Reader_heardJ {a : Addr} {s : RS} {fo : Option Addr} {w : Int} {M : Mh} {Q : QZ} {E : ZX} {J : List Nat × Bool × Option Int} (hJ : judge s.poise w = J) (h : RdAt M a s fo)
    (q : ∀ M' fo', RdAt M' a ⟨s.last, (if J.2.1 then s.part else none), J.2.2⟩ fo' → Fr M a fo M' fo' → Q (.lst (J.1.map tkD)) M') : z_Reader_heard [.ref a, .int w] M Q E := by
  have hm := h.me
  have hp := h.part
  have fr1 : ∀ {o : MO}, Fr M a fo (mup M a o) fo := fun {o} y o' e h1 h2 => ⟨(mup_ne h1).trans e, h2⟩
  have fr0 : ∀ {o : MO}, Fr M a fo (mup M a o) none := fun {o} y o' e h1 h2 => ⟨(mup_ne h1).trans e, (fun z => nomatch z)⟩
  have keep : ∀ {o : Option Int}, RdAt (mup M a (.ins "Reader" [("last", .lst (s.last.map D.int)), ("part", rfD fo), ("poise", hdD o)])) a ⟨s.last, s.part, o⟩ fo := fun {o} => ⟨mup_same, hp.keep fun f hf => mup_ne (fun z => by
    subst hf
    cases e : s.part with
    | none => rw [e] at hp; exact False.elim hp
    | some ps => rw [e] at hp; exact hp.1 z)⟩
  have gone : RdAt (mup M a (.ins "Reader" [("last", .lst (s.last.map D.int)), ("part", .non), ("poise", .non)])) a ⟨s.last, none, none⟩ none := ⟨mup_same, trivial⟩
  show zFn _ zb_Reader_heard _ _ _ _
  unfold zFn zb_Reader_heard
  walk_at "y"
  rw [if_neg (by decide), show inD (.int w) [.int 250, .int (1023 - 250)] = decide (w = 250 ∨ w = 773) by
    rw [show [D.int 250, .int (1023 - 250)] = ([250, 773] : List Int).map D.int from rfl, inD_ints]
    simp]
  walk_at "y"
  refine i_bd (fun e => ?_) fun e => ?_
  · -- a mark
    have eq : judge s.poise w = ((match s.poise with | none => [] | some p => if p = (if w = 250 then -1 else 1) then [] else [260]) ++ [256], true, some (if w = 250 then 1 else -1)) := if_pos e
    rw [eq] at hJ
    subst hJ
    refine i_seqP (P := fun r M' => M' = M ∧ r = [some (.ref a), some (.int w), some (.int (if w = 250 then -1 else 1)), none, none]) ?_ ?_
    · rintro r M' ⟨rfl, rfl⟩
      refine i_seqP (P := fun r M1 => M1 = M' ∧ r = [some (.ref a), some (.int w), some (.int (if w = 250 then -1 else 1)), some (.lst ((match s.poise with | none => [] | some p => if p = (if w = 250 then -1 else 1) then [] else [260]).map tkD)), none]) ?_ ?_
      · rintro r M1 ⟨rfl, rfl⟩
        have e2 : (0 : Int) - (if w = 250 then -1 else 1) = if w = 250 then 1 else -1 := by split <;> rfl
        walk_at "y"
        rw [e2]
        have hl1 : (match s.poise with | none => [] | some p => if p = (if w = 250 then -1 else 1) then [] else [260] : List Nat).length ≤ 1 := by
          cases s.poise with
          | none => exact Nat.zero_le _
          | some p =>
            dsimp only
            by_cases hq : p = (if w = 250 then -1 else 1)
            · rw [if_pos hq]; exact Nat.zero_le _
            · rw [if_neg hq]; exact Nat.le_refl _
        refine i_addL (by rw [List.length_map]; exact Nat.le_trans (Nat.add_le_add_right hl1 1) (by decide)) ?_
        refine i_newT fun p hp => ?_
        refine i_rtF mup_same ?_
        rw [mdel_mup hp]
        have := q _ fo (keep (o := some (if w = 250 then 1 else -1))) fr1
        rw [List.map_append] at this
        exact this
      · intro k hk
        generalize (if w = 250 then (-1 : Int) else 1) = due at hk ⊢
        cases e3 : s.poise with
        | none =>
          rw [e3] at hm hk
          have hm : M' a = some (.ins "Reader" [("last", .lst (s.last.map D.int)), ("part", rfD fo), ("poise", .non)]) := hm
          walk_at "y"
          exact hk _ _ ⟨rfl, rfl⟩
        | some p =>
          rw [e3] at hm hk
          have hm : M' a = some (.ins "Reader" [("last", .lst (s.last.map D.int)), ("part", rfD fo), ("poise", .int p)]) := hm
          dsimp only at hk
          walk_at "y"
          refine i_bd (fun e4 => ?_) fun e4 => ?_
          · rw [if_pos e4] at hk
            walk_at "y"
            exact hk _ _ ⟨rfl, rfl⟩
          · rw [if_neg e4] at hk
            walk_at "y"
            exact hk _ _ ⟨rfl, rfl⟩
    · intro k hk
      walk_at "y"
      refine i_bd (fun e4 => ?_) fun e4 => ?_
      · rw [if_pos e4] at hk
        walk_at "y"
        exact hk _ _ ⟨rfl, rfl⟩
      · rw [if_neg e4] at hk
        walk_at "y"
        exact hk _ _ ⟨rfl, rfl⟩
  · have eq : judge s.poise w = (match s.poise with
      | none => ([260], false, none)
      | some p => match itemAt w with
        | none => ([260], false, none)
        | some (n, d) => if -1 ≤ p + d ∧ p + d ≤ 1 then ([n], true, some (p + d)) else ([260], false, none)) := if_neg e
    rw [eq] at hJ
    cases e3 : s.poise with
    | none =>
      rw [e3] at hm hJ
      subst hJ
      have hm : M a = some (.ins "Reader" [("last", .lst (s.last.map D.int)), ("part", rfD fo), ("poise", .non)]) := hm
      walk_at "y"
      rw [mup_mup]
      refine i_newT fun p hp => ?_
      refine i_rtF mup_same ?_
      rw [mdel_mup hp]
      exact q _ none gone fr0
    | some p =>
      rw [e3] at hm hJ
      have hm : M a = some (.ins "Reader" [("last", .lst (s.last.map D.int)), ("part", rfD fo), ("poise", .int p)]) := hm
      dsimp only at hJ
      walk_at "y"
      refine l_item_at ?_
      walk_at "y"
      cases e5 : itemAt w with
      | none =>
        rw [e5] at hJ
        subst hJ
        walk_at "y"
        rw [mup_mup]
        refine i_newT fun p hp => ?_
        refine i_rtF mup_same ?_
        rw [mdel_mup hp]
        exact q _ none gone fr0
      | some x =>
        obtain ⟨n, d⟩ := x
        rw [e5] at hJ
        dsimp only at hJ
        rw [show itA (some (n, d)) = .tup [itD n, .int d] from rfl]
        walk_at "y"
        refine i_bd (fun h1 => ?_) fun h1 => ?_
        · walk_at "y"
          refine i_bd (fun h2 => ?_) fun h2 => ?_
          · rw [if_pos ⟨h1, h2⟩] at hJ; subst hJ
            walk_at "y"
            refine i_newT fun x hx => ?_
            refine i_rtF mup_same ?_
            rw [mdel_mup hx]
            have := q _ fo (keep (o := some (p + d))) fr1
            rw [show List.map tkD [n] = [itD n] by rw [List.map_cons, tkD_it (itemAt_lt e5)]; rfl] at this
            exact this
          · rw [if_neg (fun z => h2 z.2)] at hJ; subst hJ
            walk_at "y"
            rw [mup_mup]
            refine i_newT fun x hx => ?_
            refine i_rtF mup_same ?_
            rw [mdel_mup hx]
            exact q _ none gone fr0
        · rw [if_neg (fun z => h1 z.1)] at hJ; subst hJ
          walk_at "y"
          rw [mup_mup]
          refine i_newT fun x hx => ?_
          refine i_rtF mup_same ?_
          rw [mdel_mup hx]
          exact q _ none gone fr0
theorem l_Reader_heard {a : Addr} {s : RS} {fo : Option Addr} {w : Int} {M : Mh} {Q : QZ} {E : ZX} (h : RdAt M a s fo)
    (q : ∀ M' fo', RdAt M' a ⟨s.last, (if (judge s.poise w).2.1 then s.part else none), (judge s.poise w).2.2⟩ fo' → Fr M a fo M' fo' → Q (.lst ((judge s.poise w).1.map tkD)) M') : z_Reader_heard [.ref a, .int w] M Q E := l_Reader_heardJ rfl h q

-- needs: reader
theorem RdAt.some_iff {M : Mh} {a : Addr} {s : RS} {fo : Option Addr} (h : RdAt M a s fo) : fo.isSome = s.part.isSome := by
  have := h.part
  cases e : s.part with
  | none =>
    rw [e] at this
    cases fo with
    | none => rfl
    | some q => exact False.elim this
  | some ps =>
    rw [e] at this
    cases fo with
    | none => exact False.elim this
    | some q => rfl
theorem isN_rfD (fo : Option Addr) : isN (rfD fo) = !fo.isSome := by cases fo <;> rfl
theorem l_Reader_in_step {a : Addr} {s : RS} {fo : Option Addr} {M : Mh} {Q : QZ} {E : ZX} (h : RdAt M a s fo) (q : Q (.bl s.part.isSome) M) : z_Reader_in_step [.ref a] M Q E := by
  have hm := h.me
  show zFn _ zb_Reader_in_step _ _ _ _
  unfold zFn zb_Reader_in_step
  walk_at "y"
  rw [isN_rfD, Bool.not_not, h.some_iff]
  exact q

-- needs: taker
theorem l_Taker___init__ {a : Addr} {M : Mh} {Q : QZ} {E : ZX} (h : M a = some (.ins "Taker" [])) (q : ∀ M', TkAt M' a none none → (∀ y, y ≠ a → M' y = M y) → Q .non M') : z_Taker___init__ [.ref a] M Q E := by
  show zFn _ zb_Taker___init__ _ _ _ _
  unfold zFn zb_Taker___init__
  walk_at "y"
  exact q _ ⟨mup_same, trivial⟩ fun y hy => mup_ne hy

-- needs: taker row_within
/-- an event told: a frame's row is a changing list at a place that is N -/
def EvA (N : Addr → Prop) (M : Mh) (fo : Option Addr) (d : D) : Option (List Int) → Prop
  | none => d = evD none
  | some r => ∃ x, d = .tup [.str "frame", .ref x] ∧ N x ∧ M x = some (.lst (r.map D.int)) ∧ fo ≠ some x
def EvsA (N : Addr → Prop) (M : Mh) (fo : Option Addr) : List (Option (List Int)) → List D → Prop
  | [], [] => True
  | e :: es, d :: ds => EvA N M fo d e ∧ EvsA N M fo es ds
  | _, _ => False
theorem EvA.imp {N N' : Addr → Prop} {M M' : Mh} {fo fo' : Option Addr} {d : D} {e : Option (List Int)} (k : ∀ x o, N x → M x = some o → fo ≠ some x → N' x ∧ M' x = some o ∧ fo' ≠ some x) (h : EvA N M fo d e) : EvA N' M' fo' d e := by
  cases e with
  | none => exact h
  | some r =>
    obtain ⟨x, h1, h2, h3, h4⟩ := h
    obtain ⟨k1, k2, k3⟩ := k x _ h2 h3 h4
    exact ⟨x, h1, k1, k2, k3⟩
theorem EvsA.imp {N N' : Addr → Prop} {M M' : Mh} {fo fo' : Option Addr} (k : ∀ x o, N x → M x = some o → fo ≠ some x → N' x ∧ M' x = some o ∧ fo' ≠ some x) : ∀ {es : List (Option (List Int))} {ds : List D}, EvsA N M fo es ds → EvsA N' M' fo' es ds
  | [], [], _ => trivial
  | [], _ :: _, h => h.elim
  | _ :: _, [], h => h.elim
  | _ :: _, _ :: _, h => ⟨h.1.imp k, h.2.imp k⟩
theorem EvsA.app {N : Addr → Prop} {M : Mh} {fo : Option Addr} : ∀ {es fs : List (Option (List Int))} {ds gs : List D}, EvsA N M fo es ds → EvsA N M fo fs gs → EvsA N M fo (es ++ fs) (ds ++ gs)
  | [], _, [], _, _, h => h
  | [], _, _ :: _, _, h, _ => h.elim
  | _ :: _, _, [], _, h, _ => h.elim
  | _ :: _, _, _ :: _, _, h, g => ⟨h.1, h.2.app g⟩
theorem EvsA.len {N : Addr → Prop} {M : Mh} {fo : Option Addr} : ∀ {es : List (Option (List Int))} {ds : List D}, EvsA N M fo es ds → ds.length = es.length
  | [], [], _ => rfl
  | [], _ :: _, h => h.elim
  | _ :: _, [], h => h.elim
  | _ :: _, _ :: _, h => by rw [List.length_cons, List.length_cons, h.2.len]
theorem l_Taker_took {a : Addr} {s : Option (List Int)} {fo : Option Addr} {n : Nat} {M : Mh} {Q : QZ} {E : ZX} (h : TkAt M a s fo) (ok : TOk s) (hn : n ≤ 260)
    (q : ∀ M' fo' ds, TkAt M' a (tookT s n).2 fo' → Fr M a fo M' fo' → EvsA (fun y => M y = none) M' fo' (tookT s n).1 ds → Q (.lst ds) M') : z_Taker_took [.ref a, tkD n] M Q E := by
  obtain ⟨k1, k2, k3, _⟩ := tkD_eqs hn
  have hm := h.me
  have hpt := h.part
  have fr0 : ∀ {o : MO} , Fr M a fo (mup M a o) none := fun {o} y o' e h1 h2 => ⟨(mup_ne h1).trans e, (fun z => nomatch z)⟩
  have gone : TkAt (mup M a (.ins "Taker" [("some", .non)])) a none none := ⟨mup_same, trivial⟩
  show zFn _ zb_Taker_took _ _ _ _
  unfold zFn zb_Taker_took
  walk_at "y"
  refine i_eq (tkD_Pl n) (.str _ _) ?_
  rw [k1]
  walk_at "y"
  refine i_bd (fun e => ?_) fun e => ?_
  · -- begin
    have et : tookT s n = ((if s.isSome then [none] else []), some []) := if_pos e
    rw [et] at q
    refine i_seqP (P := fun r M' => M' = M ∧ r = [some (.ref a), some (tkD n), some (.lst ((if s.isSome then [none] else [] : List (Option (List Int))).map evD)), none]) ?_ ?_
    · rintro r M' ⟨rfl, rfl⟩
      walk_at "y"
      refine i_newT fun g hg => ?_
      have ga : g ≠ a := fun z => by rw [z, hm] at hg; cases hg
      walk_at "y"
      refine i_rtG ?_
      refine q _ (some g) _ ⟨mup_same, ga, (mup_ne ga).trans mup_same⟩ (fun y o e1 h1 h2 => ⟨(mup_ne h1).trans (mup_get hg e1), fun z => by cases z; rw [e1] at hg; cases hg⟩) ?_
      cases s with
      | none => exact trivial
      | some l => exact ⟨rfl, trivial⟩
    · intro k hk
      cases es : s with
      | none =>
        rw [es] at hpt hk
        cases fo with
        | some f => exact False.elim hpt
        | none =>
          have hm : M a = some (.ins "Taker" [("some", .non)]) := hm
          walk_at "y"
          exact hk _ _ ⟨rfl, rfl⟩
      | some l =>
        rw [es] at hpt hk
        cases fo with
        | none => exact False.elim hpt
        | some f =>
          have hm : M a = some (.ins "Taker" [("some", .ref f)]) := hm
          walk_at "y"
          exact hk _ _ ⟨rfl, rfl⟩
  · have et : tookT s n = tookB s n := if_neg e
    generalize hJ : tookT s n = J at et q
    cases es : s with
    | none =>
      rw [es] at hpt et
      have et : J = ([], none) := et
      subst et
      cases fo with
      | some f => exact False.elim hpt
      | none =>
        have hm : M a = some (.ins "Taker" [("some", .non)]) := hm
        walk_at "y"
        refine i_newT fun g hg => i_rtN hg ?_
        exact q M none [] ⟨hm, trivial⟩ (Fr.refl _ _ _) trivial
    | some l =>
      rw [es] at hpt et
      have et : J = (if n = 259 then ([], some l) else if n < 256 ∧ l.length < 67 then ([], some (l ++ [(n : Int)])) else ([if n = 257 then withinL l else none], none)) := et
      obtain ⟨hbl, hll⟩ := ok l es
      cases fo with
      | none => exact False.elim hpt
      | some f =>
        have hm : M a = some (.ins "Taker" [("some", .ref f)]) := hm
        obtain ⟨fa, hF⟩ := hpt
        walk_at "y"
        refine i_eq (tkD_Pl n) (.str _ _) ?_
        rw [k2]
        walk_at "y"
        refine i_bd (fun e2 => ?_) fun e2 => ?_
        · rw [if_pos e2] at et
          subst et
          walk_at "y"
          refine i_newT fun g hg => i_rtN hg ?_
          exact q M (some f) [] ⟨hm, fa, hF⟩ (Fr.refl _ _ _) trivial
        · rw [if_neg e2] at et
          by_cases hi : n < 256
          · rw [tkD_int hi]
            walk_at "y"
            refine i_bd (fun h67 => ?_) fun h67 => ?_
            · have h67 : (l.length : Int) < 67 := h67
              rw [if_pos ⟨hi, by omega⟩] at et
              subst et
              walk_at "y"
              refine i_newT fun g hg => i_rtN hg ?_
              refine q _ (some f) [] ⟨(mup_ne (Ne.symm fa)).trans hm, fa, by rw [mup_same]; simp⟩ (fun y o e1 h1 h2 => ⟨(mup_ne (fun z => h2 (by rw [z]))).trans e1, h2⟩) trivial
            · have h67 : ¬ (l.length : Int) < 67 := h67
              rw [if_neg (by omega), if_neg (by omega)] at et
              subst et
              walk_at "y"
              refine i_newT fun g hg => i_rtN hg ?_
              exact q _ none _ gone fr0 ⟨rfl, trivial⟩
          · obtain ⟨sx, hsx⟩ := tkD_str hi
            rw [if_neg (by omega)] at et
            rw [hsx] at k3 ⊢
            walk_at "y"
            have k3 : decide (sx = "end") = decide (n = 257) := k3
            rw [k3]
            refine i_bd (fun e3 => ?_) fun e3 => ?_
            · rw [if_pos e3] at et
              walk_at "y"
              refine l_row_withinR hF hbl hll (fun ew M1 hM1 => ?_) fun rw_ ew g hg => ?_
              · rw [ew] at et
                subst et
                have hm : M1 a = some (.ins "Taker" [("some", .ref f)]) := hM1 _ _ hm
                walk_at "y"
                refine i_newT fun g hg => i_rtN hg ?_
                exact q _ none _ ⟨mup_same, trivial⟩ (fun y o e h1 h2 => ⟨(mup_ne h1).trans (hM1 _ _ e), (fun z => nomatch z)⟩) ⟨rfl, trivial⟩
              · rw [ew] at et
                subst et
                have ga : g ≠ a := fun z => by rw [z, hm] at hg; cases hg
                have hm : mup M g (.lst (rw_.map D.int)) a = some (.ins "Taker" [("some", .ref f)]) := mup_get hg hm
                walk_at "y"
                refine i_newT fun g2 hg2 => i_rtN hg2 ?_
                exact q _ none _ ⟨mup_same, trivial⟩ (fun y o e h1 h2 => ⟨(mup_ne h1).trans (mup_get hg e), (fun z => nomatch z)⟩) ⟨⟨g, rfl, hg, (mup_ne ga).trans mup_same, (fun z => nomatch z)⟩, trivial⟩
            · rw [if_neg e3] at et
              subst et
              walk_at "y"
              refine i_newT fun g hg => i_rtN hg ?_
              exact q _ none _ gone fr0 ⟨rfl, trivial⟩

-- needs: taker
theorem l_Taker_within {a : Addr} {s : Option (List Int)} {fo : Option Addr} {M : Mh} {Q : QZ} {E : ZX} (h : TkAt M a s fo) (q : Q (.bl s.isSome) M) : z_Taker_within [.ref a] M Q E := by
  have hm := h.me
  have e : fo.isSome = s.isSome := by
    have := h.part
    cases s with
    | none => cases fo with | none => rfl | some f => exact False.elim this
    | some l => cases fo with | none => exact False.elim this | some f => rfl
  show zFn _ zb_Taker_within _ _ _ _
  unfold zFn zb_Taker_within
  walk_at "y"
  rw [show isN (rfD fo) = !fo.isSome by cases fo <;> rfl, Bool.not_not, e]
  exact q

-- needs: taker reader
/-- an ear: its reader at r, its taker at k -/
structure ErAt (M : Mh) (e r k : Addr) (sr : RS) (fr : Option Addr) (sk : Option (List Int)) (fk : Option Addr) : Prop where
  rk : r ≠ k
  er : e ≠ r
  ek : e ≠ k
  nre : fr ≠ some e
  nrk : fr ≠ some k
  nke : fk ≠ some e
  nkr : fk ≠ some r
  ff : ∀ q, fr = some q → fk ≠ some q
  me : M e = some (.ins "Ear" [("reader", .ref r), ("taker", .ref k)])
  R : RdAt M r sr fr
  T : TkAt M k sk fk
theorem l_Ear___init__ {e : Addr} {M : Mh} {Q : QZ} {E : ZX} (h : M e = some (.ins "Ear" [])) (q : ∀ M' r k, ErAt M' e r k ⟨[], none, none⟩ none none none → (∀ y o, M y = some o → y ≠ e → M' y = some o ∧ y ≠ r ∧ y ≠ k) → Q .non M') : z_Ear___init__ [.ref e] M Q E := by
  show zFn _ zb_Ear___init__ _ _ _ _
  unfold zFn zb_Ear___init__
  walk_at "y"
  intro r hr
  have er : e ≠ r := ne_of_m h hr
  refine l_Reader___init__ mup_same fun M1 hR h1 => ⟨rfl, ?_⟩
  have he1 : M1 e = some (.ins "Ear" []) := (h1 e er).trans (mup_get hr h)
  walk_at "y"
  intro k hk
  have hR2 : RdAt (mup M1 e (.ins "Ear" [("reader", .ref r)])) r ⟨[], none, none⟩ none := ⟨(mup_ne (Ne.symm er)).trans hR.me, trivial⟩
  have rk : r ≠ k := ne_of_m hR2.me hk
  have ek : e ≠ k := fun z => by
    have hk : mup M1 e (.ins "Ear" [("reader", .ref r)]) k = none := hk
    rw [← z, mup_same] at hk; cases hk
  have hk1 : M1 k = none := by
    have hk : mup M1 e (.ins "Ear" [("reader", .ref r)]) k = none := hk
    rwa [mup_ne (Ne.symm ek)] at hk
  refine l_Taker___init__ mup_same fun M2 hT h2 => ⟨rfl, ?_⟩
  have he2 : M2 e = some (.ins "Ear" [("reader", .ref r)]) := (h2 e ek).trans ((mup_ne ek).trans mup_same)
  have hr2 : M2 r = some (.ins "Reader" [("last", .lst []), ("part", .non), ("poise", .non)]) := (h2 r rk).trans ((mup_ne rk).trans hR2.me)
  walk_at "y"
  refine q _ r k ⟨rk, er, ek, (fun z => nomatch z), (fun z => nomatch z), (fun z => nomatch z), (fun z => nomatch z), (fun _ z => nomatch z), mup_same, ⟨(mup_ne (Ne.symm er)).trans hr2, trivial⟩, ⟨(mup_ne (Ne.symm ek)).trans hT.me, trivial⟩⟩ fun y o hy hye => ?_
  have hyr : y ≠ r := ne_of_m hy hr
  have h3 : M1 y = some o := (h1 y hyr).trans (mup_get hr hy)
  have hyk : y ≠ k := ne_of_m h3 hk1
  exact ⟨(mup_ne hye).trans ((h2 y hyk).trans ((mup_ne hyk).trans ((mup_ne hye).trans h3))), hyr, hyk⟩

-- needs: Ear___init__
theorem l_Ear_in_step {e r k : Addr} {sr : RS} {fr : Option Addr} {sk : Option (List Int)} {fk : Option Addr} {M : Mh} {Q : QZ} {E : ZX} (h : ErAt M e r k sr fr sk fk) (q : Q (.bl sr.part.isSome) M) : z_Ear_in_step [.ref e] M Q E := by
  have h1 := h.me
  have h2 := h.R.me
  show zFn _ zb_Ear_in_step _ _ _ _
  unfold zFn zb_Ear_in_step
  walk_at "y"
  refine l_Reader_in_step h.R ?_
  exact q

theorem l__law_draw {t : Addr} {n : Int} {M : Mh} {Q : QZ} {E : ZX} (ht : M t = some .town) (h0 : 0 < n) (h1 : n < 1073741824) (q : ∀ k, 0 ≤ k → k < n → Q (.int k) M) : z__law_draw [.ref t, .int n] M Q E := ⟨ht, h0, h1, q⟩

theorem l__law_pick {t : Addr} {ds : List D} {M : Mh} {Q : QZ} {E : ZX} (ht : M t = some .town) (h0 : ds ≠ []) (h1 : ds.length < 1073741824) (q : ∀ d, d ∈ ds → Q d M) : z__law_pick [.ref t, .lst ds] M Q E := by
  have lp : 0 < ds.length := List.length_pos_iff.mpr h0
  show zFn false zb__law_pick _ _ _ _
  unfold zFn zb__law_pick
  walk_at "z"
  refine l__law_draw ht (by omega) (by omega) fun k hk hk2 => ?_
  obtain ⟨j, rfl⟩ : ∃ j : Nat, k = j := ⟨k.toNat, by omega⟩
  have hj : j < ds.length := by omega
  refine i_ixL (atI_nat (List.getElem?_eq_getElem hj)) ?_
  walk_at "z"
  exact q _ (List.getElem_mem hj)

theorem l__law_ten {w : Int} {M : Mh} {Q : QZ} {E : ZX} (q : Q (.lst ((ten w).map D.int)) M) : z__law_ten [.int w] M Q E := by
  show zFn false zb__law_ten _ _ _ _
  unfold zFn zb__law_ten
  walk_at "z"
  refine zLcL_mapm (as := [512, 256, 128, 64, 32, 16, 8, 4, 2, 1]) (f := D.int) (g := fun b => .int (w / b % 2)) (fun i hi Q hq => ?_) ?_
  · have hc : CDiv w i := by
      have : ∀ i ∈ ([512, 256, 128, 64, 32, 16, 8, 4, 2, 1] : List Int), 0 < i ∧ i < 1073741824 := by decide
      exact this i hi
    walk_at "z"
    refine i_div hc ?_
    walk_at "z"
    exact hq
  · walk_at "z"
    exact q

theorem l__law_even {M : Mh} {Q : QZ} {E : ZX} (q : Q (.tup (tE.map D.int)) M) : z__law_even [] M Q E := (And.intro (by decide) q : 180 ≤ sizeLine ∧ Q (.tup (tE.map D.int)) M)

theorem l__law_heavy {M : Mh} {Q : QZ} {E : ZX} (q : Q (.tup (tH.map D.int)) M) : z__law_heavy [] M Q E := (And.intro (by decide) q : 124 ≤ sizeLine ∧ Q (.tup (tH.map D.int)) M)

-- needs: items
theorem l__law_has_pair {n : Nat} {M : Mh} {Q : QZ} {E : ZX} (q : Q (.bl (decide (180 ≤ n))) M) : z__law_has_pair [itD n] M Q E := by
  show zFn false zb__law_has_pair _ _ _ _
  unfold zFn zb__law_has_pair
  by_cases hs : n < 256
  · rw [itD_int hs]
    walk_at "z"
    rw [show decide ((180 : Int) ≤ n) = decide (180 ≤ n) by
      by_cases h : 180 ≤ n
      · rw [decide_eq_true h, decide_eq_true (by omega)]
      · rw [decide_eq_false h, decide_eq_false (by omega)]]
    exact q
  · have e : ∃ s, itD n = .str s := by
      unfold itD; rw [if_neg hs]; repeat' split
      all_goals exact ⟨_, rfl⟩
    obtain ⟨s, e⟩ := e
    rw [e]
    walk_at "z"
    rw [decide_eq_true (by omega)] at q; exact q

theorem l__law_put {n : Nat} {p : Int} {M : Mh} {Q : QZ} {E : ZX} (hn : n < 260) (hp : pm p) (q : Q (.tup [.int (putW n p), .int (putP n p)]) M) : z__law_put [itD n, .int p] M Q E := by
  show zFn false zb__law_put _ _ _ _
  unfold zFn zb__law_put
  walk_at "z"
  refine l__law_has_pair ?_
  walk_at "z"
  rcases it_cases hn with h | h | h | h | h | h
  · rw [decide_eq_false (by omega), itD_int (by omega)]
    walk_at "z"
    refine l__law_even ?_
    walk_at "z"
    refine i_ixT (atI_nat (tE_at n h)) ?_
    walk_at "z"
    rw [putW_e h, putP_e h] at q
    exact q
  · rw [decide_eq_true (by omega), itD_int (by omega)]
    walk_at "z"
    refine l__law_heavy ?_
    walk_at "z"
    rw [show ((n : Int) - 180) = ((n - 180 : Nat) : Int) by omega]
    refine i_ixT (atI_nat (tH_at (n - 180) (by omega))) ?_
    walk_at "z"
    have hn' : ¬ n < 180 := by omega
    rw [putP_h hn'] at q
    rcases hp with e | e <;> subst e
    · rw [putW_l hn' (by decide), hvW_b h.2] at q
      walk_at "z"
      exact q
    · rw [putW_h hn' (by decide), hvW_b h.2] at q
      walk_at "z"
      exact q
  · subst h
    rw [it256]
    walk_at "z"
    rcases hp with e | e <;> subst e <;> walk_at "z" <;> exact q
  all_goals
    subst h
    first | rw [it257] | rw [it258] | rw [it259]
    walk_at "z"
    refine l__law_heavy ?_
    walk_at "z"
    refine i_idx rfl rfl rfl ?_
    walk_at "z"
    rcases hp with e | e <;> subst e <;> walk_at "z" <;> exact q

-- needs: items
/-! items sent from a poise -/
def sentB : List Nat → Int → List Int
  | [], _ => []
  | n :: r, p => ten (putW n p) ++ sentB r (putP n p)
def sentP : List Nat → Int → Int
  | [], p => p
  | n :: r, p => sentP r (putP n p)
theorem sentB_len : ∀ (is : List Nat) (p : Int), (sentB is p).length = 10 * is.length
  | [], _ => rfl
  | n :: r, p => by
    show (ten _ ++ sentB r _).length = _
    rw [List.length_append, ten_len, sentB_len r, List.length_cons]; omega
theorem sentB_bits : ∀ (is : List Nat) (p : Int), bitL (sentB is p)
  | [], _ => fun _ h => nomatch h
  | n :: r, p => bitL_app (ten_bits _) (sentB_bits r _)
theorem sentP_pm : ∀ (is : List Nat) {p : Int}, pm p → pm (sentP is p)
  | [], _, h => h
  | n :: r, _, h => sentP_pm r (putP_pm h)
theorem sentB_app : ∀ (a b : List Nat) (p : Int), sentB (a ++ b) p = sentB a p ++ sentB b (sentP a p)
  | [], _, _ => rfl
  | n :: r, b, p => by
    show ten _ ++ sentB (r ++ b) _ = ten _ ++ sentB r _ ++ _
    rw [sentB_app r b, List.append_assoc]; rfl
theorem sentP_app : ∀ (a b : List Nat) (p : Int), sentP (a ++ b) p = sentP b (sentP a p)
  | [], _, _ => rfl
  | n :: r, b, p => sentP_app r b (putP n p)

-- needs: sent
theorem l__law_sent {is : List Nat} {p : Int} {M : Mh} {Q : QZ} {E : ZX} (h : ∀ n ∈ is, n < 260) (hp : pm p) (hl : is.length ≤ 1000000) (q : Q (.tup [.lst ((sentB is p).map D.int), .int (sentP is p)]) M) : z__law_sent [.lst (is.map itD), .int p] M Q E := by
  show zFn false zb__law_sent _ _ _ _
  unfold zFn zb__law_sent
  walk_at "z"
  refine zLoop_map (fun l r M' => ∃ (acc : List Int) (u : Int) (x y : Option D), M' = M ∧ r = [some (.lst (is.map itD)), some (.int u), some (.lst (acc.map D.int)), x, y] ∧ pm u ∧ (∀ n ∈ l, n < 260) ∧ acc ++ sentB l u = sentB is p ∧ sentP l u = sentP is p) ?_ ?_ ⟨[], p, _, _, rfl, rfl, hp, h, rfl, rfl⟩
  · rintro r M' ⟨acc, u, x, y, rfl, rfl, hu, _, e1, e2⟩
    walk_at "z"
    rw [← e1, ← e2] at q
    rw [show sentB [] u = [] from rfl, List.append_nil] at q
    exact q
  · rintro n l r M' k ⟨acc, u, x, y, rfl, rfl, hu, hb, e1, e2⟩ hk
    have hn := hb n List.mem_cons_self
    walk_at "z"
    refine l__law_put hn hu ?_
    walk_at "z"
    refine l__law_ten ?_
    walk_at "z"
    have hlen : acc.length + 10 ≤ 10000000 := by
      have := congrArg List.length e1
      rw [List.length_append, sentB_len, sentB_len, List.length_cons] at this
      omega
    refine i_addIs (by rw [ten_len]; omega) ?_
    walk_at "z"
    exact hk _ _ ⟨acc ++ ten (putW n u), putP n u, _, _, rfl, rfl, putP_pm hu, fun m hm => hb m (List.mem_cons_of_mem _ hm), by rw [List.append_assoc]; exact e1, e2⟩

theorem l__law_byte {t : Addr} {M : Mh} {Q : QZ} {E : ZX} (ht : M t = some .town) (q : ∀ n : Nat, n < 256 → Q (.int n) M) : z__law_byte [.ref t] M Q E := by
  show zFn false zb__law_byte _ _ _ _
  unfold zFn zb__law_byte
  walk_at "z"
  refine l__law_draw ht (by decide) (by decide) fun k hk hk2 => ?_
  walk_at "z"
  refine i_bd (fun e => ?_) (fun e => ?_)
  · walk_at "z"
    refine l__law_pick ht (by simp) (by show 8 < _; decide) fun d hd => ?_
    simp only [List.mem_cons, List.not_mem_nil, or_false] at hd
    rcases hd with e | e | e | e | e | e | e | e <;> subst e
    · exact q 0 (by decide)
    · exact q 1 (by decide)
    · exact q 178 (by decide)
    · exact q 179 (by decide)
    · exact q 180 (by decide)
    · exact q 181 (by decide)
    · exact q 254 (by decide)
    · exact q 255 (by decide)
  · walk_at "z"
    refine i_bd (fun h => ?_) (fun h => ?_)
    · walk_at "z"
      refine l__law_draw ht (by decide) (by decide) fun k hk hk2 => ?_
      walk_at "z"
      have := q (180 + k.toNat) (by omega)
      rw [show ((180 + k.toNat : Nat) : Int) = 180 + k by omega] at this; exact this
    · walk_at "z"
      refine l__law_draw ht (by decide) (by decide) fun k hk hk2 => ?_
      walk_at "z"
      have := q k.toNat (by omega)
      rw [show ((k.toNat : Nat) : Int) = k by omega] at this; exact this

-- needs: rows
theorem l__law_row {t : Addr} {most : Nat} {M : Mh} {Q : QZ} {E : ZX} (ht : M t = some .town) (hm : most ≤ 1000) (q : ∀ ns : List Int, byteL ns → ns.length ≤ most → Q (.lst (ns.map D.int)) M) : z__law_row [.ref t, .int most] M Q E := by
  show zFn _ zb__law_row _ _ _ _
  unfold zFn zb__law_row
  walk_at "z"
  refine l__law_draw ht (by omega) (by omega) fun k hk hk2 => ?_
  walk_at "z"
  refine l__law_pick ht (by simp) (by show 5 < _; decide) fun d hd => ?_
  obtain ⟨m, rfl, h0, h1⟩ : ∃ m : Int, d = .int m ∧ 0 ≤ m ∧ m ≤ 1000 := by
    simp only [List.mem_cons, List.not_mem_nil, or_false] at hd
    rcases hd with e | e | e | e | e
    · exact ⟨_, e, by decide, by decide⟩
    · exact ⟨_, e, by decide, by decide⟩
    · exact ⟨_, e, by decide, by decide⟩
    · exact ⟨_, e, by decide, by decide⟩
    · exact ⟨k, e, by omega, by omega⟩
  walk_at "z"
  have hj : ∃ j : Nat, (if (most : Int) < m then (most : Int) else m) = j ∧ j ≤ most := by
    split
    · exact ⟨most, rfl, Nat.le_refl _⟩
    · exact ⟨m.toNat, by omega, by omega⟩
  obtain ⟨j, ej, hj⟩ := hj
  rw [ej]
  walk_at "z"
  refine zLcL_ind (fun l acc M' => M' = M ∧ ∃ ns : List Int, acc = ns.map D.int ∧ byteL ns ∧ ns.length + l.length ≤ most) ?_ ?_ ⟨rfl, [], rfl, (fun _ h => nomatch h), ?_⟩
  · rintro acc M' ⟨rfl, ns, rfl, h, hl⟩
    walk_at "z"
    exact q ns h (by simpa using hl)
  · rintro d l acc M' q2 ⟨rfl, ns, rfl, h, hl⟩ h1 h2
    walk_at "z"
    refine l__law_byte ht fun n hn => ?_
    refine h2 _ _ ⟨rfl, ns ++ [(n : Int)], by rw [List.map_append]; rfl, byteL_app h (fun m hm => by rw [List.mem_singleton.mp hm]; omega), by rw [List.length_append]; rw [List.length_cons] at hl; simp only [List.length_cons, List.length_nil]; omega⟩
  · rw [rangeD_len]; simp only [List.length_nil]; omega

-- needs: rows
theorem l__law_check {ns : List Int} {M : Mh} {Q : QZ} {E : ZX} (hl : ns.length ≤ 1000) (q : Q (.lst ((checkL ns).map D.int)) M) : z__law_check [.lst (ns.map D.int)] M Q E := by
  show zFn _ zb__law_check _ _ _ _
  unfold zFn zb__law_check
  walk_at "z"
  rw [Int.toNat_natCast]
  refine zLoop_range (fun k r M' => M' = M ∧ ∃ (a : Int) (x : Option D), r = [some (.lst (ns.map D.int)), some (.int a), x] ∧ a + wsum k (ns.drop k) = wsum 0 ns) ?_ ?_ ⟨rfl, 0, _, rfl, Int.zero_add _⟩
  · rintro r M' ⟨rfl, a, x, rfl, e⟩
    rw [List.drop_length] at e
    walk_at "z"
    rw [show a = wsum 0 ns from (Int.add_zero a).symm.trans e]
    exact q
  · rintro k r M' kk hk ⟨rfl, a, x, rfl, e⟩ hn
    rw [Int.zero_add]
    rw [List.drop_eq_getElem_cons hk] at e
    walk_at "z"
    refine i_ixL (atI_ints hk) ?_
    walk_at "z"
    exact hn _ _ ⟨rfl, _, _, rfl, by rw [← e, Int.add_assoc]; rfl⟩

-- needs: items rows
def frameD (ns : List Int) : List D := [.str "begin", .int ns.length] ++ ns.map D.int ++ (checkL ns).map D.int ++ [.str "end"]
theorem frameD_len (ns : List Int) : (frameD ns).length = ns.length + 5 := by
  unfold frameD; simp only [List.length_append, List.length_map, List.length_cons, List.length_nil, checkL]; omega

-- needs: framedef
theorem l__law_frame {ns : List Int} {M : Mh} {Q : QZ} {E : ZX} (hl : ns.length ≤ 1000) (q : Q (.lst (frameD ns)) M) : z__law_frame [.lst (ns.map D.int)] M Q E := by
  show zFn _ zb__law_frame _ _ _ _
  unfold zFn zb__law_frame
  walk_at "z"
  refine i_addL (by rw [List.length_map]; show 2 + _ ≤ 2 ^ 24; omega) ?_
  walk_at "z"
  refine l__law_check hl ?_
  walk_at "z"
  refine i_addL (by rw [List.length_append, List.length_map, List.length_map]; show 2 + _ + 2 ≤ 2 ^ 24; omega) ?_
  walk_at "z"
  refine i_addL (by rw [List.length_append, List.length_append, List.length_map, List.length_map]; show 2 + _ + 2 + 1 ≤ 2 ^ 24; omega) ?_
  exact q

-- needs: items
/-- items between frames: rests and skips -/
def gapL (g : List Nat) : Prop := (∀ n ∈ g, n = 258 ∨ n = 259) ∧ g.length ≤ 2
theorem l__law_gap {t : Addr} {M : Mh} {Q : QZ} {E : ZX} (ht : M t = some .town) (q : ∀ g : List Nat, gapL g → Q (.lst (g.map itD)) M) : z__law_gap [.ref t] M Q E := by
  show zFn _ zb__law_gap _ _ _ _
  unfold zFn zb__law_gap
  walk_at "z"
  refine l__law_pick ht (by simp) (by show 4 < _; decide) fun d hd => ?_
  obtain ⟨m, rfl, hm⟩ : ∃ m : Nat, d = .int m ∧ m ≤ 2 := by
    simp only [List.mem_cons, List.not_mem_nil, or_false] at hd
    rcases hd with e | e | e | e
    · exact ⟨0, e, by decide⟩
    · exact ⟨0, e, by decide⟩
    · exact ⟨1, e, by decide⟩
    · exact ⟨2, e, by decide⟩
  walk_at "z"
  rw [Int.toNat_natCast]
  refine zLcL_ind (fun l acc M' => M' = M ∧ ∃ g : List Nat, acc = g.map itD ∧ (∀ n ∈ g, n = 258 ∨ n = 259) ∧ g.length + l.length = m) ?_ ?_ ⟨rfl, [], rfl, (fun _ h => nomatch h), ?_⟩
  · rintro acc M' ⟨rfl, g, rfl, h, hl⟩
    walk_at "z"
    exact q g ⟨h, by simp only [List.length_nil] at hl; omega⟩
  · rintro d l acc M' q2 ⟨rfl, g, rfl, h, hl⟩ h1 h2
    walk_at "z"
    refine l__law_pick ht (by simp) (by show 3 < _; decide) fun d hd => ?_
    obtain ⟨x, rfl, hx⟩ : ∃ x : Nat, d = itD x ∧ (x = 258 ∨ x = 259) := by
      simp only [List.mem_cons, List.not_mem_nil, or_false] at hd
      rcases hd with e | e | e
      · exact ⟨258, e, .inl rfl⟩
      · exact ⟨258, e, .inl rfl⟩
      · exact ⟨259, e, .inr rfl⟩
    refine h2 _ _ ⟨rfl, g ++ [x], by rw [List.map_append]; rfl, fun n hn => ?_, by rw [List.length_append]; rw [List.length_cons] at hl; simp only [List.length_cons, List.length_nil]; omega⟩
    rcases List.mem_append.mp hn with hn | hn
    · exact h n hn
    · rw [List.mem_singleton.mp hn]; exact hx
  · rw [rangeD_len]; simp

/-! when a small cell draws no 0: a walk by equal steps through the rests by a prime -/
def zMx (x : Nat) : Bool := Nat.beq (Nat.mod (Nat.div (Nat.mod (Nat.add (Nat.mul (Nat.div (Nat.mod (Nat.pow x 5) 4294967279) 64) 69621) (Nat.mod (Nat.pow x 5) 4294967279)) 4294967231) 8) 8) 0
def fndM (s : Nat) (f : Nat) : Nat → Bool := Nat.rec (motive := fun _ => Nat → Bool) (fun _ => false) (fun _ ih x => cond (zMx x) (ih (Nat.mod (Nat.add x s) 4294967291)) true) f
def leafM (s w j : Nat) : Bool := cond (zMx (Nat.mod (Nat.mul w j) 4294967291)) (fndM s 15 (Nat.mod (Nat.add (Nat.mul w j) s) 4294967291)) true
def chkM (s : Nat) (d : Nat) : Nat → Nat → Bool := Nat.rec (motive := fun _ => Nat → Nat → Bool) (fun w j => leafM s w j) (fun _ ih w j => cond (ih w (Nat.mul 2 j)) (ih w (Nat.succ (Nat.mul 2 j))) false) d
theorem chkM_succ (s d w j : Nat) : chkM s (d + 1) w j = cond (chkM s d w (2 * j)) (chkM s d w (2 * j + 1)) false := rfl
theorem chkM_ok {s w : Nat} : ∀ {d j : Nat}, chkM s d w j = true → ∀ {i : Nat}, i < 2 ^ d → leafM s w (j * 2 ^ d + i) = true
  | 0, j, h, i, hi => by
    have : i = 0 := by omega
    subst this
    rw [Nat.pow_zero, Nat.mul_one]; exact h
  | d + 1, j, h, i, hi => by
    rw [chkM_succ] at h
    cases e : chkM s d w (2 * j) with
    | false => rw [e] at h; cases h
    | true =>
      rw [e] at h
      have hp : 2 ^ (d + 1) = 2 * 2 ^ d := by rw [Nat.pow_succ, Nat.mul_comm]
      by_cases hl : i < 2 ^ d
      · have := chkM_ok e hl
        rwa [show 2 * j * 2 ^ d + i = j * 2 ^ (d + 1) + i by rw [hp, Nat.mul_comm 2 j, Nat.mul_assoc]] at this
      · have := chkM_ok (show chkM s d w (2 * j + 1) = true from h) (i := i - 2 ^ d) (by omega)
        rwa [show (2 * j + 1) * 2 ^ d + (i - 2 ^ d) = j * 2 ^ (d + 1) + i by rw [hp, Nat.add_mul, Nat.mul_comm 2 j, Nat.mul_assoc, Nat.one_mul]; omega] at this
theorem fndM_ok {s : Nat} : ∀ {f x : Nat}, x < 4294967291 → fndM s f x = true → ∃ t, t < f ∧ zMx ((x + t * s) % 4294967291) = false
  | 0, x, _, h => nomatch h
  | f + 1, x, hx, h => by
    have h' : cond (zMx x) (fndM s f ((x + s) % 4294967291)) true = true := h
    cases e : zMx x with
    | false => exact ⟨0, by omega, by rw [Nat.zero_mul, Nat.add_zero, Nat.mod_eq_of_lt hx]; exact e⟩
    | true =>
      rw [e] at h'
      obtain ⟨t, ht, hz⟩ := fndM_ok (Nat.mod_lt _ (by decide)) h'
      refine ⟨t + 1, by omega, ?_⟩
      rwa [Nat.mod_add_mod, show x + s + t * s = x + (t + 1) * s by rw [Nat.add_mul, Nat.one_mul]; omega] at hz
theorem nmodM (a b : Nat) : Nat.mod a b = a % b := rfl
theorem nmulM (a b : Nat) : Nat.mul a b = a * b := rfl
theorem naddM (a b : Nat) : Nat.add a b = a + b := rfl
theorem leafM_eq (s w j : Nat) : leafM s w j = cond (zMx (Nat.mod (Nat.mul w j) 4294967291)) (fndM s 15 (Nat.mod (Nat.add (Nat.mul w j) s) 4294967291)) true := rfl
theorem leafM_ok {s w j : Nat} (h : leafM s w j = true) : ∃ t, t < 16 ∧ zMx ((w * j + t * s) % 4294967291) = false := by
  have h' := h
  rw [leafM_eq, nmodM, nmodM, naddM, nmulM] at h'
  generalize h15 : (15 : Nat) = f15 at h'
  cases e : zMx ((w * j) % 4294967291) with
  | false => exact ⟨0, by decide, by rw [Nat.zero_mul, Nat.add_zero]; exact e⟩
  | true =>
    rw [e, cond_true] at h'
    obtain ⟨t, ht, hz⟩ := fndM_ok (s := s) (f := f15) (x := (w * j + s) % 4294967291) (Nat.mod_lt _ (by decide)) h'
    refine ⟨t + 1, by omega, ?_⟩
    rwa [Nat.mod_add_mod, show w * j + s + t * s = w * j + (t + 1) * s by rw [Nat.add_mul, Nat.one_mul]; omega] at hz

theorem ck0_1 : chkM 104729 17 3272781250 0 = true := by decide +kernel
theorem ck1_1 : chkM 104729 13 3272781250 16 = true := by decide +kernel
theorem ck0_2 : chkM 209458 17 2250595209 0 = true := by decide +kernel
theorem ck1_2 : chkM 209458 13 2250595209 16 = true := by decide +kernel
theorem ck0_3 : chkM 314187 17 1228409168 0 = true := by decide +kernel
theorem ck1_3 : chkM 314187 13 1228409168 16 = true := by decide +kernel
theorem ck0_4 : chkM 418916 17 206223127 0 = true := by decide +kernel
theorem ck1_4 : chkM 418916 13 206223127 16 = true := by decide +kernel
theorem ck0_5 : chkM 523645 17 3479004377 0 = true := by decide +kernel
theorem ck1_5 : chkM 523645 13 3479004377 16 = true := by decide +kernel
theorem ck0_6 : chkM 628374 17 2456818336 0 = true := by decide +kernel
theorem ck1_6 : chkM 628374 13 2456818336 16 = true := by decide +kernel
theorem ck0_7 : chkM 733103 17 1434632295 0 = true := by decide +kernel
theorem ck1_7 : chkM 733103 13 1434632295 16 = true := by decide +kernel
theorem ck0_8 : chkM 837832 17 412446254 0 = true := by decide +kernel
theorem ck1_8 : chkM 837832 13 412446254 16 = true := by decide +kernel
theorem ck0_9 : chkM 942561 17 3685227504 0 = true := by decide +kernel
theorem ck1_9 : chkM 942561 13 3685227504 16 = true := by decide +kernel
theorem ck0_10 : chkM 1047290 17 2663041463 0 = true := by decide +kernel
theorem ck1_10 : chkM 1047290 13 2663041463 16 = true := by decide +kernel
theorem ck0_11 : chkM 1152019 17 1640855422 0 = true := by decide +kernel
theorem ck1_11 : chkM 1152019 13 1640855422 16 = true := by decide +kernel
theorem ck0_12 : chkM 1256748 17 618669381 0 = true := by decide +kernel
theorem ck1_12 : chkM 1256748 13 618669381 16 = true := by decide +kernel
theorem ck0_13 : chkM 1361477 17 3891450631 0 = true := by decide +kernel
theorem ck1_13 : chkM 1361477 13 3891450631 16 = true := by decide +kernel
theorem ck0_14 : chkM 1466206 17 2869264590 0 = true := by decide +kernel
theorem ck1_14 : chkM 1466206 13 2869264590 16 = true := by decide +kernel
theorem ck0_15 : chkM 1570935 17 1847078549 0 = true := by decide +kernel
theorem ck1_15 : chkM 1570935 13 1847078549 16 = true := by decide +kernel
theorem ck0_16 : chkM 1675664 17 824892508 0 = true := by decide +kernel
theorem ck1_16 : chkM 1675664 13 824892508 16 = true := by decide +kernel
theorem ck0_17 : chkM 1780393 17 4097673758 0 = true := by decide +kernel
theorem ck1_17 : chkM 1780393 13 4097673758 16 = true := by decide +kernel
theorem ck0_18 : chkM 1885122 17 3075487717 0 = true := by decide +kernel
theorem ck1_18 : chkM 1885122 13 3075487717 16 = true := by decide +kernel
theorem ck0_19 : chkM 1989851 17 2053301676 0 = true := by decide +kernel
theorem ck1_19 : chkM 1989851 13 2053301676 16 = true := by decide +kernel
theorem ck0_20 : chkM 2094580 17 1031115635 0 = true := by decide +kernel
theorem ck1_20 : chkM 2094580 13 1031115635 16 = true := by decide +kernel
theorem ck0_21 : chkM 2199309 17 8929594 0 = true := by decide +kernel
theorem ck1_21 : chkM 2199309 13 8929594 16 = true := by decide +kernel
theorem ck0_22 : chkM 2304038 17 3281710844 0 = true := by decide +kernel
theorem ck1_22 : chkM 2304038 13 3281710844 16 = true := by decide +kernel
theorem ck0_23 : chkM 2408767 17 2259524803 0 = true := by decide +kernel
theorem ck1_23 : chkM 2408767 13 2259524803 16 = true := by decide +kernel
theorem ck0_24 : chkM 2513496 17 1237338762 0 = true := by decide +kernel
theorem ck1_24 : chkM 2513496 13 1237338762 16 = true := by decide +kernel
theorem ck0_25 : chkM 2618225 17 215152721 0 = true := by decide +kernel
theorem ck1_25 : chkM 2618225 13 215152721 16 = true := by decide +kernel
theorem ck0_26 : chkM 2722954 17 3487933971 0 = true := by decide +kernel
theorem ck1_26 : chkM 2722954 13 3487933971 16 = true := by decide +kernel
theorem ck0_27 : chkM 2827683 17 2465747930 0 = true := by decide +kernel
theorem ck1_27 : chkM 2827683 13 2465747930 16 = true := by decide +kernel
theorem ck0_28 : chkM 2932412 17 1443561889 0 = true := by decide +kernel
theorem ck1_28 : chkM 2932412 13 1443561889 16 = true := by decide +kernel
theorem ck0_29 : chkM 3037141 17 421375848 0 = true := by decide +kernel
theorem ck1_29 : chkM 3037141 13 421375848 16 = true := by decide +kernel
theorem ck0_30 : chkM 3141870 17 3694157098 0 = true := by decide +kernel
theorem ck1_30 : chkM 3141870 13 3694157098 16 = true := by decide +kernel
theorem ck0_31 : chkM 3246599 17 2671971057 0 = true := by decide +kernel
theorem ck1_31 : chkM 3246599 13 2671971057 16 = true := by decide +kernel
theorem ck0_32 : chkM 3351328 17 1649785016 0 = true := by decide +kernel
theorem ck1_32 : chkM 3351328 13 1649785016 16 = true := by decide +kernel
theorem ck0_33 : chkM 3456057 17 627598975 0 = true := by decide +kernel
theorem ck1_33 : chkM 3456057 13 627598975 16 = true := by decide +kernel
theorem ck0_34 : chkM 3560786 17 3900380225 0 = true := by decide +kernel
theorem ck1_34 : chkM 3560786 13 3900380225 16 = true := by decide +kernel
theorem ck0_35 : chkM 3665515 17 2878194184 0 = true := by decide +kernel
theorem ck1_35 : chkM 3665515 13 2878194184 16 = true := by decide +kernel
theorem ck0_36 : chkM 3770244 17 1856008143 0 = true := by decide +kernel
theorem ck1_36 : chkM 3770244 13 1856008143 16 = true := by decide +kernel
theorem ck0_37 : chkM 3874973 17 833822102 0 = true := by decide +kernel
theorem ck1_37 : chkM 3874973 13 833822102 16 = true := by decide +kernel
theorem ck0_38 : chkM 3979702 17 4106603352 0 = true := by decide +kernel
theorem ck1_38 : chkM 3979702 13 4106603352 16 = true := by decide +kernel
theorem ck0_39 : chkM 4084431 17 3084417311 0 = true := by decide +kernel
theorem ck1_39 : chkM 4084431 13 3084417311 16 = true := by decide +kernel
theorem ck0_40 : chkM 4189160 17 2062231270 0 = true := by decide +kernel
theorem ck1_40 : chkM 4189160 13 2062231270 16 = true := by decide +kernel
theorem ck0_41 : chkM 4293889 17 1040045229 0 = true := by decide +kernel
theorem ck1_41 : chkM 4293889 13 1040045229 16 = true := by decide +kernel
theorem ck0_42 : chkM 4398618 17 17859188 0 = true := by decide +kernel
theorem ck1_42 : chkM 4398618 13 17859188 16 = true := by decide +kernel
theorem ck0_43 : chkM 4503347 17 3290640438 0 = true := by decide +kernel
theorem ck1_43 : chkM 4503347 13 3290640438 16 = true := by decide +kernel
theorem ck0_44 : chkM 4608076 17 2268454397 0 = true := by decide +kernel
theorem ck1_44 : chkM 4608076 13 2268454397 16 = true := by decide +kernel
theorem ck0_45 : chkM 4712805 17 1246268356 0 = true := by decide +kernel
theorem ck1_45 : chkM 4712805 13 1246268356 16 = true := by decide +kernel
theorem ck0_46 : chkM 4817534 17 224082315 0 = true := by decide +kernel
theorem ck1_46 : chkM 4817534 13 224082315 16 = true := by decide +kernel
theorem ck0_47 : chkM 4922263 17 3496863565 0 = true := by decide +kernel
theorem ck1_47 : chkM 4922263 13 3496863565 16 = true := by decide +kernel
theorem ck0_48 : chkM 5026992 17 2474677524 0 = true := by decide +kernel
theorem ck1_48 : chkM 5026992 13 2474677524 16 = true := by decide +kernel
theorem ck0_49 : chkM 5131721 17 1452491483 0 = true := by decide +kernel
theorem ck1_49 : chkM 5131721 13 1452491483 16 = true := by decide +kernel
theorem ck0_50 : chkM 5236450 17 430305442 0 = true := by decide +kernel
theorem ck1_50 : chkM 5236450 13 430305442 16 = true := by decide +kernel
theorem ck0_51 : chkM 5341179 17 3703086692 0 = true := by decide +kernel
theorem ck1_51 : chkM 5341179 13 3703086692 16 = true := by decide +kernel
theorem ck0_52 : chkM 5445908 17 2680900651 0 = true := by decide +kernel
theorem ck1_52 : chkM 5445908 13 2680900651 16 = true := by decide +kernel
theorem ck0_53 : chkM 5550637 17 1658714610 0 = true := by decide +kernel
theorem ck1_53 : chkM 5550637 13 1658714610 16 = true := by decide +kernel
theorem ck0_54 : chkM 5655366 17 636528569 0 = true := by decide +kernel
theorem ck1_54 : chkM 5655366 13 636528569 16 = true := by decide +kernel
theorem ck0_55 : chkM 5760095 17 3909309819 0 = true := by decide +kernel
theorem ck1_55 : chkM 5760095 13 3909309819 16 = true := by decide +kernel
theorem ck0_56 : chkM 5864824 17 2887123778 0 = true := by decide +kernel
theorem ck1_56 : chkM 5864824 13 2887123778 16 = true := by decide +kernel
theorem ck0_57 : chkM 5969553 17 1864937737 0 = true := by decide +kernel
theorem ck1_57 : chkM 5969553 13 1864937737 16 = true := by decide +kernel
theorem ck0_58 : chkM 6074282 17 842751696 0 = true := by decide +kernel
theorem ck1_58 : chkM 6074282 13 842751696 16 = true := by decide +kernel
theorem ck0_59 : chkM 6179011 17 4115532946 0 = true := by decide +kernel
theorem ck1_59 : chkM 6179011 13 4115532946 16 = true := by decide +kernel
theorem ck0_60 : chkM 6283740 17 3093346905 0 = true := by decide +kernel
theorem ck1_60 : chkM 6283740 13 3093346905 16 = true := by decide +kernel
theorem ck0_61 : chkM 6388469 17 2071160864 0 = true := by decide +kernel
theorem ck1_61 : chkM 6388469 13 2071160864 16 = true := by decide +kernel
theorem ck0_62 : chkM 6493198 17 1048974823 0 = true := by decide +kernel
theorem ck1_62 : chkM 6493198 13 1048974823 16 = true := by decide +kernel
theorem ck0_63 : chkM 6597927 17 26788782 0 = true := by decide +kernel
theorem ck1_63 : chkM 6597927 13 26788782 16 = true := by decide +kernel
theorem ck0_all : ∀ L, 1 ≤ L → L ≤ 63 → chkM (104729 * L) 17 (104729 * L * 31250 % 4294967291) 0 = true := fun L h1 h2 => by
  match L, h1, h2 with
  | 1, _, _ => rw [show 104729 * 1 * 31250 % 4294967291 = 3272781250 from rfl, show 104729 * 1 = 104729 from rfl]; exact ck0_1
  | 2, _, _ => rw [show 104729 * 2 * 31250 % 4294967291 = 2250595209 from rfl, show 104729 * 2 = 209458 from rfl]; exact ck0_2
  | 3, _, _ => rw [show 104729 * 3 * 31250 % 4294967291 = 1228409168 from rfl, show 104729 * 3 = 314187 from rfl]; exact ck0_3
  | 4, _, _ => rw [show 104729 * 4 * 31250 % 4294967291 = 206223127 from rfl, show 104729 * 4 = 418916 from rfl]; exact ck0_4
  | 5, _, _ => rw [show 104729 * 5 * 31250 % 4294967291 = 3479004377 from rfl, show 104729 * 5 = 523645 from rfl]; exact ck0_5
  | 6, _, _ => rw [show 104729 * 6 * 31250 % 4294967291 = 2456818336 from rfl, show 104729 * 6 = 628374 from rfl]; exact ck0_6
  | 7, _, _ => rw [show 104729 * 7 * 31250 % 4294967291 = 1434632295 from rfl, show 104729 * 7 = 733103 from rfl]; exact ck0_7
  | 8, _, _ => rw [show 104729 * 8 * 31250 % 4294967291 = 412446254 from rfl, show 104729 * 8 = 837832 from rfl]; exact ck0_8
  | 9, _, _ => rw [show 104729 * 9 * 31250 % 4294967291 = 3685227504 from rfl, show 104729 * 9 = 942561 from rfl]; exact ck0_9
  | 10, _, _ => rw [show 104729 * 10 * 31250 % 4294967291 = 2663041463 from rfl, show 104729 * 10 = 1047290 from rfl]; exact ck0_10
  | 11, _, _ => rw [show 104729 * 11 * 31250 % 4294967291 = 1640855422 from rfl, show 104729 * 11 = 1152019 from rfl]; exact ck0_11
  | 12, _, _ => rw [show 104729 * 12 * 31250 % 4294967291 = 618669381 from rfl, show 104729 * 12 = 1256748 from rfl]; exact ck0_12
  | 13, _, _ => rw [show 104729 * 13 * 31250 % 4294967291 = 3891450631 from rfl, show 104729 * 13 = 1361477 from rfl]; exact ck0_13
  | 14, _, _ => rw [show 104729 * 14 * 31250 % 4294967291 = 2869264590 from rfl, show 104729 * 14 = 1466206 from rfl]; exact ck0_14
  | 15, _, _ => rw [show 104729 * 15 * 31250 % 4294967291 = 1847078549 from rfl, show 104729 * 15 = 1570935 from rfl]; exact ck0_15
  | 16, _, _ => rw [show 104729 * 16 * 31250 % 4294967291 = 824892508 from rfl, show 104729 * 16 = 1675664 from rfl]; exact ck0_16
  | 17, _, _ => rw [show 104729 * 17 * 31250 % 4294967291 = 4097673758 from rfl, show 104729 * 17 = 1780393 from rfl]; exact ck0_17
  | 18, _, _ => rw [show 104729 * 18 * 31250 % 4294967291 = 3075487717 from rfl, show 104729 * 18 = 1885122 from rfl]; exact ck0_18
  | 19, _, _ => rw [show 104729 * 19 * 31250 % 4294967291 = 2053301676 from rfl, show 104729 * 19 = 1989851 from rfl]; exact ck0_19
  | 20, _, _ => rw [show 104729 * 20 * 31250 % 4294967291 = 1031115635 from rfl, show 104729 * 20 = 2094580 from rfl]; exact ck0_20
  | 21, _, _ => rw [show 104729 * 21 * 31250 % 4294967291 = 8929594 from rfl, show 104729 * 21 = 2199309 from rfl]; exact ck0_21
  | 22, _, _ => rw [show 104729 * 22 * 31250 % 4294967291 = 3281710844 from rfl, show 104729 * 22 = 2304038 from rfl]; exact ck0_22
  | 23, _, _ => rw [show 104729 * 23 * 31250 % 4294967291 = 2259524803 from rfl, show 104729 * 23 = 2408767 from rfl]; exact ck0_23
  | 24, _, _ => rw [show 104729 * 24 * 31250 % 4294967291 = 1237338762 from rfl, show 104729 * 24 = 2513496 from rfl]; exact ck0_24
  | 25, _, _ => rw [show 104729 * 25 * 31250 % 4294967291 = 215152721 from rfl, show 104729 * 25 = 2618225 from rfl]; exact ck0_25
  | 26, _, _ => rw [show 104729 * 26 * 31250 % 4294967291 = 3487933971 from rfl, show 104729 * 26 = 2722954 from rfl]; exact ck0_26
  | 27, _, _ => rw [show 104729 * 27 * 31250 % 4294967291 = 2465747930 from rfl, show 104729 * 27 = 2827683 from rfl]; exact ck0_27
  | 28, _, _ => rw [show 104729 * 28 * 31250 % 4294967291 = 1443561889 from rfl, show 104729 * 28 = 2932412 from rfl]; exact ck0_28
  | 29, _, _ => rw [show 104729 * 29 * 31250 % 4294967291 = 421375848 from rfl, show 104729 * 29 = 3037141 from rfl]; exact ck0_29
  | 30, _, _ => rw [show 104729 * 30 * 31250 % 4294967291 = 3694157098 from rfl, show 104729 * 30 = 3141870 from rfl]; exact ck0_30
  | 31, _, _ => rw [show 104729 * 31 * 31250 % 4294967291 = 2671971057 from rfl, show 104729 * 31 = 3246599 from rfl]; exact ck0_31
  | 32, _, _ => rw [show 104729 * 32 * 31250 % 4294967291 = 1649785016 from rfl, show 104729 * 32 = 3351328 from rfl]; exact ck0_32
  | 33, _, _ => rw [show 104729 * 33 * 31250 % 4294967291 = 627598975 from rfl, show 104729 * 33 = 3456057 from rfl]; exact ck0_33
  | 34, _, _ => rw [show 104729 * 34 * 31250 % 4294967291 = 3900380225 from rfl, show 104729 * 34 = 3560786 from rfl]; exact ck0_34
  | 35, _, _ => rw [show 104729 * 35 * 31250 % 4294967291 = 2878194184 from rfl, show 104729 * 35 = 3665515 from rfl]; exact ck0_35
  | 36, _, _ => rw [show 104729 * 36 * 31250 % 4294967291 = 1856008143 from rfl, show 104729 * 36 = 3770244 from rfl]; exact ck0_36
  | 37, _, _ => rw [show 104729 * 37 * 31250 % 4294967291 = 833822102 from rfl, show 104729 * 37 = 3874973 from rfl]; exact ck0_37
  | 38, _, _ => rw [show 104729 * 38 * 31250 % 4294967291 = 4106603352 from rfl, show 104729 * 38 = 3979702 from rfl]; exact ck0_38
  | 39, _, _ => rw [show 104729 * 39 * 31250 % 4294967291 = 3084417311 from rfl, show 104729 * 39 = 4084431 from rfl]; exact ck0_39
  | 40, _, _ => rw [show 104729 * 40 * 31250 % 4294967291 = 2062231270 from rfl, show 104729 * 40 = 4189160 from rfl]; exact ck0_40
  | 41, _, _ => rw [show 104729 * 41 * 31250 % 4294967291 = 1040045229 from rfl, show 104729 * 41 = 4293889 from rfl]; exact ck0_41
  | 42, _, _ => rw [show 104729 * 42 * 31250 % 4294967291 = 17859188 from rfl, show 104729 * 42 = 4398618 from rfl]; exact ck0_42
  | 43, _, _ => rw [show 104729 * 43 * 31250 % 4294967291 = 3290640438 from rfl, show 104729 * 43 = 4503347 from rfl]; exact ck0_43
  | 44, _, _ => rw [show 104729 * 44 * 31250 % 4294967291 = 2268454397 from rfl, show 104729 * 44 = 4608076 from rfl]; exact ck0_44
  | 45, _, _ => rw [show 104729 * 45 * 31250 % 4294967291 = 1246268356 from rfl, show 104729 * 45 = 4712805 from rfl]; exact ck0_45
  | 46, _, _ => rw [show 104729 * 46 * 31250 % 4294967291 = 224082315 from rfl, show 104729 * 46 = 4817534 from rfl]; exact ck0_46
  | 47, _, _ => rw [show 104729 * 47 * 31250 % 4294967291 = 3496863565 from rfl, show 104729 * 47 = 4922263 from rfl]; exact ck0_47
  | 48, _, _ => rw [show 104729 * 48 * 31250 % 4294967291 = 2474677524 from rfl, show 104729 * 48 = 5026992 from rfl]; exact ck0_48
  | 49, _, _ => rw [show 104729 * 49 * 31250 % 4294967291 = 1452491483 from rfl, show 104729 * 49 = 5131721 from rfl]; exact ck0_49
  | 50, _, _ => rw [show 104729 * 50 * 31250 % 4294967291 = 430305442 from rfl, show 104729 * 50 = 5236450 from rfl]; exact ck0_50
  | 51, _, _ => rw [show 104729 * 51 * 31250 % 4294967291 = 3703086692 from rfl, show 104729 * 51 = 5341179 from rfl]; exact ck0_51
  | 52, _, _ => rw [show 104729 * 52 * 31250 % 4294967291 = 2680900651 from rfl, show 104729 * 52 = 5445908 from rfl]; exact ck0_52
  | 53, _, _ => rw [show 104729 * 53 * 31250 % 4294967291 = 1658714610 from rfl, show 104729 * 53 = 5550637 from rfl]; exact ck0_53
  | 54, _, _ => rw [show 104729 * 54 * 31250 % 4294967291 = 636528569 from rfl, show 104729 * 54 = 5655366 from rfl]; exact ck0_54
  | 55, _, _ => rw [show 104729 * 55 * 31250 % 4294967291 = 3909309819 from rfl, show 104729 * 55 = 5760095 from rfl]; exact ck0_55
  | 56, _, _ => rw [show 104729 * 56 * 31250 % 4294967291 = 2887123778 from rfl, show 104729 * 56 = 5864824 from rfl]; exact ck0_56
  | 57, _, _ => rw [show 104729 * 57 * 31250 % 4294967291 = 1864937737 from rfl, show 104729 * 57 = 5969553 from rfl]; exact ck0_57
  | 58, _, _ => rw [show 104729 * 58 * 31250 % 4294967291 = 842751696 from rfl, show 104729 * 58 = 6074282 from rfl]; exact ck0_58
  | 59, _, _ => rw [show 104729 * 59 * 31250 % 4294967291 = 4115532946 from rfl, show 104729 * 59 = 6179011 from rfl]; exact ck0_59
  | 60, _, _ => rw [show 104729 * 60 * 31250 % 4294967291 = 3093346905 from rfl, show 104729 * 60 = 6283740 from rfl]; exact ck0_60
  | 61, _, _ => rw [show 104729 * 61 * 31250 % 4294967291 = 2071160864 from rfl, show 104729 * 61 = 6388469 from rfl]; exact ck0_61
  | 62, _, _ => rw [show 104729 * 62 * 31250 % 4294967291 = 1048974823 from rfl, show 104729 * 62 = 6493198 from rfl]; exact ck0_62
  | 63, _, _ => rw [show 104729 * 63 * 31250 % 4294967291 = 26788782 from rfl, show 104729 * 63 = 6597927 from rfl]; exact ck0_63
  | 0, h, _ => exact absurd h (by decide)
  | n + 64, _, h => exact absurd h (by omega)
theorem ck1_all : ∀ L, 1 ≤ L → L ≤ 63 → chkM (104729 * L) 13 (104729 * L * 31250 % 4294967291) 16 = true := fun L h1 h2 => by
  match L, h1, h2 with
  | 1, _, _ => rw [show 104729 * 1 * 31250 % 4294967291 = 3272781250 from rfl, show 104729 * 1 = 104729 from rfl]; exact ck1_1
  | 2, _, _ => rw [show 104729 * 2 * 31250 % 4294967291 = 2250595209 from rfl, show 104729 * 2 = 209458 from rfl]; exact ck1_2
  | 3, _, _ => rw [show 104729 * 3 * 31250 % 4294967291 = 1228409168 from rfl, show 104729 * 3 = 314187 from rfl]; exact ck1_3
  | 4, _, _ => rw [show 104729 * 4 * 31250 % 4294967291 = 206223127 from rfl, show 104729 * 4 = 418916 from rfl]; exact ck1_4
  | 5, _, _ => rw [show 104729 * 5 * 31250 % 4294967291 = 3479004377 from rfl, show 104729 * 5 = 523645 from rfl]; exact ck1_5
  | 6, _, _ => rw [show 104729 * 6 * 31250 % 4294967291 = 2456818336 from rfl, show 104729 * 6 = 628374 from rfl]; exact ck1_6
  | 7, _, _ => rw [show 104729 * 7 * 31250 % 4294967291 = 1434632295 from rfl, show 104729 * 7 = 733103 from rfl]; exact ck1_7
  | 8, _, _ => rw [show 104729 * 8 * 31250 % 4294967291 = 412446254 from rfl, show 104729 * 8 = 837832 from rfl]; exact ck1_8
  | 9, _, _ => rw [show 104729 * 9 * 31250 % 4294967291 = 3685227504 from rfl, show 104729 * 9 = 942561 from rfl]; exact ck1_9
  | 10, _, _ => rw [show 104729 * 10 * 31250 % 4294967291 = 2663041463 from rfl, show 104729 * 10 = 1047290 from rfl]; exact ck1_10
  | 11, _, _ => rw [show 104729 * 11 * 31250 % 4294967291 = 1640855422 from rfl, show 104729 * 11 = 1152019 from rfl]; exact ck1_11
  | 12, _, _ => rw [show 104729 * 12 * 31250 % 4294967291 = 618669381 from rfl, show 104729 * 12 = 1256748 from rfl]; exact ck1_12
  | 13, _, _ => rw [show 104729 * 13 * 31250 % 4294967291 = 3891450631 from rfl, show 104729 * 13 = 1361477 from rfl]; exact ck1_13
  | 14, _, _ => rw [show 104729 * 14 * 31250 % 4294967291 = 2869264590 from rfl, show 104729 * 14 = 1466206 from rfl]; exact ck1_14
  | 15, _, _ => rw [show 104729 * 15 * 31250 % 4294967291 = 1847078549 from rfl, show 104729 * 15 = 1570935 from rfl]; exact ck1_15
  | 16, _, _ => rw [show 104729 * 16 * 31250 % 4294967291 = 824892508 from rfl, show 104729 * 16 = 1675664 from rfl]; exact ck1_16
  | 17, _, _ => rw [show 104729 * 17 * 31250 % 4294967291 = 4097673758 from rfl, show 104729 * 17 = 1780393 from rfl]; exact ck1_17
  | 18, _, _ => rw [show 104729 * 18 * 31250 % 4294967291 = 3075487717 from rfl, show 104729 * 18 = 1885122 from rfl]; exact ck1_18
  | 19, _, _ => rw [show 104729 * 19 * 31250 % 4294967291 = 2053301676 from rfl, show 104729 * 19 = 1989851 from rfl]; exact ck1_19
  | 20, _, _ => rw [show 104729 * 20 * 31250 % 4294967291 = 1031115635 from rfl, show 104729 * 20 = 2094580 from rfl]; exact ck1_20
  | 21, _, _ => rw [show 104729 * 21 * 31250 % 4294967291 = 8929594 from rfl, show 104729 * 21 = 2199309 from rfl]; exact ck1_21
  | 22, _, _ => rw [show 104729 * 22 * 31250 % 4294967291 = 3281710844 from rfl, show 104729 * 22 = 2304038 from rfl]; exact ck1_22
  | 23, _, _ => rw [show 104729 * 23 * 31250 % 4294967291 = 2259524803 from rfl, show 104729 * 23 = 2408767 from rfl]; exact ck1_23
  | 24, _, _ => rw [show 104729 * 24 * 31250 % 4294967291 = 1237338762 from rfl, show 104729 * 24 = 2513496 from rfl]; exact ck1_24
  | 25, _, _ => rw [show 104729 * 25 * 31250 % 4294967291 = 215152721 from rfl, show 104729 * 25 = 2618225 from rfl]; exact ck1_25
  | 26, _, _ => rw [show 104729 * 26 * 31250 % 4294967291 = 3487933971 from rfl, show 104729 * 26 = 2722954 from rfl]; exact ck1_26
  | 27, _, _ => rw [show 104729 * 27 * 31250 % 4294967291 = 2465747930 from rfl, show 104729 * 27 = 2827683 from rfl]; exact ck1_27
  | 28, _, _ => rw [show 104729 * 28 * 31250 % 4294967291 = 1443561889 from rfl, show 104729 * 28 = 2932412 from rfl]; exact ck1_28
  | 29, _, _ => rw [show 104729 * 29 * 31250 % 4294967291 = 421375848 from rfl, show 104729 * 29 = 3037141 from rfl]; exact ck1_29
  | 30, _, _ => rw [show 104729 * 30 * 31250 % 4294967291 = 3694157098 from rfl, show 104729 * 30 = 3141870 from rfl]; exact ck1_30
  | 31, _, _ => rw [show 104729 * 31 * 31250 % 4294967291 = 2671971057 from rfl, show 104729 * 31 = 3246599 from rfl]; exact ck1_31
  | 32, _, _ => rw [show 104729 * 32 * 31250 % 4294967291 = 1649785016 from rfl, show 104729 * 32 = 3351328 from rfl]; exact ck1_32
  | 33, _, _ => rw [show 104729 * 33 * 31250 % 4294967291 = 627598975 from rfl, show 104729 * 33 = 3456057 from rfl]; exact ck1_33
  | 34, _, _ => rw [show 104729 * 34 * 31250 % 4294967291 = 3900380225 from rfl, show 104729 * 34 = 3560786 from rfl]; exact ck1_34
  | 35, _, _ => rw [show 104729 * 35 * 31250 % 4294967291 = 2878194184 from rfl, show 104729 * 35 = 3665515 from rfl]; exact ck1_35
  | 36, _, _ => rw [show 104729 * 36 * 31250 % 4294967291 = 1856008143 from rfl, show 104729 * 36 = 3770244 from rfl]; exact ck1_36
  | 37, _, _ => rw [show 104729 * 37 * 31250 % 4294967291 = 833822102 from rfl, show 104729 * 37 = 3874973 from rfl]; exact ck1_37
  | 38, _, _ => rw [show 104729 * 38 * 31250 % 4294967291 = 4106603352 from rfl, show 104729 * 38 = 3979702 from rfl]; exact ck1_38
  | 39, _, _ => rw [show 104729 * 39 * 31250 % 4294967291 = 3084417311 from rfl, show 104729 * 39 = 4084431 from rfl]; exact ck1_39
  | 40, _, _ => rw [show 104729 * 40 * 31250 % 4294967291 = 2062231270 from rfl, show 104729 * 40 = 4189160 from rfl]; exact ck1_40
  | 41, _, _ => rw [show 104729 * 41 * 31250 % 4294967291 = 1040045229 from rfl, show 104729 * 41 = 4293889 from rfl]; exact ck1_41
  | 42, _, _ => rw [show 104729 * 42 * 31250 % 4294967291 = 17859188 from rfl, show 104729 * 42 = 4398618 from rfl]; exact ck1_42
  | 43, _, _ => rw [show 104729 * 43 * 31250 % 4294967291 = 3290640438 from rfl, show 104729 * 43 = 4503347 from rfl]; exact ck1_43
  | 44, _, _ => rw [show 104729 * 44 * 31250 % 4294967291 = 2268454397 from rfl, show 104729 * 44 = 4608076 from rfl]; exact ck1_44
  | 45, _, _ => rw [show 104729 * 45 * 31250 % 4294967291 = 1246268356 from rfl, show 104729 * 45 = 4712805 from rfl]; exact ck1_45
  | 46, _, _ => rw [show 104729 * 46 * 31250 % 4294967291 = 224082315 from rfl, show 104729 * 46 = 4817534 from rfl]; exact ck1_46
  | 47, _, _ => rw [show 104729 * 47 * 31250 % 4294967291 = 3496863565 from rfl, show 104729 * 47 = 4922263 from rfl]; exact ck1_47
  | 48, _, _ => rw [show 104729 * 48 * 31250 % 4294967291 = 2474677524 from rfl, show 104729 * 48 = 5026992 from rfl]; exact ck1_48
  | 49, _, _ => rw [show 104729 * 49 * 31250 % 4294967291 = 1452491483 from rfl, show 104729 * 49 = 5131721 from rfl]; exact ck1_49
  | 50, _, _ => rw [show 104729 * 50 * 31250 % 4294967291 = 430305442 from rfl, show 104729 * 50 = 5236450 from rfl]; exact ck1_50
  | 51, _, _ => rw [show 104729 * 51 * 31250 % 4294967291 = 3703086692 from rfl, show 104729 * 51 = 5341179 from rfl]; exact ck1_51
  | 52, _, _ => rw [show 104729 * 52 * 31250 % 4294967291 = 2680900651 from rfl, show 104729 * 52 = 5445908 from rfl]; exact ck1_52
  | 53, _, _ => rw [show 104729 * 53 * 31250 % 4294967291 = 1658714610 from rfl, show 104729 * 53 = 5550637 from rfl]; exact ck1_53
  | 54, _, _ => rw [show 104729 * 54 * 31250 % 4294967291 = 636528569 from rfl, show 104729 * 54 = 5655366 from rfl]; exact ck1_54
  | 55, _, _ => rw [show 104729 * 55 * 31250 % 4294967291 = 3909309819 from rfl, show 104729 * 55 = 5760095 from rfl]; exact ck1_55
  | 56, _, _ => rw [show 104729 * 56 * 31250 % 4294967291 = 2887123778 from rfl, show 104729 * 56 = 5864824 from rfl]; exact ck1_56
  | 57, _, _ => rw [show 104729 * 57 * 31250 % 4294967291 = 1864937737 from rfl, show 104729 * 57 = 5969553 from rfl]; exact ck1_57
  | 58, _, _ => rw [show 104729 * 58 * 31250 % 4294967291 = 842751696 from rfl, show 104729 * 58 = 6074282 from rfl]; exact ck1_58
  | 59, _, _ => rw [show 104729 * 59 * 31250 % 4294967291 = 4115532946 from rfl, show 104729 * 59 = 6179011 from rfl]; exact ck1_59
  | 60, _, _ => rw [show 104729 * 60 * 31250 % 4294967291 = 3093346905 from rfl, show 104729 * 60 = 6283740 from rfl]; exact ck1_60
  | 61, _, _ => rw [show 104729 * 61 * 31250 % 4294967291 = 2071160864 from rfl, show 104729 * 61 = 6388469 from rfl]; exact ck1_61
  | 62, _, _ => rw [show 104729 * 62 * 31250 % 4294967291 = 1048974823 from rfl, show 104729 * 62 = 6493198 from rfl]; exact ck1_62
  | 63, _, _ => rw [show 104729 * 63 * 31250 % 4294967291 = 26788782 from rfl, show 104729 * 63 = 6597927 from rfl]; exact ck1_63
  | 0, h, _ => exact absurd h (by decide)
  | n + 64, _, h => exact absurd h (by omega)
def invM : List Nat := [0, 3532011744, 1766005872, 1177337248, 883002936, 1565395807, 588668624, 1731706618, 441501468, 1824101513, 2930181549, 3444704552, 294334312, 1262839509, 865853309, 1953454366, 220750734, 965700801, 3059534402, 411946265, 3612574420, 2008891303, 1722352276, 153565728, 147167156, 2890059536, 2778903400, 3471345365, 2580410300, 3083839916, 976727183, 3161977166, 110375367, 4011546378, 2630334046, 2064328240, 1529767201, 2533143915, 2353456778, 420946503, 1806287210, 3857337420, 3151929297, 82139808, 861176138, 2082807219, 76782864, 1811412559, 73583578, 3315220439, 1445029768, 321900267, 1389451700, 877012918, 3883156328, 3265921285, 1290205150, 3000626949, 1541919958, 2316542335, 2635847237, 2381408727, 1580988583, 2101286198]
theorem invM_ok0 : ∀ L, L < 64 → 1 ≤ L → (104729 * L * invM.getD L 0) % 4294967291 = 1 := by decide +kernel
theorem invM_ok (L : Nat) (h1 : 1 ≤ L) (h2 : L ≤ 63) : (104729 * L * invM.getD L 0) % 4294967291 = 1 := invM_ok0 L (by omega) h1
theorem leaf_all {L j : Nat} (h1 : 1 ≤ L) (h2 : L ≤ 63) (hj : j < 139264) : leafM (104729 * L) (104729 * L * 31250 % 4294967291) j = true := by
  by_cases h_0 : j < 131072
  · have := chkM_ok (d := 17) (ck0_all L h1 h2) (i := j - 0) (by omega)
    rwa [show 0 * 2 ^ 17 + (j - 0) = j by omega] at this
  by_cases h_1 : j < 139264
  · have := chkM_ok (d := 13) (ck1_all L h1 h2) (i := j - 131072) (by omega)
    rwa [show 16 * 2 ^ 13 + (j - 131072) = j by omega] at this
  · omega

-- needs: mixC
theorem hitM {L y : Nat} (h1 : 1 ≤ L) (h2 : L ≤ 63) (hy : y < 4294967291) : ∃ t, t < 31250 + 16 ∧ zMx ((y + t * (104729 * L)) % 4294967291) = false := by
  have hinv := invM_ok L h1 h2
  generalize invM.getD L 0 = u at hinv
  generalize hs : 104729 * L = s at hinv
  -- y stands at place T of the walk from 0
  have hT : ((y * u % 4294967291) * s) % 4294967291 = y := by
    rw [Nat.mod_mul_mod, Nat.mul_assoc, Nat.mul_comm u s, Nat.mul_mod, hinv, Nat.mul_one, Nat.mod_mod, Nat.mod_eq_of_lt hy]
  have hTl : y * u % 4294967291 < 4294967291 := Nat.mod_lt _ (by decide)
  generalize y * u % 4294967291 = T at hT hTl
  obtain ⟨j, d, hj, hd, e⟩ : ∃ j d, j < 139264 ∧ d < 31250 ∧ (T + d = j * 31250 ∨ (T + d = 4294967291 ∧ j = 0)) := by
    by_cases h : (T + (31250 - 1)) / 31250 < 139264
    · exact ⟨(T + (31250 - 1)) / 31250, (T + (31250 - 1)) / 31250 * 31250 - T, h, by omega, .inl (by omega)⟩
    · exact ⟨0, 4294967291 - T, by decide, by omega, .inr ⟨by omega, rfl⟩⟩
  have hl := leaf_all (L := L) (j := j) h1 h2 hj
  rw [hs] at hl
  obtain ⟨t, ht, hz⟩ := leafM_ok hl
  refine ⟨d + t, by omega, ?_⟩
  have key : (y + d * s) % 4294967291 = (s * 31250 % 4294967291 * j) % 4294967291 := by
    rw [← hT, Nat.mod_add_mod, ← Nat.add_mul, Nat.mod_mul_mod]
    rcases e with e | ⟨e, e2⟩
    · rw [e, Nat.mul_comm j, Nat.mul_comm s, Nat.mul_right_comm]
    · rw [e, e2, Nat.mul_zero, Nat.mul_mod_right]
  rw [Nat.add_mul, ← Nat.add_assoc, ← Nat.mod_add_mod, key, Nat.mod_add_mod]
  exact hz
/-- a draw of eight of a small cell -/
def mixI (c m : Int) : Int := ((c + 104729 * m) % 4294967291) ^ 5 % 4294967279
def draw8 (c m : Int) : Int := (mixI c m / 64 * 69621 + mixI c m) % 4294967231 / 8 % 8
theorem draw8_zM (c m : Int) : draw8 c m = 0 ↔ zMx ((c + 104729 * m) % 4294967291).toNat = true := by
  have h0 := Int.emod_nonneg (c + 104729 * m) (show (4294967291 : Int) ≠ 0 by decide)
  generalize hx : (c + 104729 * m) % 4294967291 = x at h0
  obtain ⟨y, rfl⟩ : ∃ y : Nat, x = y := ⟨x.toNat, by omega⟩
  have e : mixI c m = ((y ^ 5 % 4294967279 : Nat) : Int) := by
    unfold mixI
    rw [hx, Int.natCast_emod, Int.natCast_pow]; rfl
  unfold draw8
  rw [e, Int.toNat_natCast]
  have e2 : zMx y = decide ((y ^ 5 % 4294967279 / 64 * 69621 + y ^ 5 % 4294967279) % 4294967231 / 8 % 8 = 0) := by
    show Nat.beq _ _ = _
    rw [Bool.eq_iff_iff, Nat.beq_eq, decide_eq_true_iff]; rfl
  rw [e2, decide_eq_true_iff]
  generalize y ^ 5 % 4294967279 = v
  omega
theorem hit8 {L : Nat} (h1 : 1 ≤ L) (h2 : L ≤ 63) (c m : Int) : ∃ t, t < 31250 + 16 ∧ draw8 c (m + (t : Nat) * (L : Int)) ≠ 0 := by
  have h0 := Int.emod_nonneg (c + 104729 * m) (show (4294967291 : Int) ≠ 0 by decide)
  have h3 := Int.emod_lt_of_pos (c + 104729 * m) (show (0 : Int) < 4294967291 by decide)
  obtain ⟨t, ht, hz⟩ := hitM (y := ((c + 104729 * m) % 4294967291).toNat) h1 h2 (by omega)
  refine ⟨t, ht, fun z => ?_⟩
  rw [draw8_zM] at z
  have e : ((c + 104729 * (m + (t : Nat) * (L : Int))) % 4294967291).toNat = (((c + 104729 * m) % 4294967291).toNat + t * (104729 * L)) % 4294967291 := by
    have e1 : (c + 104729 * (m + (t : Nat) * (L : Int))) = (c + 104729 * m) + ((t * (104729 * L) : Nat) : Int) := by
      rw [Int.natCast_mul, Int.natCast_mul, Int.mul_add, ← Int.add_assoc, Int.mul_left_comm]; rfl
    rw [e1]
    generalize ((t * (104729 * L) : Nat)) = k
    omega
  rw [e, hz] at z
  cases z
/-- how many 0s a cell draws one behind the other at most, from m on, by steps of L: looked at so far as f -/
def leadN (c : Int) (L : Nat) : Nat → Int → Nat
  | 0, _ => 0
  | f + 1, m => if draw8 c m = 0 then 1 + leadN c L f (m + L) else 0
theorem leadN_le (c : Int) (L : Nat) : ∀ (f : Nat) (m : Int), leadN c L f m ≤ f
  | 0, _ => Nat.le_refl _
  | f + 1, m => by
    unfold leadN
    split
    · have := leadN_le c L f (m + L); omega
    · omega
theorem leadN_lt (c : Int) (L : Nat) : ∀ (f : Nat) (m : Int) (t : Nat), t < f → draw8 c (m + (t : Nat) * (L : Int)) ≠ 0 → leadN c L f m < f
  | 0, _, t, h, _ => absurd h (by omega)
  | f + 1, m, t, h, hz => by
    unfold leadN
    split
    · rename_i h0
      cases t with
      | zero => simp at hz; exact absurd h0 hz
      | succ t =>
        have := leadN_lt c L f (m + L) t (by omega) (by
          rwa [show m + ((t + 1 : Nat) : Int) * (L : Int) = m + (L : Int) + (t : Nat) * (L : Int) by rw [Int.natCast_add, Int.add_mul]; omega] at hz)
        omega
    · omega
theorem leadN_more (c : Int) (L : Nat) : ∀ (f : Nat) (m : Int), leadN c L f m < f → leadN c L (f + 1) m = leadN c L f m
  | 0, _, h => absurd h (by omega)
  | f + 1, m, h => by
    rw [leadN]
    conv => rhs; rw [leadN]
    split
    · rename_i h0
      rw [leadN_more c L f (m + L) (by rw [leadN, if_pos h0] at h; omega)]
    · rfl
def Bm : Nat := 31250 + 16
theorem lead_zero {c m : Int} {L : Nat} (h1 : 1 ≤ L) (h2 : L ≤ 63) (h0 : draw8 c m = 0) : leadN c L Bm (m + L) + 1 = leadN c L Bm m := by
  have hB : Bm = (31250 + 15) + 1 := rfl
  obtain ⟨t, ht, hz⟩ := hit8 h1 h2 c m
  have hlt := leadN_lt c L Bm m t ht hz
  rw [hB] at hlt ⊢
  have e : leadN c L (31250 + 15 + 1) m = 1 + leadN c L (31250 + 15) (m + L) := by rw [leadN, if_pos h0]
  rw [e] at hlt ⊢
  rw [leadN_more c L (31250 + 15) (m + L) (by omega)]
  omega
/-- what is left of a cell: its digits, then its 0s -/
def phiC (L : Nat) (c m : Int) : Nat := if 1000000000000000000 ≤ c then c.natAbs.log2 + Bm else leadN c L Bm m
theorem phiC_le (L : Nat) (c m : Int) : phiC L c m ≤ c.natAbs.log2 + Bm := by
  unfold phiC
  split
  · exact Nat.le_refl _
  · have := leadN_le c L Bm m; omega
/-- a draw: the value, the cell behind it -/
def drawV (c m n : Int) : Int := if 1000000000000000000 ≤ c then c % n else (mixI c m / 64 * 69621 + mixI c m) % 4294967231 / 8 % n
def drawC (c n : Int) : Int := if 1000000000000000000 ≤ c then c / n else c
theorem log2_div8 {c : Int} (h : 1000000000000000000 ≤ c) : (c / 8).natAbs.log2 + 1 ≤ c.natAbs.log2 := by
  have h1 : (c / 8).natAbs ≠ 0 := by omega
  have h2 : c.natAbs ≠ 0 := by omega
  have h3 := Nat.log2_self_le h1
  refine (Nat.le_log2 h2).mpr ?_
  rw [Nat.pow_succ]
  omega
theorem phi_step {L : Nat} (h1 : 1 ≤ L) (h2 : L ≤ 63) (c m : Int) : (drawV c m 8 = 0 → phiC L (drawC c 8) (m + L) + 1 ≤ phiC L c m) ∧ phiC L (drawC c 8) (m + L) ≤ phiC L c m + Bm := by
  by_cases hc : 1000000000000000000 ≤ c
  · have e1 : phiC L c m = c.natAbs.log2 + Bm := by unfold phiC; rw [if_pos hc]
    have e2 : drawC c 8 = c / 8 := by unfold drawC; rw [if_pos hc]
    have := phiC_le L (c / 8) (m + L)
    have := log2_div8 hc
    rw [e1, e2]
    exact ⟨fun _ => by omega, by omega⟩
  · have e1 : ∀ m, phiC L c m = leadN c L Bm m := fun m => by unfold phiC; rw [if_neg hc]
    have e2 : drawC c 8 = c := by unfold drawC; rw [if_neg hc]
    have e3 : drawV c m 8 = draw8 c m := by unfold drawV; rw [if_neg hc]; rfl
    rw [e2, e1, e1, e3]
    refine ⟨fun h0 => by rw [lead_zero h1 h2 h0]; exact Nat.le_refl _, ?_⟩
    have := leadN_le c L Bm (m + L)
    omega
/-- all cells, in the order in which they come -/
def phiQ (L : Nat) : List Int → Int → Nat
  | [], _ => 0
  | c :: r, m => phiC L c m + phiQ L r (m + 1)
theorem phiQ_app (L : Nat) : ∀ (a b : List Int) (m : Int), phiQ L (a ++ b) m = phiQ L a m + phiQ L b (m + a.length)
  | [], b, m => by simp [phiQ]
  | c :: r, b, m => by
    show phiC L c m + phiQ L (r ++ b) (m + 1) = phiC L c m + phiQ L r (m + 1) + phiQ L b (m + ((r.length + 1 : Nat) : Int))
    rw [phiQ_app L r b (m + 1), show m + 1 + (r.length : Int) = m + ((r.length + 1 : Nat) : Int) by omega]; omega
theorem phiQ_le (L : Nat) : ∀ (q : List Int) (m : Int), phiQ L q m ≤ (q.map fun x : Int => x.natAbs.log2).sum + q.length * Bm
  | [], _ => Nat.zero_le _
  | c :: r, m => by
    have h1 := phiC_le L c m
    have h2 := phiQ_le L r (m + 1)
    show phiC L c m + phiQ L r (m + 1) ≤ _
    rw [List.map_cons, List.sum_cons, List.length_cons, Nat.add_mul]
    omega
def rotQ (cells : List Int) (j : Nat) : List Int := cells.drop j ++ cells.take j
def Phi (cells : List Int) (m : Int) : Nat := phiQ cells.length (rotQ cells ((m + 1) % (cells.length : Int)).toNat) (m + 1)
theorem Phi_le {cells : List Int} {m : Int} (h : cellsOk cells) : Phi cells m ≤ 1048576 + 63 * Bm := by
  have := phiQ_le cells.length (rotQ cells ((m + 1) % (cells.length : Int)).toNat) (m + 1)
  have e : (rotQ cells ((m + 1) % (cells.length : Int)).toNat).Perm cells := by
    unfold rotQ
    exact (List.perm_append_comm).trans (by rw [List.take_append_drop])
  rw [(e.map _).sum_nat, e.length_eq] at this
  have h2 := Nat.mul_le_mul_right Bm h.1
  have h3 := h.2
  unfold Phi
  omega
theorem Phi_step {cells : List Int} {m : Int} {j : Nat} (h : cellsOk cells) (hj : j < cells.length) (ej : (m + 1) % (cells.length : Int) = (j : Int)) :
    (drawV cells[j] (m + 1) 8 = 0 → Phi (cells.set j (drawC cells[j] 8)) (m + 1) + 1 ≤ Phi cells m) ∧ Phi (cells.set j (drawC cells[j] 8)) (m + 1) ≤ Phi cells m + Bm := by
  have hL : 1 ≤ cells.length := by omega
  have hst := phi_step hL h.1 cells[j] (m + 1)
  have e0 : rotQ cells j = cells[j] :: (cells.drop (j + 1) ++ cells.take j) := by
    unfold rotQ
    rw [List.drop_eq_getElem_cons hj]; rfl
  have e1 : rotQ (cells.set j (drawC cells[j] 8)) ((m + 1 + 1) % (cells.length : Int)).toNat = cells.drop (j + 1) ++ cells.take j ++ [drawC cells[j] 8] := by
    unfold rotQ
    by_cases hl : j + 1 < cells.length
    · have e2 : ((m + 1 + 1) % (cells.length : Int)).toNat = j + 1 := by
        rw [← Int.emod_add_emod, ej, show (j : Int) + 1 = ((j + 1 : Nat) : Int) by omega, Int.emod_eq_of_lt (by omega) (by omega), Int.toNat_natCast]
      rw [e2, List.drop_set_of_lt (by omega), List.append_assoc]
      congr 1
      rw [List.take_set, List.take_succ_eq_append_getElem hj, List.set_append_right _ _ (by rw [List.length_take]; omega), List.length_take, show j - min j cells.length = 0 by omega]
      rfl
    · have e3 : j + 1 = cells.length := by omega
      have e2 : ((m + 1 + 1) % (cells.length : Int)).toNat = 0 := by
        rw [← Int.emod_add_emod, ej, show (j : Int) + 1 = (cells.length : Int) by omega, Int.emod_self]; rfl
      rw [e2, List.drop_zero, List.take_zero, List.append_nil, List.drop_of_length_le (by omega), List.nil_append, List.set_eq_take_append_cons_drop, if_pos hj, List.drop_of_length_le (by omega)]
  have hlen : (cells.drop (j + 1) ++ cells.take j).length = cells.length - 1 := by rw [List.length_append, List.length_drop, List.length_take]; omega
  unfold Phi
  rw [List.length_set, e1, ej, Int.toNat_natCast, e0, phiQ_app, hlen]
  show (_ → phiQ _ _ (m + 1 + 1) + (phiC _ _ (m + 1 + 1 + ((cells.length - 1 : Nat) : Int)) + 0) + 1 ≤ phiC _ _ _ + phiQ _ _ (m + 1 + 1)) ∧ phiQ _ _ (m + 1 + 1) + (phiC _ _ (m + 1 + 1 + ((cells.length - 1 : Nat) : Int)) + 0) ≤ phiC _ _ _ + phiQ _ _ (m + 1 + 1) + Bm
  rw [show m + 1 + 1 + ((cells.length - 1 : Nat) : Int) = m + 1 + (cells.length : Int) by omega]
  refine ⟨fun hz => ?_, ?_⟩
  · have := hst.1 hz; omega
  · have := hst.2; omega

-- needs: mixhC draw rowsD
/-- a draw, just so -/
theorem draw1 {M : Mh} {t c : Addr} {cells : List Int} {n m : Int} {j : Nat} {Q : QZ} {E : ZX} (T : TownOk M t c cells) (h0 : 0 < n) (h1 : n < 1073741824) (hj : j < cells.length) (ej : (m + 1) % (cells.length : Int) = (j : Int))
    (k : Q (.int (drawV cells[j] (m + 1) n)) (tOpen M t c (m + 1) (cells.set j (drawC cells[j] n)))) : z0__law_draw [.ref t, .int n] (tOpen M t c m cells) Q E := by
  have ct := T.ct
  show zFn true zb__law_draw _ _ _ _
  unfold zFn zb__law_draw
  walk_at "z"
  refine i_ixR tOpen_t (d := .ref c) (by rfl) ?_
  walk_at "z"
  refine i_ixR tOpen_t (d := .int m) (by rfl) ?_
  walk_at "z"
  refine i_set tOpen_t (j := 1) (by rfl) ?_
  dsimp only [List.set]
  rw [tOpen_n]
  walk_at "z"
  refine i_ixR tOpen_t (d := .int (m + 1)) (by rfl) ?_
  walk_at "z"
  refine i_lenR (tOpen_c ct) ?_
  rw [List.length_map]
  refine i_mod (by omega) ?_
  rw [ej]
  walk_at "z"
  have hat : atI (cells.map D.int) (j : Int) = some (.int cells[j]) := atI_nat (by rw [List.getElem?_map, List.getElem?_eq_getElem hj]; rfl)
  have hix : ixN (cells.map D.int).length (j : Int) = some j := by
    unfold ixN
    rw [List.length_map, if_pos (by omega), if_pos (by omega)]; simp
  refine i_ixR (tOpen_c ct) hat ?_
  walk_at "z"
  unfold drawV drawC at k
  refine i_bd (fun hc => ?_) (fun hc => ?_)
  · rw [if_pos hc, if_pos hc] at k
    walk_at "z"
    refine i_set (tOpen_c ct) hix ?_
    rw [show (cells.map D.int).set j (.int (cells[j] / n)) = (cells.set j (cells[j] / n)).map D.int by rw [List.map_set], tOpen_k ct]
    walk_at "z"
    exact i_rtG k
  · rw [if_neg hc, if_neg hc, List.set_getElem_self] at k
    walk_at "z"
    refine i_ixR tOpen_t (d := .int (m + 1)) (by rfl) ?_
    walk_at "z"
    have b1 := Int.emod_nonneg (cells[j] + 104729 * (m + 1)) (show (4294967291 : Int) ≠ 0 by decide)
    have b2 := Int.emod_lt_of_pos (cells[j] + 104729 * (m + 1)) (show (0 : Int) < 4294967291 by decide)
    refine i_pow ⟨by decide, by decide, ?_⟩ ?_
    · generalize (cells[j] + 104729 * (m + 1)) % 4294967291 = q at *
      omega
    walk_at "z"
    exact i_rtG k
theorem townPut {M : Mh} {t c x : Addr} {cells : List Int} {o : MO} (T : TownOk M t c cells) (xt : x ≠ t) (xc : x ≠ c) (hx : M x ≠ some .town) (ho : o ≠ .town) : TownOk (mup M x o) t c cells := ⟨(mup_ne (Ne.symm xt)).trans T.at_, (mup_ne (Ne.symm xc)).trans T.no, T.ne, T.len, fun t' e => by
  by_cases h : t' = x
  · rw [h, mup_same] at e; injection e with e; exact absurd e ho
  · rw [mup_ne h] at e; exact T.one t' e⟩
theorem tOpen_put {M : Mh} {t c x : Addr} {cells : List Int} {m : Int} {o : MO} (xt : x ≠ t) (xc : x ≠ c) : mup (tOpen M t c m cells) x o = tOpen (mup M x o) t c m cells := by
  funext b
  unfold tOpen mup
  by_cases e1 : b = x
  · subst e1; simp [xt, xc]
  · simp [e1]
theorem drawV_rng {c m : Int} : 0 ≤ drawV c m 8 ∧ drawV c m 8 < 8 := by
  unfold drawV
  split
  · exact ⟨Int.emod_nonneg _ (by decide), Int.emod_lt_of_pos _ (by decide)⟩
  · exact ⟨Int.emod_nonneg _ (by decide), Int.emod_lt_of_pos _ (by decide)⟩
theorem cuts0 {M : Mh} {t c : Addr} {cells : List Int} {bs : List D} {m : Int} {Q : QZ} {E : ZX} (T : TownOk M t c cells) (hn : bs.length ≤ 440) (hf : bs.all flatD = true)
    (k : ∀ (ps : List (List D)) (m : Int) (cs : List Int), ps.flatten = bs → cs ≠ [] → cellsOk cs → Q (.lst (ps.map D.lst ++ [.lst []])) (tOpen M t c m cs)) : z0__law_cuts [.ref t, .lst bs] (tOpen M t c m cells) Q E := by
  have ct := T.ct
  show zFn true zb__law_cuts _ _ _ _
  unfold zFn zb__law_cuts
  walk_at "z"
  refine i_newT fun x hx => ?_
  have xt : x ≠ t := fun z => by rw [z, tOpen_t] at hx; cases hx
  have xc : x ≠ c := fun z => by rw [z, tOpen_c ct] at hx; cases hx
  have hxM : M x = none := by
    unfold tOpen at hx
    rw [mup_ne xt, mup_ne xc] at hx; exact hx
  rw [tOpen_put xt xc]
  refine i_name ?_
  dsimp only [st]
  have hmeas : Phi cells m + (Bm + 1) * bs.length ≤ 16777000 := by
    have h1 := Phi_le (m := m) T.len
    have h2 := Nat.mul_le_mul_left (Bm + 1) hn
    have e : Bm = 31250 + 16 := rfl
    rw [e] at h1 h2 ⊢
    omega
  refine i_seqP (fun r M' => ∃ (ps : List (List D)) (m' : Int) (cs : List Int) (x3 : Option D), ps.flatten = bs ∧ cs ≠ [] ∧ cellsOk cs ∧ ps.length ≤ 16777000 ∧ M' = tOpen (mup M x (.lst (ps.map D.lst))) t c m' cs ∧ r = [some (.ref t), some (.lst []), some (.ref x), x3]) ?_ ?_
  · rintro r M' ⟨ps, m', cs, x3, hps, hcs, hok, hpl, rfl, rfl⟩
    have hx1 : tOpen (mup M x (.lst (ps.map D.lst))) t c m' cs x = some (.lst (ps.map D.lst)) := by
      rw [← tOpen_put xt xc]; exact mup_same
    walk_at "z"
    refine i_addRL hx1 (by rw [List.length_map, sizeLine_eq]; simp only [List.length_cons, List.length_nil]; omega) (i_newF ?_)
    refine ⟨_, tOpen M t c m' cs, .drop fun a o ha => ?_, k ps m' cs hps hcs hok⟩
    rw [← tOpen_put xt xc, mup_ne (fun z => by
      rw [z] at ha
      unfold tOpen at ha
      rw [mup_ne xt, mup_ne xc, hxM] at ha; cases ha)]
    exact ha
  intro kf hkf
  refine zWhile_ind (P := fun n r M' => ∃ (ps : List (List D)) (rest : List D) (m' : Int) (cs : List Int) (x3 : Option D), ps.flatten ++ rest = bs ∧ TownOk M t c cs ∧ n = Phi cs m' + (Bm + 1) * rest.length ∧ ps.length + n ≤ 16777000 ∧ M' = tOpen (mup M x (.lst (ps.map D.lst))) t c m' cs ∧ r = [some (.ref t), some (.lst rest), some (.ref x), x3]) ?_ (Phi cells m + (Bm + 1) * bs.length) ⟨[], bs, m, cells, none, rfl, T, rfl, by simpa using hmeas, rfl, rfl⟩
  rintro n r M' k2 ⟨ps, rest, m', cs, x3, hps, T', rfl, hle, rfl, rfl⟩ hk2
  have hrf : rest.all flatD = true := by
    rw [List.all_eq_true] at hf ⊢
    exact fun y hy => hf y (by rw [← hps]; exact List.mem_append_right _ hy)
  have hx1 : tOpen (mup M x (.lst (ps.map D.lst))) t c m' cs x = some (.lst (ps.map D.lst)) := by
    rw [← tOpen_put xt xc]; exact mup_same
  walk_at "z"
  refine i_ne (.lflat hrf) (.lflat rfl) ?_
  rw [eqD_nil]
  cases rest with
  | nil =>
    walk_at "z"
    exact hkf _ _ ⟨ps, m', cs, _, by rw [← hps]; simp, T'.ne, T'.len, by simp at hle; omega, rfl, rfl⟩
  | cons d0 rest =>
    walk_at "z"
    have lp : 0 < cs.length := List.length_pos_iff.mpr T'.ne
    obtain ⟨j, hj, ej⟩ : ∃ j : Nat, j < cs.length ∧ (m' + 1) % (cs.length : Int) = (j : Int) := by
      have a := Int.emod_nonneg (m' + 1) (show (cs.length : Int) ≠ 0 by omega)
      have b := Int.emod_lt_of_pos (m' + 1) (show (0 : Int) < cs.length by omega)
      exact ⟨((m' + 1) % (cs.length : Int)).toNat, by omega, by omega⟩
    have T1 : TownOk (mup M x (.lst (ps.map D.lst))) t c cs := townPut T' xt xc (by rw [hxM]; simp) (by simp)
    have T2 : TownOk M t c (cs.set j (drawC cs[j] 8)) := ⟨T'.at_, T'.no, fun z => by
      have := congrArg List.length z
      rw [List.length_set] at this
      exact absurd this (by simp; exact T'.ne), cellsOk_set T'.len hj (by
        unfold drawC
        split
        · exact div_log2 (by omega) (by decide)
        · exact Nat.le_refl _), T'.one⟩
    obtain ⟨p1, p2⟩ := Phi_step (m := m') T'.len hj ej
    obtain ⟨v1, v2⟩ := drawV_rng (c := cs[j]) (m := m' + 1)
    show zFn false zb1__law_pick _ _ _ _
    unfold zFn zb1__law_pick
    walk_at "z"
    show z0__law_draw [.ref t, .int 8] _ _ _
    refine draw1 T1 (by decide) (by decide) hj ej ?_
    obtain ⟨mn, hat, hmz⟩ : ∃ mn : Nat, atI ([.int 0, .int 1, .int 2, .int 3, .int 7, .int 10, .int 11, .int 30] : List D) (drawV cs[j] (m' + 1) 8) = some (.int (mn : Nat)) ∧ (mn = 0 → drawV cs[j] (m' + 1) 8 = 0) := by
      generalize drawV cs[j] (m' + 1) 8 = v at v1 v2
      obtain e | e | e | e | e | e | e | e : v = 0 ∨ v = 1 ∨ v = 2 ∨ v = 3 ∨ v = 4 ∨ v = 5 ∨ v = 6 ∨ v = 7 := by omega
      all_goals subst e
      · exact ⟨0, rfl, fun _ => rfl⟩
      · exact ⟨1, rfl, fun z => by cases z⟩
      · exact ⟨2, rfl, fun z => by cases z⟩
      · exact ⟨3, rfl, fun z => by cases z⟩
      · exact ⟨7, rfl, fun z => by cases z⟩
      · exact ⟨10, rfl, fun z => by cases z⟩
      · exact ⟨11, rfl, fun z => by cases z⟩
      · exact ⟨30, rfl, fun z => by cases z⟩
    refine i_ixL hat ?_
    have hx2 : tOpen (mup M x (.lst (ps.map D.lst))) t c (m' + 1) (cs.set j (drawC cs[j] 8)) x = some (.lst (ps.map D.lst)) := by
      rw [← tOpen_put xt xc]; exact mup_same
    have hlen : (Bm + 1) * (d0 :: rest).length = (Bm + 1) * rest.length + (Bm + 1) := by rw [List.length_cons, Nat.mul_add, Nat.mul_one]
    walk_at "y"
    rw [cutD_to]
    walk_at "y"
    rw [cutD_from]
    have hlt : Phi (cs.set j (drawC cs[j] 8)) (m' + 1) + (Bm + 1) * ((d0 :: rest).drop mn).length + 1 ≤ Phi cs m' + (Bm + 1) * (d0 :: rest).length := by
      by_cases hz : mn = 0
      · have := p1 (hmz hz)
        rw [hz, List.drop_zero]; omega
      · have h5 : ((d0 :: rest).drop mn).length ≤ rest.length := by rw [List.length_drop, List.length_cons]; omega
        have h6 := Nat.mul_le_mul_left (Bm + 1) h5
        omega
    refine hk2 _ _ _ (by omega) ⟨ps ++ [(d0 :: rest).take mn], (d0 :: rest).drop mn, m' + 1, _, _, ?_, T2, rfl, ?_, ?_, rfl⟩
    · rw [List.flatten_append, ← hps]
      simp
    · rw [List.length_append]; simp only [List.length_cons, List.length_nil]; simp only [List.length_cons] at hlt hle; omega
    · rw [tOpen_put xt xc, mup_mup, List.map_append]; rfl

-- needs: reader Reader_heard
theorem sign_in (l : List Int) : (c_SIGNS.any fun z => eqD z (.tup (l.map D.int))) = sign l := by
  have e : ∀ a : List Int, eqD (.tup (a.map D.int)) (.tup (l.map D.int)) = decide (l = a) := fun a => by
    rw [eqD_tup]
    induction a generalizing l with
    | nil => cases l <;> rfl
    | cons x a ih =>
      cases l with
      | nil => rfl
      | cons y l =>
        show (eqD (.int x) (.int y) && eqDs (a.map D.int) (l.map D.int)) = _
        rw [ih l, eqD_int]
        by_cases h : x = y
        · subst h; simp
        · have h' : ¬ y = x := fun z => h z.symm
          simp [h, h']
  show (eqD (.tup (n0_SIGNS.map D.int)) _ || (eqD (.tup (n1_SIGNS.map D.int)) _ || false)) = _
  rw [e, e, Bool.or_false]; rfl
theorem l_Reader_found {a : Addr} {s : RS} {fo : Option Addr} {M : Mh} {Q : QZ} {E : ZX} (h : RdAt M a s fo) (hb : bitL s.last) (hl7 : s.last.length ≤ 7) (hp : ∀ ps, s.part = some ps → bitL ps ∧ ps.length ≤ 10)
    (q : ∀ M' fo', RdAt M' a (findR s).2 fo' → Fr M a fo M' fo' → Q (.lst ((findR s).1.map tkD)) M') : z_Reader_found [.ref a] M Q E := by
  have hm := h.me
  have hpt := h.part
  show zFn _ zb_Reader_found _ _ _ _
  unfold zFn zb_Reader_found
  walk_at "y"
  refine i_newT fun x hx => ?_
  have xa : x ≠ a := fun z => by rw [z, hm] at hx; cases hx
  have hxf : fo ≠ some x := fun z => by
    subst z
    cases e : s.part with
    | none => rw [e] at hpt; exact hpt
    | some ps => rw [e] at hpt; rw [hpt.2] at hx; cases hx
  have fr0 : Fr M a fo (mup M x (.lst [])) fo := fun y o e h1 h2 => ⟨mup_get hx e, h2⟩
  refine i_name ?_
  dsimp only [st]
  -- the sign
  refine i_seqP (P := fun r M' => ∃ (fo' : Option Addr) (t1 : List Nat) (s1 : RS), (t1, s1) = (if sign s.last && decide (s.part.map List.length ≠ some 7) then ((if s.part.isSome then [260] else []), RS.mk s.last (some s.last) none) else ([], s)) ∧ RdAt M' a s1 fo' ∧ Fr M a fo M' fo' ∧ fo' ≠ some x ∧ M' x = some (.lst (t1.map tkD)) ∧ r = [some (.ref a), some (.ref x), none]) ?_ ?_
  · rintro r M1 ⟨f1, t1, s1, e1, h1, fr1, nx1, hX, rfl⟩
    have eq : findR s = (match s1.part with
      | none => (t1, s1)
      | some ps => if ps.length = 10 then (t1 ++ (judge s1.poise (wordOf ps)).1, RS.mk s1.last (if (judge s1.poise (wordOf ps)).2.1 then some [] else none) (judge s1.poise (wordOf ps)).2.2) else (t1, s1)) := by
      unfold findR
      rw [← e1]
      all_goals rfl
    rw [eq] at q
    have hp1 : ∀ ps, s1.part = some ps → bitL ps ∧ ps.length ≤ 10 := by
      intro ps e
      split at e1
      · cases e1
        cases e
        exact ⟨hb, by show s.last.length ≤ 10; omega⟩
      · cases e1; exact hp ps e
    have hm1 := h1.me
    have hpt1 := h1.part
    have fin : ∀ {M2 : Mh} {f2 : Option Addr} {t : List Nat} {s2 : RS}, M2 x = some (.lst (t.map tkD)) → RdAt M2 a s2 f2 → Fr M a fo M2 f2 → f2 ≠ some x → (RdAt (mdel M2 x) a s2 f2 ∧ Fr M a fo (mdel M2 x) f2) := by
      intro M2 f2 t s2 hX2 h2 fr2 n2
      refine ⟨⟨by rw [mdel_ne (Ne.symm xa)]; exact h2.me, ?_⟩, fun y o e h3 h4 => ?_⟩
      · exact h2.part.keep fun f hf => mdel_ne (fun z => n2 (by rw [hf, z]))
      · obtain ⟨q1, q2⟩ := fr2 y o e h3 h4
        exact ⟨by rw [mdel_ne (fun z => by rw [z, hx] at e; cases e)]; exact q1, q2⟩
    cases e2 : s1.part with
    | none =>
      rw [e2] at hpt1 q
      cases f1 with
      | some f => exact False.elim hpt1
      | none =>
        have hm1 : M1 a = some (.ins "Reader" [("last", .lst (s1.last.map D.int)), ("part", .non), ("poise", hdD s1.poise)]) := hm1
        walk_at "y"
        refine i_rtF hX ?_
        obtain ⟨g1, g2⟩ := fin hX h1 fr1 nx1
        exact q _ _ g1 g2
    | some ps =>
      rw [e2] at hpt1 q
      cases f1 with
      | none => exact False.elim hpt1
      | some f =>
        have hm1 : M1 a = some (.ins "Reader" [("last", .lst (s1.last.map D.int)), ("part", .ref f), ("poise", hdD s1.poise)]) := hm1
        obtain ⟨fa, hF⟩ := hpt1
        obtain ⟨hbp, hlp⟩ := hp1 ps e2
        dsimp only at q
        walk_at "y"
        refine i_bd (fun e3 => ?_) fun e3 => ?_
        · have e3 : ps.length = 10 := by omega
          rw [if_pos e3] at q
          walk_at "y"
          refine l_word_ofR hF hbp e3 ?_
          walk_at "y"
          refine i_newT fun g hg => ?_
          have gx : g ≠ x := fun z => by rw [z, hX] at hg; cases hg
          have ga : g ≠ a := fun z => by rw [z, hm1] at hg; cases hg
          have xf : x ≠ f := fun z => nx1 (by rw [z])
          walk_at "y"
          have hR : RdAt (mup (mup M1 g (.lst [])) a (.ins "Reader" [("last", .lst (s1.last.map D.int)), ("part", .ref g), ("poise", hdD s1.poise)])) a ⟨s1.last, some [], s1.poise⟩ (some g) := ⟨mup_same, ga, by rw [mup_ne ga]; exact mup_same⟩
          have hFr : Fr M a fo (mup (mup M1 g (.lst [])) a (.ins "Reader" [("last", .lst (s1.last.map D.int)), ("part", .ref g), ("poise", hdD s1.poise)])) (some g) := fun y o e h3 h4 => by
            obtain ⟨q1, q2⟩ := fr1 y o e h3 h4
            exact ⟨by rw [mup_ne h3]; exact mup_get hg q1, fun z => by cases z; rw [q1] at hg; cases hg⟩
          have hX2 : mup (mup M1 g (.lst [])) a (.ins "Reader" [("last", .lst (s1.last.map D.int)), ("part", .ref g), ("poise", hdD s1.poise)]) x = some (.lst (t1.map tkD)) := by rw [mup_ne xa]; exact mup_get hg hX
          refine l_Reader_heard hR fun M2 f2 h2 fr2 => ?_
          obtain ⟨hX3, nx3⟩ := fr2 x _ hX2 xa (fun z => gx (by cases z; rfl))
          have lt : t1.length ≤ 1 := by
            split at e1
            · cases e1; split <;> simp
            · cases e1; simp
          have lj : (judge s1.poise (wordOf ps)).1.length ≤ 2 := judge_len
          walk_at "z"
          refine i_ext hX3 (by rw [List.length_map, List.length_map, sizeLine_eq]; show t1.length + (judge s1.poise (wordOf ps)).1.length ≤ 16777216; omega) ?_
          rw [← List.map_append]
          walk_at "z"
          refine i_rtF mup_same ?_
          have hR2 : RdAt (mup M2 x (.lst ((t1 ++ (judge s1.poise (wordOf ps)).1).map tkD))) a ⟨s1.last, (if (judge s1.poise (wordOf ps)).2.1 then some [] else none), (judge s1.poise (wordOf ps)).2.2⟩ f2 := ⟨by rw [mup_ne (Ne.symm xa)]; exact h2.me, h2.part.keep fun f hf => mup_ne (fun z => nx3 (by rw [hf, z]))⟩
          have fr3 : Fr M a fo (mup M2 x (.lst ((t1 ++ (judge s1.poise (wordOf ps)).1).map tkD))) f2 := fun y o e h3 h4 => by
            obtain ⟨q1, q2⟩ := hFr.trans fr2 y o e h3 h4
            exact ⟨by rw [mup_ne (fun z => by rw [z, hx] at e; cases e)]; exact q1, q2⟩
          obtain ⟨g1, g2⟩ := fin mup_same hR2 fr3 nx3
          exact q _ _ g1 g2
        · have e3 : ¬ ps.length = 10 := by omega
          rw [if_neg e3] at q
          walk_at "y"
          refine i_rtF hX ?_
          obtain ⟨g1, g2⟩ := fin hX h1 fr1 nx1
          exact q _ _ g1 g2
  · intro k hk
    have hm2 : mup M x (.lst []) a = some (.ins "Reader" [("last", .lst (s.last.map D.int)), ("part", rfD fo), ("poise", hdD s.poise)]) := mup_get hx hm
    have R0 : RdAt (mup M x (.lst [])) a s fo := ⟨hm2, hpt.keep fun f hf => mup_ne (fun z => hxf (by rw [hf, z]))⟩
    have hXx : mup M x (.lst []) x = some (.lst (([] : List Nat).map tkD)) := mup_same
    have hfree : ∀ y, mup M x (.lst []) y = none → y ≠ x ∧ M y = none := fun y hy => by
      by_cases z : y = x
      · rw [z, mup_same] at hy; cases hy
      · rw [mup_ne z] at hy; exact ⟨z, hy⟩
    -- the mark's sign begins a part
    have begun : ∀ (t1 : List Nat) (M1 : Mh) (g : Addr), (∀ y o, M y = some o → M1 y = some o) → M1 x = some (.lst (t1.map tkD)) → M1 g = none →
        RdAt (mup (mup M1 g (.lst (s.last.map D.int))) a (.ins "Reader" [("last", .lst (s.last.map D.int)), ("part", .ref g), ("poise", .non)])) a ⟨s.last, some s.last, none⟩ (some g) ∧
        Fr M a fo (mup (mup M1 g (.lst (s.last.map D.int))) a (.ins "Reader" [("last", .lst (s.last.map D.int)), ("part", .ref g), ("poise", .non)])) (some g) ∧ (some g : Option Addr) ≠ some x ∧
        mup (mup M1 g (.lst (s.last.map D.int))) a (.ins "Reader" [("last", .lst (s.last.map D.int)), ("part", .ref g), ("poise", .non)]) x = some (.lst (t1.map tkD)) := by
      intro t1 M1 g hM hX1 hg
      have ga : g ≠ a := fun z => by rw [z, hM a _ hm] at hg; cases hg
      have gx : g ≠ x := fun z => by rw [z, hX1] at hg; cases hg
      refine ⟨⟨mup_same, ga, by rw [mup_ne ga]; exact mup_same⟩, fun y o e h3 h4 => ?_, fun z => gx (by cases z; rfl), by rw [mup_ne xa]; exact mup_get hg hX1⟩
      exact ⟨by rw [mup_ne h3]; exact mup_get hg (hM y o e), fun z => by cases z; rw [hM _ _ e] at hg; cases hg⟩
    walk_at "y"
    refine i_tuple ?_
    walk_at "y"
    refine i_inTT (.tflat (all_flat_ints _)) ⟨rfl, by decide⟩ ?_
    rw [sign_in]
    cases hs : sign s.last with
    | false =>
      walk_at "y"
      exact hk _ _ ⟨fo, [], s, by rw [hs]; rfl, R0, fr0, hxf, hXx, rfl⟩
    | true =>
      have l7 : s.last.length = 7 := by
        unfold sign at hs
        rw [Bool.or_eq_true, decide_eq_true_eq, decide_eq_true_eq] at hs
        rcases hs with e | e <;> rw [e] <;> rfl
      cases e : s.part with
      | none =>
        rw [e] at hpt
        cases fo with
        | some f => exact False.elim hpt
        | none =>
          have hm2 : mup M x (.lst []) a = some (.ins "Reader" [("last", .lst (s.last.map D.int)), ("part", .non), ("poise", hdD s.poise)]) := hm2
          walk_at "y"
          refine i_newT fun g hg => ?_
          walk_at "y"
          rw [mup_mup]
          obtain ⟨b1, b2, b3, b4⟩ := begun [] (mup M x (.lst [])) g (fun y o h => mup_get hx h) mup_same hg
          exact hk _ _ ⟨some g, [], _, by rw [hs, e]; rfl, b1, b2, b3, b4, rfl⟩
      | some ps =>
        rw [e] at hpt
        cases fo with
        | none => exact False.elim hpt
        | some f =>
          have hm2 : mup M x (.lst []) a = some (.ins "Reader" [("last", .lst (s.last.map D.int)), ("part", .ref f), ("poise", hdD s.poise)]) := hm2
          have hF : mup M x (.lst []) f = some (.lst (ps.map D.int)) := mup_get hx hpt.2
          walk_at "y"
          refine i_bd (fun e3 => ?_) fun e3 => ?_
          · have e3 : ps.length = 7 := by omega
            walk_at "y"
            exact hk _ _ ⟨some f, [], s, by rw [hs, e]; simp [e3], R0, fr0, hxf, hXx, rfl⟩
          · have e3 : ¬ ps.length = 7 := by omega
            walk_at "y"
            rw [mup_mup]
            refine i_newT fun g hg => ?_
            have hm3 : mup M x (.lst ([] ++ [.str "lost"])) a = some (.ins "Reader" [("last", .lst (s.last.map D.int)), ("part", .ref f), ("poise", hdD s.poise)]) := mup_get hx hm
            walk_at "y"
            rw [mup_mup]
            obtain ⟨b1, b2, b3, b4⟩ := begun [260] (mup M x (.lst ([] ++ [.str "lost"]))) g (fun y o h => mup_get hx h) mup_same hg
            exact hk _ _ ⟨some g, [260], _, by rw [hs, e]; simp [e3], b1, b2, b3, b4, rfl⟩

-- needs: taker Taker_took
theorem l_Taker_takeM {a : Addr} {s : Option (List Int)} {fo : Option Addr} {ts : List Nat} {M : Mh} {Q : QZ} {E : ZX} (h : TkAt M a s fo) (ok : TOk s) (ht : ∀ n ∈ ts, n ≤ 260) (hl : ts.length ≤ 1000000)
    (q : ∀ M' fo' x ds, M x = none → TkAt M' a (runT s ts).2 fo' → Fr M a fo M' fo' → fo' ≠ some x → x ≠ a → M' x = some (.lst ds) → EvsA (fun y => (∀ o, M y = some o → fo = some y) ∧ y ≠ x ∧ y ≠ a) M' fo' (runT s ts).1 ds → (enB true Q).rt (.ref x) M') : z_Taker_take [.ref a, .lst (ts.map tkD)] M Q E := by
  have hm := h.me
  have hpt := h.part
  show zFn _ zb_Taker_take _ _ _ _
  unfold zFn zb_Taker_take
  walk_at "y"
  refine zLcL_mapm (g := fun _ => .bl true) (fun n hn Q hq => ?_) ?_
  · obtain ⟨_, _, _, k4⟩ := tkD_eqs (ht n hn)
    walk_at "y"
    refine i_eq (tkD_Pl n) (.str _ _) ?_
    rw [k4]
    walk_at "y"
    refine i_bd (fun e => ?_) fun e => ?_
    · walk_at "y"
      exact hq
    · have hn2 : n < 260 := by have := ht n hn; omega
      walk_at "y"
      rw [tkD_it hn2]
      refine l_is_item (itD_known n) ?_
      rw [isIt_itD n hn2]
      exact hq
  walk_at "y"
  refine i_allE (bs := ts.map fun _ => true) (by simp [Function.comp_def]) ?_
  walk_at "y"
  rw [show (ts.map fun _ => true).all id = true by simp]
  walk_at "y"
  refine i_newT fun x hx => ?_
  have xa : x ≠ a := fun z => by rw [z, hm] at hx; cases hx
  have hxf : fo ≠ some x := fun z => by
    subst z
    cases e : s with
    | none => rw [e] at hpt; exact False.elim hpt
    | some ps => rw [e] at hpt; rw [hpt.2] at hx; cases hx
  walk_at "y"
  refine zLoop_map (fun l r M' => ∃ (fo' : Option Addr) (s' : Option (List Int)) (acc : List (Option (List Int))) (ads : List D) (y : Option D), TkAt M' a s' fo' ∧ TOk s' ∧ Fr M a fo M' fo' ∧ fo' ≠ some x ∧ M' x = some (.lst ads) ∧ EvsA (fun y => (∀ o, M y = some o → fo = some y) ∧ y ≠ x ∧ y ≠ a) M' fo' acc ads ∧ (∀ n ∈ l, n ≤ 260) ∧ acc.length + l.length ≤ 1000000 ∧ acc ++ (runT s' l).1 = (runT s ts).1 ∧ (runT s' l).2 = (runT s ts).2 ∧ r = [some (.ref a), some (.lst (ts.map tkD)), some (.ref x), y]) ?_ ?_
    ⟨fo, s, [], [], _, ⟨mup_get hx hm, hpt.keep fun f hf => mup_ne (fun z => hxf (by rw [hf, z]))⟩, ok, fun y o e _ h2 => ⟨mup_get hx e, h2⟩, hxf, mup_same, trivial, ht, by simp only [List.length_nil]; omega, rfl, rfl, rfl⟩
  · rintro r M' ⟨fo', s', acc, ads, y, h1, _, fr1, nx, hX, hE, _, _, e1, e2, rfl⟩
    walk_at "y"
    rw [show (runT s' []).1 = [] from rfl, List.append_nil] at e1
    rw [show (runT s' []).2 = s' from rfl] at e2
    subst e1 e2
    exact q _ _ _ _ hx h1 fr1 nx xa hX hE
  · rintro n l r M' k ⟨fo', s', acc, ads, y, h1, ok1, fr1, nx, hX, hE, hbl, hlen, e1, e2, rfl⟩ hk
    have hm1 := h1.me
    obtain ⟨ok2, hl2⟩ := tookT_ok (n := n) ok1
    walk_at "y"
    refine l_Taker_took h1 ok1 (hbl n List.mem_cons_self) fun M4 f4 ds4 h4 fr4 hE4 => ?_
    obtain ⟨hX4, nx4⟩ := fr4 x _ hX xa nx
    have hl4 := hE4.len
    have hl0 := hE.len
    walk_at "z"
    refine i_ext hX4 (by rw [hl0, hl4, sizeLine_eq]; rw [List.length_cons] at hlen; omega) ?_
    have hEa : EvsA (fun y => (∀ o, M y = some o → fo = some y) ∧ y ≠ x ∧ y ≠ a) (mup M4 x (.lst (ads ++ ds4))) f4 (acc ++ (tookT s' n).1) (ads ++ ds4) := by
      refine EvsA.app (hE.imp fun z o hz hz1 hz2 => ?_) (hE4.imp fun z o hz hz1 hz2 => ?_)
      · obtain ⟨g1, g2⟩ := fr4 z o hz1 hz.2.2 hz2
        exact ⟨hz, (mup_ne hz.2.1).trans g1, g2⟩
      · have hzx : z ≠ x := fun w => by rw [w, hX] at hz; cases hz
        have hza : z ≠ a := fun w => by rw [w, hm1] at hz; cases hz
        refine ⟨⟨fun o2 e => ?_, hzx, hza⟩, (mup_ne hzx).trans hz1, hz2⟩
        by_cases hzf : fo = some z
        · exact hzf
        · obtain ⟨g1, _⟩ := fr1 z o2 e hza hzf
          rw [g1] at hz; cases hz
    refine hk _ _ ⟨f4, (tookT s' n).2, acc ++ (tookT s' n).1, _, _, ⟨(mup_ne (Ne.symm xa)).trans h4.me, h4.part.keep fun f hf => mup_ne (fun z => nx4 (by rw [hf, z]))⟩, ok2, fun y o e h5 h6 => ?_, nx4, mup_same, hEa, (fun m hm => hbl m (List.mem_cons_of_mem _ hm)), by rw [List.length_append]; rw [List.length_cons] at hlen; omega, by rw [List.append_assoc]; exact e1, e2, rfl⟩
    obtain ⟨q1, q2⟩ := fr1.trans fr4 y o e h5 h6
    exact ⟨by rw [mup_ne (fun z => by rw [z, hx] at e; cases e)]; exact q1, q2⟩

-- needs: reader Reader_found
theorem ROk.init : ROk ⟨[], none, none⟩ := ⟨(fun _ h => nomatch h), Nat.zero_le _, (fun _ h => nomatch h), (fun _ h => nomatch h)⟩
theorem putR_len (s : RS) (b : Int) : (putR s b).last.length ≤ 7 := by
  show ((s.last ++ [b]).drop ((s.last ++ [b]).length - 7)).length ≤ 7
  rw [List.length_drop]; omega
theorem putR_bits {s : RS} {b : Int} (h : bitL s.last) (hb : b = 0 ∨ b = 1) : bitL (putR s b).last := bitL_drop (bitL_app h (fun n hn => by rw [List.mem_singleton.mp hn]; exact hb)) _
theorem putR_part {s : RS} {b : Int} (h : ROk s) (hb : b = 0 ∨ b = 1) : ∀ ps, (putR s b).part = some ps → bitL ps ∧ ps.length ≤ 10 := by
  intro ps e
  have e : s.part.map (· ++ [b]) = some ps := e
  cases e2 : s.part with
  | none => rw [e2] at e; cases e
  | some qs =>
    rw [e2] at e
    cases e
    obtain ⟨h1, h2⟩ := h.part qs e2
    exact ⟨bitL_app h1 (fun n hn => by rw [List.mem_singleton.mp hn]; exact hb), by rw [List.length_append]; simp only [List.length_cons, List.length_nil]; omega⟩
theorem stepR_ok {s : RS} {b : Int} (h : ROk s) (hb : b = 0 ∨ b = 1) : ROk (stepR s b).2 ∧ (stepR s b).1.length ≤ 3 := by
  have l7 := putR_len s b
  have hl := putR_bits (b := b) h.last hb
  have hp := putR_part h hb
  have ho : ∀ p, (putR s b).poise = some p → pm p := h.poise
  unfold stepR
  generalize putR s b = s0 at l7 hl hp ho
  unfold findR
  generalize hx : (if sign s0.last && decide (s0.part.map List.length ≠ some 7) then ((if s0.part.isSome then [260] else []), RS.mk s0.last (some s0.last) none) else (([] : List Nat), s0)) = x
  obtain ⟨t1, s1⟩ := x
  have h1 : bitL s1.last ∧ s1.last.length ≤ 7 ∧ (∀ ps, s1.part = some ps → bitL ps ∧ ps.length ≤ 10) ∧ (∀ p, s1.poise = some p → pm p) ∧ t1.length ≤ 1 := by
    split at hx
    · cases hx
      refine ⟨hl, l7, fun ps e => ?_, (fun _ e => nomatch e), by split <;> simp⟩
      cases e
      exact ⟨hl, by omega⟩
    · cases hx
      exact ⟨hl, l7, hp, ho, by simp⟩
  obtain ⟨g1, g2, g3, g4, g5⟩ := h1
  dsimp only
  cases e : s1.part with
  | none => exact ⟨⟨g1, g2, (fun ps z => by rw [e] at z; cases z), g4⟩, by dsimp only; omega⟩
  | some ps =>
    dsimp only
    by_cases h10 : ps.length = 10
    · rw [if_pos h10]
      refine ⟨⟨g1, g2, fun qs z => ?_, judge_ok g4⟩, ?_⟩
      · have z : (if (judge s1.poise (wordOf ps)).2.1 then some [] else none) = some qs := z
        split at z
        · cases z; exact ⟨(fun _ h => nomatch h), by decide⟩
        · cases z
      · have := @judge_len s1.poise (wordOf ps)
        show (t1 ++ (judge s1.poise (wordOf ps)).1).length ≤ 3
        rw [List.length_append]; omega
    · rw [if_neg h10]
      refine ⟨⟨g1, g2, fun qs z => ?_, g4⟩, by show t1.length ≤ 3; omega⟩
      have z : s1.part = some qs := z
      obtain ⟨q1, q2⟩ := g3 qs z
      rw [e] at z; cases z
      exact ⟨q1, by omega⟩
theorem runR_ok : ∀ {bs : List Int} {s : RS}, ROk s → bitL bs → ROk (runR s bs).2 ∧ (runR s bs).1.length ≤ 3 * bs.length
  | [], s, h, _ => ⟨h, Nat.le_refl _⟩
  | b :: r, s, h, hb => by
    obtain ⟨h1, h2⟩ := stepR_ok (b := b) h (hb b List.mem_cons_self)
    obtain ⟨h3, h4⟩ := runR_ok (bs := r) h1 (fun n hn => hb n (List.mem_cons_of_mem _ hn))
    refine ⟨h3, ?_⟩
    show ((stepR s b).1 ++ (runR (stepR s b).2 r).1).length ≤ 3 * (r.length + 1)
    rw [List.length_append]; omega
theorem cutD_7 (ds : List D) : cutD ds (some (0 - 7)) none = ds.drop (ds.length - 7) := by
  unfold cutD
  have e1 : HT.sIx ds.length 0 (some (0 - 7 : Int)) = ds.length - 7 := by
    unfold HT.sIx
    first | (simp; omega) | (dsimp only; split <;> omega)
  have e2 : HT.sIx ds.length ds.length none = ds.length := rfl
  rw [e1, e2, List.take_of_length_le (by rw [List.length_drop]; omega)]
theorem l_Reader_hearM {a : Addr} {s : RS} {fo : Option Addr} {bs : List Int} {M : Mh} {Q : QZ} {E : ZX} (h : RdAt M a s fo) (ok : ROk s) (hb : bitL bs) (hl : bs.length ≤ 1000000)
    (q : ∀ M' fo' x, M x = none → RdAt M' a (runR s bs).2 fo' → Fr M a fo M' fo' → fo' ≠ some x → x ≠ a → M' x = some (.lst ((runR s bs).1.map tkD)) → (enB true Q).rt (.ref x) M') : z_Reader_hear [.ref a, .lst (bs.map D.int)] M Q E := by
  have hm := h.me
  have hpt := h.part
  show zFn _ zb_Reader_hear _ _ _ _
  unfold zFn zb_Reader_hear
  walk_at "y"
  refine l_look_bits_ok hb ?_
  walk_at "y"
  refine i_newT fun x hx => ?_
  have xa : x ≠ a := fun z => by rw [z, hm] at hx; cases hx
  have hxf : fo ≠ some x := fun z => by
    subst z
    cases e : s.part with
    | none => rw [e] at hpt; exact False.elim hpt
    | some ps => rw [e] at hpt; rw [hpt.2] at hx; cases hx
  walk_at "y"
  refine zLoop_map (fun l r M' => ∃ (fo' : Option Addr) (s' : RS) (acc : List Nat) (y : Option D), RdAt M' a s' fo' ∧ ROk s' ∧ Fr M a fo M' fo' ∧ fo' ≠ some x ∧ M' x = some (.lst (acc.map tkD)) ∧ bitL l ∧ acc.length + 3 * l.length ≤ 3000000 ∧ acc ++ (runR s' l).1 = (runR s bs).1 ∧ (runR s' l).2 = (runR s bs).2 ∧ r = [some (.ref a), some (.lst (bs.map D.int)), some (.ref x), y]) ?_ ?_
    ⟨fo, s, [], _, ⟨mup_get hx hm, hpt.keep fun f hf => mup_ne (fun z => hxf (by rw [hf, z]))⟩, ok, fun y o e _ h2 => ⟨mup_get hx e, h2⟩, hxf, mup_same, hb, by simp only [List.length_nil]; omega, rfl, rfl, rfl⟩
  · rintro r M' ⟨fo', s', acc, y, h1, _, fr1, nx, hX, _, _, e1, e2, rfl⟩
    walk_at "y"
    rw [show (runR s' []).1 = [] from rfl, List.append_nil] at e1
    rw [show (runR s' []).2 = s' from rfl] at e2
    subst e1 e2
    exact q _ _ _ hx h1 fr1 nx xa hX
  · rintro b l r M' k ⟨fo', s', acc, y, h1, ok1, fr1, nx, hX, hbl, hlen, e1, e2, rfl⟩ hk
    have hb1 := hbl b List.mem_cons_self
    have hm1 := h1.me
    have hpt1 := h1.part
    have hl1 := ok1.len
    obtain ⟨ok2, hl2⟩ := stepR_ok ok1 hb1
    refine i_ck0 ?_
    refine i_step ?_
    refine i_name ?_
    dsimp only [st]
    refine i_seqP (P := fun r M2 => ∃ y', RdAt M2 a ⟨(putR s' b).last, s'.part, s'.poise⟩ fo' ∧ Fr M a fo M2 fo' ∧ M2 x = some (.lst (acc.map tkD)) ∧ y' = some (.int b) ∧ r = [some (.ref a), some (.lst (bs.map D.int)), some (.ref x), y']) ?_ ?_
    · rintro r M2 ⟨y', h2, fr2, hX2, rfl, rfl⟩
      have hm2 := h2.me
      have hpt2 := h2.part
      refine i_seqP (P := fun r M3 => RdAt M3 a (putR s' b) fo' ∧ Fr M a fo M3 fo' ∧ M3 x = some (.lst (acc.map tkD)) ∧ r = [some (.ref a), some (.lst (bs.map D.int)), some (.ref x), some (.int b)]) ?_ ?_
      · rintro r M3 ⟨h3, fr3, hX3, rfl⟩
        have hm3 := h3.me
        walk_at "y"
        refine l_Reader_found h3 (putR_bits ok1.last hb1) (putR_len s' b) (putR_part ok1 hb1) fun M4 f4 h4 fr4 => ?_
        obtain ⟨hX4, nx4⟩ := fr4 x _ hX3 xa nx
        walk_at "z"
        refine i_ext hX4 (by rw [List.length_map, List.length_map, sizeLine_eq]; rw [List.length_cons] at hlen; show acc.length + (stepR s' b).1.length ≤ 16777216; omega) ?_
        rw [← List.map_append]
        refine hk _ _ ⟨f4, (stepR s' b).2, acc ++ (stepR s' b).1, _, ⟨(mup_ne (Ne.symm xa)).trans h4.me, h4.part.keep fun f hf => mup_ne (fun z => nx4 (by rw [hf, z]))⟩, ok2, fun y o e h5 h6 => ?_, nx4, mup_same, (fun n hn => hbl n (List.mem_cons_of_mem _ hn)), by rw [List.length_append]; rw [List.length_cons] at hlen; omega, by rw [List.append_assoc]; exact e1, e2, rfl⟩
        obtain ⟨q1, q2⟩ := fr3.trans fr4 y o e h5 h6
        exact ⟨by rw [mup_ne (fun z => by rw [z, hx] at e; cases e)]; exact q1, q2⟩
      · intro k2 hk2
        cases e3 : s'.part with
        | none =>
          rw [e3] at hpt2
          cases fo' with
          | some f => exact False.elim hpt2
          | none =>
            have hm2 : M2 a = some (.ins "Reader" [("last", .lst ((putR s' b).last.map D.int)), ("part", .non), ("poise", hdD s'.poise)]) := hm2
            walk_at "y"
            exact hk2 _ _ ⟨⟨hm2, by show partAt M2 a (s'.part.map _) none; rw [e3]; trivial⟩, fr2, hX2, rfl⟩
        | some ps =>
          rw [e3] at hpt2
          cases fo' with
          | none => exact False.elim hpt2
          | some f =>
            have hm2 : M2 a = some (.ins "Reader" [("last", .lst ((putR s' b).last.map D.int)), ("part", .ref f), ("poise", hdD s'.poise)]) := hm2
            have hF : M2 f = some (.lst (ps.map D.int)) := hpt2.2
            have hps := (ok1.part ps e3).2
            have xf : x ≠ f := fun z => nx (by rw [z])
            walk_at "y"
            refine hk2 _ _ ⟨⟨(mup_ne (Ne.symm hpt2.1)).trans hm2, by
              show partAt _ a (s'.part.map _) (some f)
              rw [e3]
              exact ⟨hpt2.1, by rw [mup_same]; simp⟩⟩, fun y o e h5 h6 => ?_, (mup_ne xf).trans hX2, rfl⟩
            obtain ⟨q1, q2⟩ := fr2 y o e h5 h6
            exact ⟨(mup_ne (fun z => q2 (by rw [z]))).trans q1, q2⟩
    · intro k2 hk2
      walk_at "y"
      rw [show cutD (List.map D.int s'.last ++ [D.int b]) (some (0 - ↑(n0_SIGNS.map D.int).length)) none = (putR s' b).last.map D.int by
        rw [show ((n0_SIGNS.map D.int).length : Int) = 7 from rfl, cutD_7]
        show _ = ((s'.last ++ [b]).drop ((s'.last ++ [b]).length - 7)).map D.int
        rw [List.map_drop, List.map_append, List.length_append, List.length_map, List.length_append]; rfl]
      walk_at "y"
      refine hk2 _ _ ⟨_, ⟨mup_same, hpt1.keep fun f hf => mup_ne (fun z => ?_)⟩, fun y o e h5 h6 => ?_, (mup_ne xa).trans hX, rfl, rfl⟩
      · subst hf
        cases e : s'.part with
        | none => rw [e] at hpt1; exact False.elim hpt1
        | some ps => rw [e] at hpt1; exact hpt1.1 z
      · obtain ⟨q1, q2⟩ := fr1 y o e h5 h6
        exact ⟨(mup_ne h5).trans q1, q2⟩
theorem l_Reader_hear {a : Addr} {s : RS} {fo : Option Addr} {bs : List Int} {M : Mh} {Q : QZ} {E : ZX} (h : RdAt M a s fo) (ok : ROk s) (hb : bitL bs) (hl : bs.length ≤ 1000000)
    (q : ∀ M' fo', RdAt M' a (runR s bs).2 fo' → Fr M a fo M' fo' → Q (.lst ((runR s bs).1.map tkD)) M') : z_Reader_hear [.ref a, .lst (bs.map D.int)] M Q E :=
  l_Reader_hearM h ok hb hl fun M' fo' x hx h1 fr nx xa hX => i_rtF hX (q _ fo' ⟨(mdel_ne (Ne.symm xa)).trans h1.me, h1.part.keep fun f hf => mdel_ne (fun z => nx (by rw [hf, z]))⟩ fun y o e h2 h3 => by
    obtain ⟨q1, q2⟩ := fr y o e h2 h3
    exact ⟨(mdel_ne (fun z => by rw [z, hx] at e; cases e)).trans q1, q2⟩)
theorem l_Reader_hear_bad {a : Addr} {d : D} {M : Mh} {Q : QZ} {E : ZX} (h : badBits M d) (q : E "BadBits" [] M) : z_Reader_hear [.ref a, d] M Q E := by
  show zFn _ zb_Reader_hear _ _ _ _
  unfold zFn zb_Reader_hear
  walk_at "y"
  refine l_look_bits_bad h ?_
  walk_at "y"
  exact q

-- needs: reader
def toksD (h : List Nat) : D := .lst (h.map tkD)
theorem Pl_toks (h : List Nat) : Pl 64 (toksD h) := .lflat (by rw [List.all_map]; exact List.all_eq_true.mpr fun n _ => tkD_flat n)
theorem Pl_hd (o : Option Int) : Pl 64 (hdD o) := by cases o <;> exact .flat rfl
abbrev R0 : RS := ⟨[], none, none⟩
section
variable {M M' : Mh} {a : Addr} {sa : RS} {fa : Option Addr}
theorem RdAt.keep (h : RdAt M a sa fa) (k : ∀ y o, M y = some o → (y = a ∨ fa = some y) → M' y = some o) : RdAt M' a sa fa := ⟨k _ _ h.me (.inl rfl), h.part.keep fun q hq => by
  have hp := h.part
  subst hq
  cases e : sa.part with
  | none => rw [e] at hp; exact False.elim hp
  | some ps => rw [e] at hp; rw [hp.2]; exact k _ _ hp.2 (.inr rfl)⟩
end

-- needs: reader
theorem part_tr {M : Mh} {a : Addr} {s : Option (List Int)} {q : Addr} (hp : partAt M a s (some q)) : (∃ l, M q = some (.lst l)) ∧ q ≠ a := by
  cases s with
  | none => exact False.elim hp
  | some ps => exact ⟨⟨_, hp.2⟩, hp.1⟩

-- needs: Ear___init__ Reader_hear Taker_take rdmore parttr
theorem TkAt.keep {M M' : Mh} {a : Addr} {s : Option (List Int)} {fa : Option Addr} (h : TkAt M a s fa) (k : ∀ y o, M y = some o → (y = a ∨ fa = some y) → M' y = some o) : TkAt M' a s fa := ⟨k _ _ h.me (.inl rfl), h.part.keep fun q hq => by
  have hp := h.part
  subst hq
  cases e : s with
  | none => rw [e] at hp; exact False.elim hp
  | some ps => rw [e] at hp; rw [hp.2]; exact k _ _ hp.2 (.inr rfl)⟩
theorem findR_lt {s : RS} : ∀ n ∈ (findR s).1, n ≤ 260 := by
  unfold findR
  generalize hx : (if sign s.last && decide (s.part.map List.length ≠ some 7) then ((if s.part.isSome then [260] else []), RS.mk s.last (some s.last) none) else (([] : List Nat), s)) = x
  obtain ⟨t1, s1⟩ := x
  have h1 : ∀ n ∈ t1, n ≤ 260 := by
    split at hx
    · cases hx
      intro n hn
      split at hn
      · rw [List.mem_singleton.mp hn]; exact Nat.le_refl _
      · cases hn
    · cases hx; intro n hn; cases hn
  dsimp only
  cases e : s1.part with
  | none => exact h1
  | some ps =>
    dsimp only
    split
    · intro n hn
      rcases List.mem_append.mp hn with hn | hn
      · exact h1 n hn
      · exact judge_lt n hn
    · exact h1
theorem runR_lt : ∀ {bs : List Int} {s : RS}, ∀ n ∈ (runR s bs).1, n ≤ 260
  | [], s, n, h => nomatch h
  | b :: r, s, n, h => by
    rcases List.mem_append.mp (show n ∈ (stepR s b).1 ++ (runR (stepR s b).2 r).1 from h) with h | h
    · exact findR_lt n h
    · exact runR_lt n h
/-- what an ear tells -/
def earR (sr : RS) (sk : Option (List Int)) (bs : List Int) : List (Option (List Int)) := (runT sk (runR sr bs).1).1
theorem l_Ear_hear {e r k : Addr} {sr : RS} {fr : Option Addr} {sk : Option (List Int)} {fk : Option Addr} {bs : List Int} {M : Mh} {Q : QZ} {E : ZX} (h : ErAt M e r k sr fr sk fk) (ok : ROk sr) (ok2 : TOk sk) (hb : bitL bs) (hl : bs.length ≤ 100000)
    (q : ∀ M' fr' fk' x ds, (∀ o, M x = some o → fr = some x) → ErAt M' e r k (runR sr bs).2 fr' (runT sk (runR sr bs).1).2 fk' → (∀ y o, M y = some o → y ≠ r → y ≠ k → fr ≠ some y → fk ≠ some y → M' y = some o ∧ fr' ≠ some y ∧ fk' ≠ some y) → x ≠ r → x ≠ k → fr' ≠ some x → fk' ≠ some x → M' x = some (.lst ds) → EvsA (fun y => (∀ o, M y = some o → fk = some y ∨ fr = some y) ∧ y ≠ x ∧ y ≠ k ∧ y ≠ r ∧ fr' ≠ some y) M' fk' (runT sk (runR sr bs).1).1 ds → Q (.ref x) M') : z_Ear_hear [.ref e, .lst (bs.map D.int)] M Q E := by
  have h1 := h.me
  have h2 := h.R.me
  have h3 := h.T.me
  show zFn _ zb_Ear_hear _ _ _ _
  unfold zFn zb_Ear_hear
  walk_at "y"
  refine l_Reader_hear h.R ok hb (by omega) fun M1 f1 hR1 fr1 => ?_
  have kT : ∀ y o, M y = some o → (y = k ∨ fk = some y) → M1 y = some o ∧ f1 ≠ some y := fun y o hy hh => by
    rcases hh with z | z
    · subst z; exact fr1 y o hy (Ne.symm h.rk) h.nrk
    · exact fr1 y o hy (fun z2 => h.nkr (by rw [z, z2])) (fun z2 => h.ff y z2 z)
  have hT1 : TkAt M1 k sk fk := h.T.keep fun y o hy hh => (kT y o hy hh).1
  have hm1 := hT1.me
  have hl1 := (runR_ok (s := sr) ok hb).2
  walk_at "y"
  refine l_Taker_takeM hT1 ok2 runR_lt (by omega) fun M2 f2 x ds hx1 hT2 fr2 nx xk hX hEv => ?_
  have kR : ∀ y o, M1 y = some o → (y = r ∨ f1 = some y) → M2 y = some o ∧ f2 ≠ some y := fun y o hy hh => by
    rcases hh with z | z
    · subst z; exact fr2 y o hy h.rk h.nkr
    · refine fr2 y o hy (fun z2 => ?_) (fun z2 => ?_)
      · subst z2; exact (kT y _ h3 (.inl rfl)).2 z
      · have hp := h.T.part
        rw [z2] at hp
        obtain ⟨⟨l, hl⟩, _⟩ := part_tr hp
        exact (kT y _ hl (.inr z2)).2 z
  have hR2 : RdAt M2 r (runR sr bs).2 f1 := hR1.keep fun y o hy hh => (kR y o hy hh).1
  have he1 := fr1 e _ h1 h.er h.nre
  have he2 := fr2 e _ he1.1 h.ek h.nke
  have hpr : ∀ y, f1 = some y → ∃ l, M1 y = some (.lst l) := fun y hy => by
    have hp := hR1.part
    rw [hy] at hp
    obtain ⟨⟨l, hl⟩, _⟩ := part_tr hp
    exact ⟨_, hl⟩
  have hf1 : f1 ≠ some x := fun z => by
    obtain ⟨l, hl⟩ := hpr x z
    rw [hx1] at hl; cases hl
  have hxr : x ≠ r := fun z => by rw [z, hR1.me] at hx1; cases hx1
  refine i_rtG ?_
  refine q M2 f1 f2 x ds (fun o ho => ?_) ⟨h.rk, h.er, h.ek, he1.2, (kT k _ h3 (.inl rfl)).2, he2.2, (kR r _ hR1.me (.inl rfl)).2, (fun x hx z => ?_), he2.1, hR2, hT2⟩ (fun y o hy y1 y2 y3 y4 => ?_) hxr xk hf1 nx hX (hEv.imp fun y o hy hy1 hy2 => ⟨⟨fun o2 ho2 => ?_, hy.2.1, hy.2.2, fun z => ?_, fun z => ?_⟩, hy1, hy2⟩)
  · by_cases hf : fr = some x
    · exact hf
    · have := (fr1 x o ho hxr hf).1
      rw [hx1] at this; cases this
  · have hp := hR1.part
    rw [hx] at hp
    obtain ⟨⟨l, hl⟩, _⟩ := part_tr hp
    exact (kR x _ hl (.inr hx)).2 z
  · obtain ⟨g1, g2⟩ := fr1 y o hy y1 y3
    obtain ⟨g3, g4⟩ := fr2 y o g1 y2 y4
    exact ⟨g3, g2, g4⟩
  · by_cases hf : fr = some y
    · exact .inr hf
    · by_cases hyr : y = r
      · rw [hyr] at hy
        exact absurd (hy.1 _ hR1.me) h.nkr
      · exact .inl (hy.1 _ (fr1 y o2 ho2 hyr hf).1)
  · rw [z] at hy
    exact absurd (hy.1 _ hR1.me) h.nkr
  · obtain ⟨l, hl⟩ := hpr y z
    have hfk := hy.1 _ hl
    have hp := h.T.part
    rw [hfk] at hp
    obtain ⟨⟨l2, hl2⟩, _⟩ := part_tr hp
    exact (kT y _ hl2 (.inr hfk)).2 z

theorem flat_ints {ns : List Int} {ps : List (List D)} (h : ps.flatten = ns.map D.int) : ∃ qs : List (List Int), ps = qs.map (fun q => q.map D.int) ∧ qs.flatten = ns := by
  induction ps generalizing ns with
  | nil =>
    refine ⟨[], rfl, ?_⟩
    simp at h
    simp [h]
  | cons a ps ih =>
    rw [List.flatten_cons] at h
    have e := congrArg (List.take a.length) h
    have e2 := congrArg (List.drop a.length) h
    rw [List.take_left, ← List.map_take] at e
    rw [List.drop_left, ← List.map_drop] at e2
    obtain ⟨qs, h1, h2⟩ := ih e2
    exact ⟨ns.take a.length :: qs, by rw [List.map_cons, ← h1]; congr 1, by rw [List.flatten_cons, h2, List.take_append_drop]⟩

-- needs: reader sent Reader_hear
/-! how a reader runs over what was sent -/
def last7 (l : List Int) : List Int := l.drop (l.length - 7)
theorem last7_snoc (h : List Int) (b : Int) : last7 (last7 h ++ [b]) = last7 (h ++ [b]) := by
  unfold last7
  by_cases hl : h.length ≤ 7
  · rw [show h.length - 7 = 0 by omega, List.drop_zero]
  · rw [List.length_append, List.length_drop, List.length_append, show h.length - (h.length - 7) + [b].length - 7 = 1 by simp only [List.length_cons, List.length_nil]; omega,
      show h.length + [b].length - 7 = (h.length - 7) + 1 by simp only [List.length_cons, List.length_nil]; omega]
    rw [List.drop_append_of_le_length (by rw [List.length_drop]; omega), List.drop_append_of_le_length (by omega), List.drop_drop]
theorem last7_suf (l : List Int) : ∃ g, l = g ++ last7 l := ⟨l.take (l.length - 7), (List.take_append_drop _ _).symm⟩
def sg (h : List Int) : Bool := sign (last7 h)
structure RInv (h : List Int) (s : RS) : Prop where
  last : s.last = last7 h
  part : ∀ ps, s.part = some ps → ∃ g, h = g ++ ps
theorem RInv.nil : RInv [] ⟨[], none, none⟩ := ⟨rfl, fun _ h => nomatch h⟩
theorem putR_inv {h : List Int} {s : RS} {b : Int} (i : RInv h s) : RInv (h ++ [b]) (putR s b) := by
  refine ⟨?_, fun ps e => ?_⟩
  · show last7 (s.last ++ [b]) = _
    rw [i.last, last7_snoc]
  · have e : s.part.map (· ++ [b]) = some ps := e
    cases e2 : s.part with
    | none => rw [e2] at e; cases e
    | some qs =>
      rw [e2] at e; cases e
      obtain ⟨g, hg⟩ := i.part qs e2
      exact ⟨g, by rw [hg, List.append_assoc]⟩
theorem findR_inv {h : List Int} {s : RS} (i : RInv h s) : RInv h (findR s).2 := by
  unfold findR
  generalize hx : (if sign s.last && decide (s.part.map List.length ≠ some 7) then ((if s.part.isSome then [260] else []), RS.mk s.last (some s.last) none) else (([] : List Nat), s)) = x
  obtain ⟨t1, s1⟩ := x
  have i1 : RInv h s1 := by
    split at hx
    · cases hx
      refine ⟨i.last, fun ps e => ?_⟩
      cases e
      show ∃ g, h = g ++ s.last
      rw [i.last]; exact last7_suf h
    · cases hx; exact i
  dsimp only
  cases e : s1.part with
  | none => exact i1
  | some ps =>
    dsimp only
    split
    · refine ⟨i1.last, fun qs z => ?_⟩
      have z : (if (judge s1.poise (wordOf ps)).2.1 then some [] else none) = some qs := z
      split at z
      · cases z; exact ⟨h, (List.append_nil _).symm⟩
      · cases z
    · exact i1
theorem stepR_inv {h : List Int} {s : RS} {b : Int} (i : RInv h s) : RInv (h ++ [b]) (stepR s b).2 := findR_inv (putR_inv i)
theorem runR_inv : ∀ {bs h : List Int} {s : RS}, RInv h s → RInv (h ++ bs) (runR s bs).2
  | [], h, s, i => by rw [List.append_nil]; exact i
  | b :: r, h, s, i => by
    have := runR_inv (bs := r) (stepR_inv (b := b) i)
    rw [List.append_assoc] at this
    exact this
/-! single steps -/
theorem step_quiet {h ps : List Int} {o : Option Int} {b : Int} (hl : ps.length + 1 < 10) (hs : sg (h ++ [b]) = true → ps.length + 1 = 7) : stepR ⟨last7 h, some ps, o⟩ b = ([], ⟨last7 (h ++ [b]), some (ps ++ [b]), o⟩) := by
  have e : putR ⟨last7 h, some ps, o⟩ b = ⟨last7 (h ++ [b]), some (ps ++ [b]), o⟩ := by
    show RS.mk (last7 (last7 h ++ [b])) _ _ = _
    rw [last7_snoc]; rfl
  unfold stepR
  rw [e]
  unfold findR
  have c : (sign (last7 (h ++ [b])) && decide ((some (ps ++ [b])).map List.length ≠ some 7)) = false := by
    cases q : sign (last7 (h ++ [b])) with
    | false => rfl
    | true =>
      have := hs q
      simp [this]
  dsimp only
  rw [c]
  simp only [Bool.false_eq_true, if_false]
  rw [if_neg (by rw [List.length_append]; simp only [List.length_cons, List.length_nil]; omega)]
theorem step_none {h : List Int} {o : Option Int} {b : Int} (hs : sg (h ++ [b]) = false) : stepR ⟨last7 h, none, o⟩ b = ([], ⟨last7 (h ++ [b]), none, o⟩) := by
  have e : putR ⟨last7 h, none, o⟩ b = ⟨last7 (h ++ [b]), none, o⟩ := by
    show RS.mk (last7 (last7 h ++ [b])) _ _ = _
    rw [last7_snoc]; rfl
  unfold stepR
  rw [e]
  unfold findR
  dsimp only
  rw [show sign (last7 (h ++ [b])) = false from hs]
  simp only [Bool.false_and, Bool.false_eq_true, if_false]
theorem sg_len {h : List Int} (hs : sg h = true) : (last7 h).length = 7 := by
  unfold sg sign at hs
  rw [Bool.or_eq_true, decide_eq_true_eq, decide_eq_true_eq] at hs
  rcases hs with e | e <;> rw [e] <;> rfl
theorem step_sign {h : List Int} {s : RS} {b : Int} (i : RInv h s) (hs : sg (h ++ [b]) = true) (hp : s.part.map List.length ≠ some 6) : ∃ t, stepR s b = (t, ⟨last7 (h ++ [b]), some (last7 (h ++ [b])), none⟩) ∧ (s.part = none → t = []) := by
  have i2 := putR_inv (b := b) i
  have e1 : (putR s b).last = last7 (h ++ [b]) := i2.last
  have e2 : (putR s b).part.map List.length ≠ some 7 := by
    show (s.part.map (· ++ [b])).map List.length ≠ some 7
    cases e : s.part with
    | none => simp
    | some ps =>
      rw [e] at hp
      intro z
      apply hp
      simp at z ⊢
      omega
  unfold stepR findR
  rw [e1, show sign (last7 (h ++ [b])) = true from hs, decide_eq_true e2]
  refine ⟨if (putR s b).part.isSome then [260] else [], ?_, fun z => ?_⟩
  · simp only [Bool.and_self, if_true]
    rw [if_neg (by rw [sg_len hs]; decide)]
  · show (if (s.part.map (· ++ [b])).isSome then [260] else []) = []
    rw [z]; rfl
theorem step_word {h ps : List Int} {o : Option Int} {b : Int} (hl : ps.length = 9) (hs : sg (h ++ [b]) = false) :
    stepR ⟨last7 h, some ps, o⟩ b = ((judge o (wordOf (ps ++ [b]))).1, ⟨last7 (h ++ [b]), (if (judge o (wordOf (ps ++ [b]))).2.1 then some [] else none), (judge o (wordOf (ps ++ [b]))).2.2⟩) := by
  have e : putR ⟨last7 h, some ps, o⟩ b = ⟨last7 (h ++ [b]), some (ps ++ [b]), o⟩ := by
    show RS.mk (last7 (last7 h ++ [b])) _ _ = _
    rw [last7_snoc]; rfl
  unfold stepR
  rw [e]
  unfold findR
  dsimp only
  rw [show sign (last7 (h ++ [b])) = false from hs]
  simp only [Bool.false_and, Bool.false_eq_true, if_false]
  rw [if_pos (by rw [List.length_append, hl]; rfl)]
  rfl
/-! runs -/
theorem run_quiet : ∀ {bs h ps : List Int} {o : Option Int}, ps.length + bs.length < 10 → (∀ i, 1 ≤ i → i ≤ bs.length → sg (h ++ bs.take i) = true → ps.length + i = 7) → runR ⟨last7 h, some ps, o⟩ bs = ([], ⟨last7 (h ++ bs), some (ps ++ bs), o⟩)
  | [], h, ps, o, _, _ => by simp [runR]
  | b :: r, h, ps, o, hl, hs => by
    rw [List.length_cons] at hl
    have h1 := step_quiet (h := h) (ps := ps) (o := o) (b := b) (by omega) (fun z => hs 1 (Nat.le_refl _) (by simp) z)
    show ((stepR _ b).1 ++ (runR (stepR _ b).2 r).1, (runR (stepR _ b).2 r).2) = _
    rw [h1]
    have h2 := run_quiet (bs := r) (h := h ++ [b]) (ps := ps ++ [b]) (o := o) (by rw [List.length_append]; simp only [List.length_cons, List.length_nil]; omega) (fun i i1 i2 z => by
      have := hs (i + 1) (by omega) (by rw [List.length_cons]; omega) (by rw [List.append_assoc] at z; exact z)
      rw [List.length_append]; simp only [List.length_cons, List.length_nil]; omega)
    rw [h2, List.append_assoc, List.append_assoc]; rfl
theorem run_none : ∀ {bs h : List Int} {o : Option Int}, (∀ i, 1 ≤ i → i ≤ bs.length → sg (h ++ bs.take i) = false) → runR ⟨last7 h, none, o⟩ bs = ([], ⟨last7 (h ++ bs), none, o⟩)
  | [], h, o, _ => by simp [runR]
  | b :: r, h, o, hs => by
    have h1 := step_none (h := h) (o := o) (b := b) (hs 1 (Nat.le_refl _) (by simp))
    show ((stepR _ b).1 ++ (runR (stepR _ b).2 r).1, (runR (stepR _ b).2 r).2) = _
    rw [h1]
    have h2 := run_none (bs := r) (h := h ++ [b]) (o := o) (fun i i1 i2 => by
      have := hs (i + 1) (by omega) (by rw [List.length_cons]; omega)
      rw [List.append_assoc]; exact this)
    rw [h2, List.append_assoc]; rfl
/-! words -/
def okW (l : List Int) : Bool := match l with
  | [a, b, c, d, e, f, g, h, i, j] => !(a == b && b == c) && !(h == i && i == j) && !(b == c && c == d && d == e && e == f) && !sign [b, c, d, e, f, g, h] && !sign [c, d, e, f, g, h, i] && !sign [d, e, f, g, h, i, j]
  | _ => false
def tail3 (h : List Int) : Prop := ∀ g x y z, h = g ++ [x, y, z] → ¬ (x = y ∧ y = z)
theorem tail3_nil : tail3 [] := fun g x y z e => by
  have := congrArg List.length e
  simp at this
theorem ok_put : ∀ n : Nat, n < 260 → okW (ten (putW n 1)) = true ∧ okW (ten (putW n (-1))) = true := by decide +kernel
theorem ok_item {n : Nat} {p : Int} (hn : n < 260) (hp : pm p) : okW (ten (putW n p)) = true := by
  rcases hp with e | e <;> subst e
  · exact (ok_put n hn).1
  · exact (ok_put n hn).2
theorem beg_put : ∀ n : Nat, n < 260 → sign ((ten (putW n 1)).take 7) = decide (n = 256) ∧ sign ((ten (putW n (-1))).take 7) = decide (n = 256) := by decide +kernel
theorem beg_item {n : Nat} {p : Int} (hn : n < 260) (hp : pm p) : sign ((ten (putW n p)).take 7) = decide (n = 256) := by
  rcases hp with e | e <;> subst e
  · exact (beg_put n hn).1
  · exact (beg_put n hn).2
theorem word_ten : ∀ w : Nat, w < 1024 → wordOf (ten w) = w := by decide +kernel
theorem word_item {n : Nat} {p : Int} (hn : n < 260) : wordOf (ten (putW n p)) = putW n p := by
  obtain ⟨h0, h1⟩ := putW_rng (p := p) hn
  have := word_ten (putW n p).toNat (by omega)
  rw [show ((putW n p).toNat : Int) = putW n p by omega] at this
  exact this
theorem judge_put : ∀ n : Nat, n < 260 → judge (some 1) (putW n 1) = ([n], true, some (putP n 1)) ∧ judge (some (-1)) (putW n (-1)) = ([n], true, some (putP n (-1))) := by decide +kernel
theorem judge_item {n : Nat} {p : Int} (hn : n < 260) (hp : pm p) : judge (some p) (putW n p) = ([n], true, some (putP n p)) := by
  rcases hp with e | e <;> subst e
  · exact (judge_put n hn).1
  · exact (judge_put n hn).2
theorem judge_beg {p : Int} (hp : pm p) (o : Option Int) : ∃ t, judge o (putW 256 p) = (t ++ [256], true, some (putP 256 p)) ∧ (o = none → t = []) := by
  have hw : putW 256 p = if p < 0 then 250 else 773 := by
    rcases hp with e | e <;> subst e <;> decide
  have hq : putP 256 p = if p < 0 then 1 else -1 := by
    rcases hp with e | e <;> subst e <;> decide
  rw [hw, hq]
  refine ⟨match o with | none => [] | some q => if q = (if (if p < 0 then (250 : Int) else 773) = 250 then -1 else 1) then [] else [260], ?_, fun z => by rw [z]⟩
  unfold judge
  rcases hp with e | e <;> subst e <;> rfl
/-- a sign is found at a word's seventh bit alone, if at all -/
theorem word_sg {h w : List Int} (hw : okW w = true) (ht : tail3 h) : ∀ i, 1 ≤ i → i ≤ 10 → sg (h ++ w.take i) = true → i = 7 := by
  intro i i1 i2 hs
  match w, hw with
  | [a, b, c, d, e, f, g, h', i', j'], hw =>
    have hs' : last7 (h ++ [a, b, c, d, e, f, g, h', i', j'].take i) = [0, 0, 1, 1, 1, 1, 1] ∨ last7 (h ++ [a, b, c, d, e, f, g, h', i', j'].take i) = [1, 1, 0, 0, 0, 0, 0] := by
      unfold sg sign at hs
      rwa [Bool.or_eq_true, decide_eq_true_eq, decide_eq_true_eq] at hs
    simp only [okW, Bool.and_eq_true, Bool.not_eq_true', Bool.and_eq_false_imp, beq_iff_eq, beq_eq_false_iff_ne] at hw
    obtain ⟨⟨⟨⟨⟨w1, w2⟩, w3⟩, w4⟩, w5⟩, w6⟩ := hw
    obtain ⟨gg, hg⟩ := last7_suf (h ++ [a, b, c, d, e, f, g, h', i', j'].take i)
    have long : ∀ (u v : List Int), v.length = 7 → ∀ P : List Int, P.length = 7 → last7 (u ++ v) = P → v = P := fun u v hv P hP e => by
      unfold last7 at e
      rw [List.length_append, hv, show u.length + 7 - 7 = u.length by omega, List.drop_left] at e
      exact e
    have case7 : ∀ v u : List Int, h ++ [a, b, c, d, e, f, g, h', i', j'].take i = u ++ v → v.length = 7 → sign v = false → False := fun v u e hv hn => by
      rw [e] at hs
      unfold sg last7 at hs
      rw [List.length_append, hv, show u.length + 7 - 7 = u.length by omega, List.drop_left, hn] at hs
      cases hs
    have short : ∀ P u v : List Int, P = u ++ v → last7 (h ++ [a, b, c, d, e, f, g, h', i', j'].take i) = P → v.length = ([a, b, c, d, e, f, g, h', i', j'].take i).length → h = gg ++ u ∧ [a, b, c, d, e, f, g, h', i', j'].take i = v := fun P u v hP e hl => by
      rw [e, hP, ← List.append_assoc] at hg
      exact List.append_inj' hg (by rw [hl])
    obtain e | e | e | e | e | e | e | e | e | e : i = 1 ∨ i = 2 ∨ i = 3 ∨ i = 4 ∨ i = 5 ∨ i = 6 ∨ i = 7 ∨ i = 8 ∨ i = 9 ∨ i = 10 := by omega
    · subst e
      exfalso
      rcases hs' with q | q
      · obtain ⟨q1, _⟩ := short _ [0, 0, 1, 1, 1, 1] [1] rfl q rfl
        exact ht (gg ++ [0, 0, 1]) 1 1 1 (by rw [q1, List.append_assoc]; rfl) ⟨rfl, rfl⟩
      · obtain ⟨q1, _⟩ := short _ [1, 1, 0, 0, 0, 0] [0] rfl q rfl
        exact ht (gg ++ [1, 1, 0]) 0 0 0 (by rw [q1, List.append_assoc]; rfl) ⟨rfl, rfl⟩
    · subst e
      exfalso
      rcases hs' with q | q
      · obtain ⟨q1, _⟩ := short _ [0, 0, 1, 1, 1] [1, 1] rfl q rfl
        exact ht (gg ++ [0, 0]) 1 1 1 (by rw [q1, List.append_assoc]; rfl) ⟨rfl, rfl⟩
      · obtain ⟨q1, _⟩ := short _ [1, 1, 0, 0, 0] [0, 0] rfl q rfl
        exact ht (gg ++ [1, 1]) 0 0 0 (by rw [q1, List.append_assoc]; rfl) ⟨rfl, rfl⟩
    · subst e
      exfalso
      rcases hs' with q | q
      · obtain ⟨_, q2⟩ := short _ [0, 0, 1, 1] [1, 1, 1] rfl q rfl
        simp at q2; simp_all
      · obtain ⟨_, q2⟩ := short _ [1, 1, 0, 0] [0, 0, 0] rfl q rfl
        simp at q2; simp_all
    · subst e
      exfalso
      rcases hs' with q | q
      · obtain ⟨_, q2⟩ := short _ [0, 0, 1] [1, 1, 1, 1] rfl q rfl
        simp at q2; simp_all
      · obtain ⟨_, q2⟩ := short _ [1, 1, 0] [0, 0, 0, 0] rfl q rfl
        simp at q2; simp_all
    · subst e
      exfalso
      rcases hs' with q | q
      · obtain ⟨_, q2⟩ := short _ [0, 0] [1, 1, 1, 1, 1] rfl q rfl
        simp at q2; simp_all
      · obtain ⟨_, q2⟩ := short _ [1, 1] [0, 0, 0, 0, 0] rfl q rfl
        simp at q2; simp_all
    · subst e
      exfalso
      rcases hs' with q | q
      · obtain ⟨_, q2⟩ := short _ [0] [0, 1, 1, 1, 1, 1] rfl q rfl
        simp at q2; simp_all
      · obtain ⟨_, q2⟩ := short _ [1] [1, 0, 0, 0, 0, 0] rfl q rfl
        simp at q2; simp_all
    · exact e
    · subst e
      exact (case7 [b, c, d, e, f, g, h'] (h ++ [a]) (by rw [List.append_assoc]; rfl) rfl w4).elim
    · subst e
      exact (case7 [c, d, e, f, g, h', i'] (h ++ [a, b]) (by rw [List.append_assoc]; rfl) rfl w5).elim
    · subst e
      exact (case7 [d, e, f, g, h', i', j'] (h ++ [a, b, c]) (by rw [List.append_assoc]; rfl) rfl w6).elim

-- needs: align
theorem last7_app {h t : List Int} (ht : 7 ≤ t.length) : last7 (h ++ t) = last7 t := by
  unfold last7
  rw [List.length_append, List.drop_append, List.drop_of_length_le (show h.length ≤ h.length + t.length - 7 by omega), List.nil_append]
  congr 1; omega
theorem last7_self {t : List Int} (ht : t.length ≤ 7) : last7 t = t := by
  unfold last7
  rw [show t.length - 7 = 0 by omega, List.drop_zero]
theorem word_hi {h w : List Int} (hw : okW w = true) (hl : w.length = 10) {i : Nat} (i1 : 8 ≤ i) (i2 : i ≤ 10) : sg (h ++ w.take i) = false := by
  cases q : sg (h ++ w.take i) with
  | false => rfl
  | true =>
    unfold sg at q
    rw [last7_app (by rw [List.length_take]; omega)] at q
    have := word_sg (h := []) hw tail3_nil i (by omega) i2 (by rw [List.nil_append]; exact q)
    omega
theorem word_7 {h w : List Int} (hl : w.length = 10) : sg (h ++ w.take 7) = sign (w.take 7) := by
  unfold sg
  rw [last7_app (by rw [List.length_take]; omega), last7_self (by rw [List.length_take]; omega)]
theorem tail3_word {h w : List Int} (hw : okW w = true) : tail3 (h ++ w) := by
  intro g x y z e
  match w, hw with
  | [a, b, c, d, e1, f, g1, h', i', j'], hw =>
    have e : h ++ [a, b, c, d, e1, f, g1] ++ [h', i', j'] = g ++ [x, y, z] := by rw [List.append_assoc]; exact e
    obtain ⟨_, e2⟩ := List.append_inj' e rfl
    simp only [okW, Bool.and_eq_true, Bool.not_eq_true', Bool.and_eq_false_imp, beq_iff_eq, beq_eq_false_iff_ne] at hw
    simp at e2
    obtain ⟨q1, q2, q3⟩ := e2
    subst q1 q2 q3
    intro hh
    exact hw.1.1.1.1.2 hh.1 hh.2
theorem split9 {w : List Int} (hl : w.length = 10) : ∃ x, w = w.take 9 ++ [x] := by
  obtain ⟨x, hx⟩ : ∃ x, w.drop 9 = [x] := by
    have : (w.drop 9).length = 1 := by rw [List.length_drop, hl]
    exact List.length_eq_one_iff.mp this
  exact ⟨x, by rw [← hx, List.take_append_drop]⟩
theorem runR_one (s : RS) (b : Int) : runR s [b] = stepR s b := by
  show ((stepR s b).1 ++ [], (stepR s b).2) = stepR s b
  rw [List.append_nil]
/-- an item's word, in step -/
theorem word_run {h : List Int} {n : Nat} {p : Int} (ht : tail3 h) (hn : n < 260) (hp : pm p) : runR ⟨last7 h, some [], some p⟩ (ten (putW n p)) = ([n], ⟨last7 (h ++ ten (putW n p)), some [], some (putP n p)⟩) := by
  have hw := ok_item hn hp
  have hl := ten_len (putW n p)
  have hwd := word_item (p := p) hn
  generalize ten (putW n p) = w at hw hl hwd ⊢
  obtain ⟨x, hx⟩ := split9 hl
  have l9 : (w.take 9).length = 9 := by rw [List.length_take]; omega
  have q := run_quiet (bs := w.take 9) (h := h) (ps := []) (o := some p) (by rw [l9]; decide) (fun i i1 i2 z => by
    rw [l9] at i2
    rw [List.take_take, show min i 9 = i by omega] at z
    have := word_sg hw ht i i1 (by omega) z
    simp only [List.length_nil]; omega)
  rw [List.nil_append] at q
  have s9 : sg (h ++ w.take 9 ++ [x]) = false := by
    rw [List.append_assoc, ← hx]
    have := word_hi (h := h) hw hl (i := 10) (by decide) (by decide)
    rwa [List.take_of_length_le (by omega)] at this
  have e : runR ⟨last7 h, some [], some p⟩ w = runR ⟨last7 h, some [], some p⟩ (w.take 9 ++ [x]) := by rw [← hx]
  rw [e, runR_app, q, runR_one, step_word l9 s9, ← hx, hwd, judge_item hn hp, List.append_assoc, ← hx]
  rfl
theorem items_run : ∀ {is : List Nat} {h : List Int} {p : Int}, tail3 h → (∀ n ∈ is, n < 260) → pm p → runR ⟨last7 h, some [], some p⟩ (sentB is p) = (is, ⟨last7 (h ++ sentB is p), some [], some (sentP is p)⟩) ∧ tail3 (h ++ sentB is p)
  | [], h, p, ht, _, _ => by
    show (([] : List Nat), _) = _ ∧ _
    rw [show sentB [] p = [] from rfl, List.append_nil]
    exact ⟨rfl, ht⟩
  | n :: r, h, p, ht, hi, hp => by
    have hn := hi n List.mem_cons_self
    have h1 := word_run ht hn hp
    obtain ⟨h2, h3⟩ := items_run (is := r) (h := h ++ ten (putW n p)) (tail3_word (ok_item hn hp)) (fun m hm => hi m (List.mem_cons_of_mem _ hm)) (putP_pm (n := n) hp)
    have e : sentB (n :: r) p = ten (putW n p) ++ sentB r (putP n p) := rfl
    rw [List.append_assoc] at h2 h3
    rw [e, runR_app, h1]
    exact ⟨by rw [h2]; rfl, h3⟩
/-- no mark, out of step -/
theorem word_none {h : List Int} {n : Nat} {p : Int} (ht : tail3 h) (hn : n < 260) (hb : n ≠ 256) (hp : pm p) : runR ⟨last7 h, none, none⟩ (ten (putW n p)) = ([], ⟨last7 (h ++ ten (putW n p)), none, none⟩) := by
  have hw := ok_item hn hp
  have hg := beg_item hn hp
  have hl := ten_len (putW n p)
  generalize ten (putW n p) = w at hw hg hl ⊢
  refine run_none fun i i1 i2 => ?_
  cases q : sg (h ++ w.take i) with
  | false => rfl
  | true =>
    have := word_sg hw ht i i1 (by omega) q
    subst this
    rw [word_7 hl, hg, decide_eq_false hb] at q
    cases q
theorem outs_run : ∀ {is : List Nat} {h : List Int} {p : Int}, tail3 h → (∀ n ∈ is, n < 260 ∧ n ≠ 256) → pm p → runR ⟨last7 h, none, none⟩ (sentB is p) = ([], ⟨last7 (h ++ sentB is p), none, none⟩) ∧ tail3 (h ++ sentB is p)
  | [], h, p, ht, _, _ => by
    show (([] : List Nat), _) = _ ∧ _
    rw [show sentB [] p = [] from rfl, List.append_nil]
    exact ⟨rfl, ht⟩
  | n :: r, h, p, ht, hi, hp => by
    have hn := hi n List.mem_cons_self
    have h1 := word_none ht hn.1 hn.2 hp
    obtain ⟨h2, h3⟩ := outs_run (is := r) (h := h ++ ten (putW n p)) (tail3_word (ok_item hn.1 hp)) (fun m hm => hi m (List.mem_cons_of_mem _ hm)) (putP_pm (n := n) hp)
    have e : sentB (n :: r) p = ten (putW n p) ++ sentB r (putP n p) := rfl
    rw [List.append_assoc] at h2 h3
    rw [e, runR_app, h1]
    exact ⟨by rw [h2]; rfl, h3⟩
/-- behind a mark's seventh bit -/
theorem mark_end {h : List Int} {p : Int} (hp : pm p) (o : Option Int) : ∃ t, runR ⟨last7 (h ++ (ten (putW 256 p)).take 7), some ((ten (putW 256 p)).take 7), o⟩ ((ten (putW 256 p)).drop 7) = (t ++ [256], ⟨last7 (h ++ ten (putW 256 p)), some [], some (putP 256 p)⟩) ∧ (o = none → t = []) := by
  have hw := ok_item (n := 256) (by decide) hp
  have hl := ten_len (putW 256 p)
  have hwd := word_item (n := 256) (p := p) (by decide)
  obtain ⟨t, ht, ht0⟩ := judge_beg hp o
  generalize ten (putW 256 p) = w at hw hl hwd ⊢
  obtain ⟨x, hx⟩ := split9 hl
  have l7 : (w.take 7).length = 7 := by rw [List.length_take]; omega
  have l9 : (w.take 9).length = 9 := by rw [List.length_take]; omega
  have e79 : w.take 7 ++ (w.take 9).drop 7 = w.take 9 := by
    have := List.take_append_drop 7 (w.take 9)
    rwa [List.take_take, show min 7 9 = 7 by decide] at this
  have l2 : ((w.take 9).drop 7).length = 2 := by rw [List.length_drop, l9]
  have ed : w.drop 7 = (w.take 9).drop 7 ++ [x] := by
    have : w.drop 7 = (w.take 9 ++ [x]).drop 7 := by rw [← hx]
    rw [this, List.drop_append_of_le_length (by omega)]
  have q := run_quiet (bs := (w.take 9).drop 7) (h := h ++ w.take 7) (ps := w.take 7) (o := o) (by rw [l7, l2]; decide) (fun i i1 i2 z => by
    rw [l2] at i2
    have e1 : h ++ w.take 7 ++ ((w.take 9).drop 7).take i = h ++ w.take (7 + i) := by
      rw [List.append_assoc]
      congr 1
      have := List.take_add (l := w.take 9) (i := 7) (j := i)
      rw [List.take_take, List.take_take, show min 7 9 = 7 by decide, show min (7 + i) 9 = 7 + i by omega] at this
      exact this.symm
    rw [e1, word_hi hw hl (by omega) (by omega)] at z
    cases z)
  have s9 : sg (h ++ w.take 9 ++ [x]) = false := by
    rw [List.append_assoc, ← hx]
    have := word_hi (h := h) hw hl (i := 10) (by decide) (by decide)
    rwa [List.take_of_length_le (by omega)] at this
  rw [e79, List.append_assoc, e79] at q
  refine ⟨t, ?_, ht0⟩
  rw [ed, runR_app, q, runR_one, step_word l9 s9, ← hx, hwd, ht, List.append_assoc, ← hx]
  rfl
theorem split6 {w : List Int} (hl : w.length = 10) : ∃ x, w.take 7 = w.take 6 ++ [x] := by
  obtain ⟨x, hx⟩ : ∃ x, (w.drop 6).take 1 = [x] := by
    have : ((w.drop 6).take 1).length = 1 := by rw [List.length_take, List.length_drop, hl]; decide
    exact List.length_eq_one_iff.mp this
  exact ⟨x, by rw [← hx]; exact List.take_add (l := w) (i := 6) (j := 1)⟩
/-- a mark, whatever was ahead -/
theorem mark_any {h : List Int} {s : RS} {p : Int} (i : RInv h s) (hp : pm p) : ∃ t, runR s (ten (putW 256 p)) = (t ++ [256], ⟨last7 (h ++ ten (putW 256 p)), some [], some (putP 256 p)⟩) := by
  have hg := beg_item (n := 256) (by decide) hp
  have hl := ten_len (putW 256 p)
  have hend := fun o => mark_end (h := h) hp o
  generalize ten (putW 256 p) = w at hg hl hend ⊢
  obtain ⟨x, hx⟩ := split6 hl
  have i6 := runR_inv (bs := w.take 6) i
  have s7 : sg (h ++ w.take 6 ++ [x]) = true := by
    rw [List.append_assoc, ← hx, word_7 hl, hg]; rfl
  have ew : w = w.take 6 ++ ([x] ++ w.drop 7) := by
    rw [← List.append_assoc, ← hx, List.take_append_drop]
  have at7 : ∃ t o, stepR (runR s (w.take 6)).2 x = (t, ⟨last7 (h ++ w.take 7), some (w.take 7), o⟩) := by
    by_cases hq : (runR s (w.take 6)).2.part.map List.length = some 6
    · generalize hs6 : (runR s (w.take 6)).2 = s6 at hq i6 ⊢
      obtain ⟨la, pt, po⟩ := s6
      have e1 : la = last7 (h ++ w.take 6) := i6.last
      cases pt with
      | none => cases hq
      | some ps =>
        have hps : ps.length = 6 := by simpa using hq
        obtain ⟨g, hgg⟩ := i6.part ps rfl
        have e2 : ps = w.take 6 := (List.append_inj' hgg (by rw [hps, List.length_take]; omega)).2.symm
        refine ⟨[], po, ?_⟩
        rw [e1, step_quiet (by omega) (fun _ => by omega), e2, List.append_assoc, ← hx]
    · obtain ⟨t, ht, _⟩ := step_sign i6 s7 hq
      refine ⟨t, none, ?_⟩
      rw [ht, List.append_assoc, ← hx, last7_app (by rw [List.length_take]; omega), last7_self (by rw [List.length_take]; omega)]
  obtain ⟨t7, o, h7⟩ := at7
  obtain ⟨te, he, _⟩ := hend o
  refine ⟨(runR s (w.take 6)).1 ++ (t7 ++ te), ?_⟩
  have e : runR s w = runR s (w.take 6 ++ ([x] ++ w.drop 7)) := by rw [← ew]
  rw [e, runR_app, runR_app, runR_one, h7, he]
  simp
/-- .. out of step, behind words -/
theorem mark_out {h : List Int} {p : Int} (ht : tail3 h) (hp : pm p) : runR ⟨last7 h, none, none⟩ (ten (putW 256 p)) = ([256], ⟨last7 (h ++ ten (putW 256 p)), some [], some (putP 256 p)⟩) := by
  have hw := ok_item (n := 256) (by decide) hp
  have hg := beg_item (n := 256) (by decide) hp
  have hl := ten_len (putW 256 p)
  obtain ⟨te, he, he0⟩ := mark_end (h := h) hp none
  generalize ten (putW 256 p) = w at hw hg hl he ⊢
  obtain ⟨x, hx⟩ := split6 hl
  have l6 : (w.take 6).length = 6 := by rw [List.length_take]; omega
  have q := run_none (bs := w.take 6) (h := h) (o := none) (fun i i1 i2 => by
    rw [l6] at i2
    rw [List.take_take, show min i 6 = i by omega]
    cases q : sg (h ++ w.take i) with
    | false => rfl
    | true => have := word_sg hw ht i i1 (by omega) q; omega)
  have s7 : sg (h ++ w.take 6 ++ [x]) = true := by
    rw [List.append_assoc, ← hx, word_7 hl, hg]; rfl
  have ew : w = w.take 6 ++ ([x] ++ w.drop 7) := by
    rw [← List.append_assoc, ← hx, List.take_append_drop]
  obtain ⟨t, h7, h70⟩ := step_sign (s := ⟨last7 (h ++ w.take 6), none, none⟩) (h := h ++ w.take 6) ⟨rfl, fun _ z => nomatch z⟩ s7 (by simp)
  have e7 : last7 (h ++ w.take 7) = w.take 7 := by
    rw [last7_app (by rw [List.length_take]; omega), last7_self (by rw [List.length_take]; omega)]
  rw [show h ++ w.take 6 ++ [x] = h ++ w.take 7 by rw [List.append_assoc, ← hx], e7] at h7
  have h70 := h70 rfl
  have he0 := he0 rfl
  subst h70 he0
  have e : runR ⟨last7 h, none, none⟩ w = runR ⟨last7 h, none, none⟩ (w.take 6 ++ ([x] ++ w.drop 7)) := by rw [← ew]
  rw [e7] at he
  rw [e, runR_app, q, runR_app, runR_one, h7, he]
  rfl

-- needs: items rows framedef
/-- the frame's items, by number -/
def frameI (ns : List Int) : List Nat := [256, ns.length] ++ ns.map Int.toNat ++ (checkL ns).map Int.toNat ++ [257]
theorem itD_byte {n : Int} (h0 : 0 ≤ n) (h1 : n ≤ 255) : itD n.toNat = .int n := by
  rw [itD_int (by omega)]; congr 1; omega
theorem checkL_byte (ns : List Int) : byteL (checkL ns) := fun n hn => by
  have := sumOf_rng ns
  unfold checkL at hn
  simp only [List.mem_cons, List.not_mem_nil, or_false] at hn
  rcases hn with e | e <;> subst e <;> omega
theorem map_itD {ns : List Int} (h : byteL ns) : (ns.map Int.toNat).map itD = ns.map D.int := by
  rw [List.map_map]
  apply List.map_congr_left
  intro n hn
  exact itD_byte (h n hn).1 (h n hn).2
theorem frameD_it {ns : List Int} (h : byteL ns) (hl : ns.length ≤ 64) : frameD ns = (frameI ns).map itD := by
  unfold frameD frameI
  rw [List.map_append, List.map_append, List.map_append, map_itD h, map_itD (checkL_byte ns)]
  show _ = [itD 256, itD ns.length] ++ _ ++ _ ++ [itD 257]
  rw [itD_int (show ns.length < 256 by omega)]; rfl
theorem toNat_260 {ns : List Int} (h : byteL ns) : ∀ n ∈ ns.map Int.toNat, n < 260 := fun n hn => by
  obtain ⟨i, hi, rfl⟩ := List.mem_map.mp hn
  have := h i hi
  omega
theorem frameI_260 {ns : List Int} (h : byteL ns) (hl : ns.length ≤ 64) : ∀ n ∈ frameI ns, n < 260 := fun n hn => by
  unfold frameI at hn
  rcases List.mem_append.mp hn with hn | hn
  · rcases List.mem_append.mp hn with hn | hn
    · rcases List.mem_append.mp hn with hn | hn
      · simp only [List.mem_cons, List.not_mem_nil, or_false] at hn
        rcases hn with e | e <;> subst e <;> omega
      · exact toNat_260 h n hn
    · exact toNat_260 (checkL_byte ns) n hn
  · rw [List.mem_singleton.mp hn]; decide
theorem frameI_len (ns : List Int) : (frameI ns).length = ns.length + 5 := by
  unfold frameI; simp only [List.length_append, List.length_map, List.length_cons, List.length_nil, checkL]; omega

-- needs: align2 taker frameit Ear_hear
theorem mark_last {h : List Int} {s : RS} {Y : List Nat} {n : Nat} {p : Int} (i : RInv h s) (hY : ∀ m ∈ Y, m < 260) (hn : n < 260) (hp : pm p) :
    ∃ t b x s9 s10, sentB (256 :: Y ++ [n]) p = b ++ [x] ∧ runR s b = (t ++ 256 :: Y, s9) ∧ stepR s9 x = ([n], s10) ∧ s10.part = some [] := by
  obtain ⟨t, e1⟩ := mark_any i hp
  have hp1 := putP_pm (n := 256) hp
  obtain ⟨e2, ht2⟩ := items_run (is := Y) (h := h ++ ten (putW 256 p)) (tail3_word (ok_item (n := 256) (by decide) hp)) hY hp1
  have hp2 := sentP_pm Y hp1
  have eb : sentB (256 :: Y ++ [n]) p = ten (putW 256 p) ++ (sentB Y (putP 256 p) ++ ten (putW n (sentP Y (putP 256 p)))) := by
    show ten (putW 256 p) ++ sentB (Y ++ [n]) (putP 256 p) = _
    rw [sentB_app]
    show _ ++ (_ ++ (ten _ ++ [])) = _
    rw [List.append_nil]
  generalize sentP Y (putP 256 p) = p2 at e2 hp2 eb
  have hw := ok_item hn hp2
  have hl := ten_len (putW n p2)
  have hwd := word_item (p := p2) hn
  have hj := judge_item hn hp2
  generalize ten (putW n p2) = w at hw hl hwd eb
  obtain ⟨x, hx⟩ := split9 hl
  have l9 : (w.take 9).length = 9 := by rw [List.length_take]; omega
  generalize h ++ ten (putW 256 p) ++ sentB Y (putP 256 p) = h2 at e2 ht2
  have q := run_quiet (bs := w.take 9) (h := h2) (ps := []) (o := some p2) (by rw [l9]; decide) (fun i i1 i2 z => by
    rw [l9] at i2
    rw [List.take_take, show min i 9 = i by omega] at z
    have := word_sg hw ht2 i i1 (by omega) z
    simp only [List.length_nil]; omega)
  rw [List.nil_append] at q
  have s9 : sg (h2 ++ w.take 9 ++ [x]) = false := by
    rw [List.append_assoc, ← hx]
    have := word_hi (h := h2) hw hl (i := 10) (by decide) (by decide)
    rwa [List.take_of_length_le (by omega)] at this
  refine ⟨t, ten (putW 256 p) ++ (sentB Y (putP 256 p) ++ w.take 9), x, ⟨last7 (h2 ++ w.take 9), some (w.take 9), some p2⟩, _, ?_, ?_, by rw [step_word l9 s9, ← hx, hwd, hj], rfl⟩
  · rw [eb, List.append_assoc, List.append_assoc, ← hx]
  · rw [runR_app, e1, runR_app, e2, q]
    simp
/-- bytes within a frame -/
theorem runT_bytes : ∀ {ns l : List Int}, byteL ns → l.length + ns.length ≤ 67 → runT (some l) (ns.map Int.toNat) = ([], some (l ++ ns))
  | [], l, _, _ => by simp [runT]
  | n :: r, l, hb, hl => by
    rw [List.length_cons] at hl
    have hn := hb n List.mem_cons_self
    have e : tookT (some l) n.toNat = ([], some (l ++ [n])) := by
      unfold tookT tookB
      rw [if_neg (by omega)]
      dsimp only
      rw [if_neg (by omega), if_pos ⟨by omega, by omega⟩, show ((n.toNat : Nat) : Int) = n by omega]
    show ((tookT (some l) n.toNat).1 ++ (runT (tookT (some l) n.toNat).2 (r.map Int.toNat)).1, (runT (tookT (some l) n.toNat).2 (r.map Int.toNat)).2) = _
    rw [e]
    dsimp only
    rw [runT_bytes (fun m hm => hb m (List.mem_cons_of_mem _ hm)) (by rw [List.length_append]; simp only [List.length_cons, List.length_nil]; omega), List.append_assoc]
    rfl
def midL (row : List Int) : List Int := (row.length : Int) :: (row ++ checkL row)
theorem midL_ok {row : List Int} (hb : byteL row) (hl : row.length ≤ 64) : byteL (midL row) ∧ (midL row).length ≤ 67 := by
  refine ⟨fun n hn => ?_, ?_⟩
  · rcases List.mem_cons.mp hn with e | hn
    · subst e; omega
    · exact byteL_app hb (checkL_byte row) n hn
  · unfold midL checkL; simp only [List.length_cons, List.length_append, List.length_nil]; omega
theorem frameI_mid (row : List Int) : frameI row = 256 :: (midL row).map Int.toNat ++ [257] := by
  unfold frameI midL
  simp
theorem within_mid {row : List Int} (hl : row.length ≤ 64) : withinL (midL row) = some row := by
  unfold midL withinL
  dsimp only
  have e : (row ++ checkL row).length = row.length + 2 := by rw [List.length_append]; rfl
  rw [if_neg (by rw [e]; omega), e, show row.length + 2 - 2 = row.length by omega, List.take_left, List.drop_left, if_pos rfl]
/-- behind all but the end of a frame -/
theorem runT_mid {s : Option (List Int)} {t : List Nat} {row : List Int} (hb : byteL row) (hl : row.length ≤ 64) : (runT s (t ++ 256 :: (midL row).map Int.toNat)).2 = some (midL row) := by
  obtain ⟨h1, h2⟩ := midL_ok hb hl
  rw [runT_app]
  show (runT (tookT (runT s t).2 256).2 ((midL row).map Int.toNat)).2 = _
  rw [show (tookT (runT s t).2 256).2 = some [] from rfl, runT_bytes h1 (by simpa using h2)]
  rfl
theorem took_end {row : List Int} (hl : row.length ≤ 64) : tookT (some (midL row)) 257 = ([some row], none) := by
  show ([if (257 : Nat) = 257 then withinL (midL row) else none], none) = _
  rw [if_pos rfl, within_mid hl]
theorem cutD_m1 {ds : List D} (h : 1 ≤ ds.length) : cutD ds (some (-1)) none = ds.drop (ds.length - 1) := by
  unfold cutD
  have e1 : HT.sIx ds.length 0 (some (-1 : Int)) = ds.length - 1 := by
    unfold HT.sIx
    first | (simp; omega) | (dsimp only; split <;> omega)
  have e2 : HT.sIx ds.length ds.length none = ds.length := rfl
  rw [e1, e2, List.take_of_length_le (by rw [List.length_drop]; omega)]
/-- THE LAST EVENT, whatever was heard ahead -/
theorem ear_last {h : List Int} {s : RS} {k : Option (List Int)} {row : List Int} {p : Int} {at_ : Nat} (i : RInv h s) (hb : byteL row) (hl : row.length ≤ 64) (hp : pm p) (ha : at_ < (sentB (frameI row) p).length) :
    (∃ E1, (runT (runT k (runR s ((sentB (frameI row) p).take at_)).1).2 (runR (runR s ((sentB (frameI row) p).take at_)).2 ((sentB (frameI row) p).drop at_)).1).1 = E1 ++ [some row]) ∧
    (runR (runR s ((sentB (frameI row) p).take at_)).2 ((sentB (frameI row) p).drop at_)).2.part = some [] := by
  obtain ⟨hm1, hm2⟩ := midL_ok hb hl
  obtain ⟨t, b, x, s9, s10, e1, e2, e3, e4⟩ := mark_last (Y := (midL row).map Int.toNat) (n := 257) i (toNat_260 hm1) (by decide) hp
  rw [← frameI_mid] at e1
  rw [e1] at ha ⊢
  rw [List.length_append] at ha
  have hb1 : at_ ≤ b.length := by simp only [List.length_cons, List.length_nil] at ha; omega
  rw [List.take_append_of_le_length hb1, List.drop_append_of_le_length hb1]
  generalize hA : runR s (b.take at_) = A
  have eb : runR s b = (A.1 ++ (runR A.2 (b.drop at_)).1, (runR A.2 (b.drop at_)).2) := by
    rw [← hA, ← runR_app, List.take_append_drop]
  rw [e2] at eb
  injection eb with eb1 eb2
  rw [runR_app, runR_one, ← eb2, e3]
  dsimp only
  refine ⟨⟨(runT (runT k A.1).2 (runR A.2 (b.drop at_)).1).1, ?_⟩, e4⟩
  rw [runT_app]
  dsimp only
  have e5 : (runT (runT k A.1).2 (runR A.2 (b.drop at_)).1).2 = some (midL row) := by
    have := runT_app A.1 (runR A.2 (b.drop at_)).1 k
    rw [← eb1] at this
    have e6 := congrArg Prod.snd this
    dsimp only at e6
    rw [← e6, runT_mid hb hl]
  rw [e5]
  show _ ++ ((tookT (some (midL row)) 257).1 ++ []) = _
  rw [took_end hl]
  rfl

-- needs: align2
/-! how a reader stands within what was sent -/
theorem word_pre {h : List Int} {n : Nat} {p : Int} {j : Nat} (ht : tail3 h) (hn : n < 260) (hp : pm p) (hj : j < 10) : runR ⟨last7 h, some [], some p⟩ ((ten (putW n p)).take j) = ([], ⟨last7 (h ++ (ten (putW n p)).take j), some ((ten (putW n p)).take j), some p⟩) := by
  have hw := ok_item hn hp
  have hl := ten_len (putW n p)
  generalize ten (putW n p) = w at hw hl ⊢
  have lj : (w.take j).length = j := by rw [List.length_take]; omega
  have q := run_quiet (bs := w.take j) (h := h) (ps := []) (o := some p) (by rw [lj]; simp only [List.length_nil]; omega) (fun i i1 i2 z => by
    rw [lj] at i2
    rw [List.take_take, show min i j = i by omega] at z
    have := word_sg hw ht i i1 (by omega) z
    simp only [List.length_nil]; omega)
  rw [List.nil_append] at q
  exact q
theorem items_pre : ∀ {Y : List Nat} {h : List Int} {p : Int} {j : Nat}, tail3 h → (∀ n ∈ Y, n < 260) → pm p → j ≤ 10 * Y.length → (runR ⟨last7 h, some [], some p⟩ ((sentB Y p).take j)).1 = Y.take (j / 10) ∧ (runR ⟨last7 h, some [], some p⟩ ((sentB Y p).take j)).2.part.map List.length = some (j % 10)
  | [], h, p, j, _, _, _, hj => by
    have : j = 0 := by simpa using hj
    subst this
    exact ⟨rfl, rfl⟩
  | n :: r, h, p, j, ht, hi, hp, hj => by
    have hn := hi n List.mem_cons_self
    have e : sentB (n :: r) p = ten (putW n p) ++ sentB r (putP n p) := rfl
    rw [e]
    by_cases h10 : j < 10
    · rw [List.take_append_of_le_length (by rw [ten_len]; omega), word_pre ht hn hp h10, show j / 10 = 0 by omega, show j % 10 = j by omega]
      refine ⟨rfl, ?_⟩
      show some ((ten (putW n p)).take j).length = _
      rw [List.length_take, ten_len]; congr 1; omega
    · obtain ⟨i, rfl⟩ : ∃ i, j = 10 + i := ⟨j - 10, by omega⟩
      rw [show 10 + i = (ten (putW n p)).length + i from rfl, List.take_length_add_append, runR_app, word_run ht hn hp]
      rw [List.length_cons] at hj
      obtain ⟨q1, q2⟩ := items_pre (Y := r) (h := h ++ ten (putW n p)) (j := i) (tail3_word (ok_item hn hp)) (fun m hm => hi m (List.mem_cons_of_mem _ hm)) (putP_pm (n := n) hp) (by omega)
      dsimp only
      rw [q1, ten_len, show (10 + i) / 10 = i / 10 + 1 by omega, show (10 + i) % 10 = i % 10 by omega]
      exact ⟨rfl, q2⟩
/-- a mark heard from the first bit on -/
theorem mark_pre {Y : List Nat} {p : Int} {j : Nat} (hi : ∀ n ∈ Y, n < 260) (hp : pm p) (hj : j ≤ 10 * (Y.length + 1)) :
    (runR ⟨[], none, none⟩ ((sentB (256 :: Y) p).take j)).1 = (256 :: Y).take (j / 10) ∧ (runR ⟨[], none, none⟩ ((sentB (256 :: Y) p).take j)).2.part.isSome = decide (7 ≤ j) := by
  have e0 : (⟨[], none, none⟩ : RS) = ⟨last7 [], none, none⟩ := rfl
  rw [e0]
  have hw := ok_item (n := 256) (by decide) hp
  have hg := beg_item (n := 256) (by decide) hp
  have hl := ten_len (putW 256 p)
  have e : sentB (256 :: Y) p = ten (putW 256 p) ++ sentB Y (putP 256 p) := rfl
  rw [e]
  by_cases h10 : j < 10
  · rw [List.take_append_of_le_length (by rw [ten_len]; omega), show j / 10 = 0 by omega]
    generalize ten (putW 256 p) = w at hw hg hl ⊢
    have q6 : ∀ m, m ≤ 6 → runR ⟨last7 [], none, none⟩ (w.take m) = ([], ⟨last7 ([] ++ w.take m), none, none⟩) := fun m hm => run_none (fun i i1 i2 => by
      rw [List.length_take] at i2
      rw [List.take_take, show min i m = i by omega]
      cases q : sg ([] ++ w.take i) with
      | false => rfl
      | true => have := word_sg hw tail3_nil i i1 (by omega) q; omega)
    by_cases h7 : j < 7
    · rw [q6 j (by omega), decide_eq_false (by omega)]
      exact ⟨rfl, rfl⟩
    · obtain ⟨i, rfl⟩ : ∃ i, j = 7 + i := ⟨j - 7, by omega⟩
      obtain ⟨x, hx⟩ := split6 hl
      have s7 : sg (w.take 6 ++ [x]) = true := by
        have := word_7 (h := []) hl
        rw [List.nil_append] at this
        rw [← hx, this, hg]; rfl
      obtain ⟨t, h7s, h70⟩ := step_sign (s := ⟨last7 (w.take 6), none, none⟩) (h := w.take 6) ⟨rfl, fun _ z => nomatch z⟩ s7 (by simp)
      have h70 := h70 rfl
      subst h70
      rw [← hx, last7_self (t := w.take 7) (by rw [List.length_take]; omega)] at h7s
      have l7 : (w.take 7).length = 7 := by rw [List.length_take]; omega
      have li : ((w.drop 7).take i).length = i := by rw [List.length_take, List.length_drop]; omega
      have q := run_quiet (bs := (w.drop 7).take i) (h := w.take 7) (ps := w.take 7) (o := none) (by rw [l7, li]; omega) (fun m m1 m2 z => by
        rw [li] at m2
        rw [List.take_take, show min m i = m by omega, ← List.take_add] at z
        have := word_hi (h := []) hw hl (i := 7 + m) (by omega) (by omega)
        rw [List.nil_append, z] at this
        cases this)
      rw [last7_self (t := w.take 7) (by omega)] at q
      have q66 := q6 6 (Nat.le_refl _)
      rw [List.nil_append] at q66
      rw [List.take_add, hx, runR_app, runR_app, q66, runR_one, h7s]
      dsimp only
      rw [q, decide_eq_true (by omega)]
      exact ⟨rfl, rfl⟩
  · obtain ⟨i, rfl⟩ : ∃ i, j = 10 + i := ⟨j - 10, by omega⟩
    rw [show 10 + i = (ten (putW 256 p)).length + i from rfl, List.take_length_add_append, runR_app, mark_out tail3_nil hp]
    obtain ⟨q1, q2⟩ := items_pre (Y := Y) (h := [] ++ ten (putW 256 p)) (j := i) (tail3_word hw) hi (putP_pm (n := 256) hp) (by omega)
    dsimp only
    rw [q1, ten_len, show (10 + i) / 10 = i / 10 + 1 by omega, decide_eq_true (by omega)]
    refine ⟨rfl, ?_⟩
    generalize (runR _ _).2.part = pt at q2 ⊢
    cases pt with
    | none => cases q2
    | some ps => rfl

-- needs: prefixR ears
/-- a frame's items cut in two, taken -/
theorem take_pre {row : List Int} {a : Nat} (hb : byteL row) (hl : row.length ≤ 64) (ha : a < (frameI row).length) : (runT none ((frameI row).take a)).1 = [] ∧ (runT none ((frameI row).take a)).2.isSome = decide (0 < a) ∧ (runT (runT none ((frameI row).take a)).2 ((frameI row).drop a)) = ([some row], none) := by
  obtain ⟨h1, h2⟩ := midL_ok hb hl
  have full : runT none (frameI row) = ([some row], none) := by
    rw [frameI_mid, List.cons_append]
    show ((tookT none 256).1 ++ (runT (tookT none 256).2 ((midL row).map Int.toNat ++ [257])).1, (runT (tookT none 256).2 ((midL row).map Int.toNat ++ [257])).2) = _
    rw [show tookT none 256 = ([], some []) from rfl]
    dsimp only
    rw [runT_app, runT_bytes h1 (by simpa using h2)]
    show ([] ++ ([] ++ ((tookT (some ([] ++ midL row)) 257).1 ++ [])), (tookT (some ([] ++ midL row)) 257).2) = _
    simp only [List.nil_append]
    rw [took_end hl]
    all_goals rfl
  have pre : (runT none ((frameI row).take a)).1 = [] ∧ (runT none ((frameI row).take a)).2.isSome = decide (0 < a) := by
    cases a with
    | zero => exact ⟨rfl, rfl⟩
    | succ a =>
      rw [frameI_mid] at ha ⊢
      rw [List.length_append, List.length_cons, List.length_map] at ha
      rw [List.cons_append, List.take_succ_cons, List.take_append_of_le_length (by rw [List.length_map]; simp only [List.length_cons, List.length_nil] at ha; omega), ← List.map_take]
      show ((tookT none 256).1 ++ (runT (tookT none 256).2 (((midL row).take a).map Int.toNat)).1) = [] ∧ (runT (tookT none 256).2 (((midL row).take a).map Int.toNat)).2.isSome = _
      rw [show tookT none 256 = ([], some []) from rfl]
      dsimp only
      rw [runT_bytes (byteL_take h1 a) (by simp only [List.length_nil, List.length_take]; omega)]
      exact ⟨rfl, by simp⟩
  refine ⟨pre.1, pre.2, ?_⟩
  have e := runT_app ((frameI row).take a) ((frameI row).drop a) none
  rw [List.take_append_drop, full, pre.1, List.nil_append] at e
  exact e.symm

-- needs: align2 ears taker frameit sent reader prefix Ear_hear rdmore
/-- a reader that tells all items of what is sent from p on, if it begins with a mark or is in step -/
def Rdy (s : RS) (p : Int) : Prop := s = ⟨[], none, none⟩ ∨ ∃ h, tail3 h ∧ s = ⟨last7 h, some [], some p⟩
theorem rdy_run {s : RS} {p : Int} {Y : List Nat} (hs : Rdy s p) (hp : pm p) (hY : ∀ n ∈ Y, n < 260) : (runR s (sentB (256 :: Y) p)).1 = 256 :: Y ∧ Rdy (runR s (sentB (256 :: Y) p)).2 (sentP (256 :: Y) p) := by
  have hY' : ∀ n ∈ 256 :: Y, n < 260 := fun n hn => by
    rcases List.mem_cons.mp hn with e | hn
    · omega
    · exact hY n hn
  rcases hs with rfl | ⟨h, ht, rfl⟩
  · have e1 := mark_out (h := []) tail3_nil hp
    have e2 : sentB (256 :: Y) p = ten (putW 256 p) ++ sentB Y (putP 256 p) := rfl
    have t1 : tail3 ([] ++ ten (putW 256 p)) := tail3_word (ok_item (by decide) hp)
    obtain ⟨e3, e4⟩ := items_run (is := Y) t1 hY (putP_pm hp)
    rw [e2, runR_app, show (RS.mk [] none none) = ⟨last7 [], none, none⟩ from rfl, e1]
    dsimp only
    rw [e3]
    exact ⟨rfl, .inr ⟨_, e4, rfl⟩⟩
  · obtain ⟨e3, e4⟩ := items_run ht hY' hp
    rw [e3]
    exact ⟨rfl, .inr ⟨_, e4, rfl⟩⟩
theorem rdy_go {s : RS} {p : Int} {Y : List Nat} (hs : ∃ h, tail3 h ∧ s = ⟨last7 h, some [], some p⟩) (hp : pm p) (hY : ∀ n ∈ Y, n < 260) : (runR s (sentB Y p)).1 = Y ∧ ∃ h, tail3 h ∧ (runR s (sentB Y p)).2 = ⟨last7 h, some [], some (sentP Y p)⟩ := by
  obtain ⟨h, ht, rfl⟩ := hs
  obtain ⟨e3, e4⟩ := items_run ht hY hp
  rw [e3]
  exact ⟨rfl, _, e4, rfl⟩
/-- outside a frame, nothing is told of rests and skips -/
theorem runT_gap : ∀ {g : List Nat}, (∀ n ∈ g, n ≠ 256) → runT none g = ([], none)
  | [], _ => rfl
  | n :: g, h => by
    have h1 : tookT none n = ([], none) := by
      unfold tookT
      rw [if_neg (h n List.mem_cons_self)]
      rfl
    show ((tookT none n).1 ++ (runT (tookT none n).2 g).1, (runT (tookT none n).2 g).2) = _
    rw [h1, runT_gap fun m hm => h m (List.mem_cons_of_mem _ hm)]
    rfl
theorem runT_frame {row : List Int} (hb : byteL row) (hl : row.length ≤ 64) : runT none (frameI row) = ([some row], none) := by
  have := (take_pre (a := 0) hb hl (by rw [frameI_len]; omega)).2.2
  rw [List.take_zero, List.drop_zero] at this
  exact this
theorem runT_frame_gap {row : List Int} {g : List Nat} (hb : byteL row) (hl : row.length ≤ 64) (hg : ∀ n ∈ g, n ≠ 256) : runT none (frameI row ++ g) = ([some row], none) := by
  rw [runT_app, runT_frame hb hl]
  dsimp only
  rw [runT_gap hg]; rfl
theorem ErAt.keep {M M' : Mh} {e r k : Addr} {sr : RS} {fr : Option Addr} {sk : Option (List Int)} {fk : Option Addr} (h : ErAt M e r k sr fr sk fk) (kp : ∀ y o, M y = some o → (y = e ∨ y = r ∨ y = k ∨ fr = some y ∨ fk = some y) → M' y = some o) : ErAt M' e r k sr fr sk fk :=
  ⟨h.rk, h.er, h.ek, h.nre, h.nrk, h.nke, h.nkr, h.ff, kp _ _ h.me (.inl rfl), h.R.keep fun y o hy hz => kp y o hy (hz.elim (fun z => .inr (.inl z)) fun z => .inr (.inr (.inr (.inl z)))), h.T.keep fun y o hy hz => kp y o hy (hz.elim (fun z => .inr (.inr (.inl z))) fun z => .inr (.inr (.inr (.inr z))))⟩
/-- what stands at an ear's own places -/
theorem ErAt.own {M : Mh} {e r k : Addr} {sr : RS} {fr : Option Addr} {sk : Option (List Int)} {fk : Option Addr} (h : ErAt M e r k sr fr sk fk) {y : Addr} {o : MO} (hy : M y = some o) (hz : y = e ∨ y = r ∨ y = k ∨ fr = some y ∨ fk = some y) : (∃ fs, o = .ins "Ear" fs) ∨ (∃ fs, o = .ins "Reader" fs) ∨ (∃ fs, o = .ins "Taker" fs) ∨ ((∃ l, o = .lst l) ∧ (fr = some y ∨ fk = some y)) := by
  rcases hz with e1 | e1 | e1 | e1 | e1
  · subst e1; rw [h.me] at hy; cases hy; exact .inl ⟨_, rfl⟩
  · subst e1; rw [h.R.me] at hy; cases hy; exact .inr (.inl ⟨_, rfl⟩)
  · subst e1; rw [h.T.me] at hy; cases hy; exact .inr (.inr (.inl ⟨_, rfl⟩))
  · subst e1
    obtain ⟨⟨l, hl⟩, _⟩ := part_tr h.R.part
    rw [hl] at hy; cases hy
    exact .inr (.inr (.inr ⟨⟨_, rfl⟩, .inl rfl⟩))
  · subst e1
    obtain ⟨⟨l, hl⟩, _⟩ := part_tr h.T.part
    rw [hl] at hy; cases hy
    exact .inr (.inr (.inr ⟨⟨_, rfl⟩, .inr rfl⟩))

/-! runs of a list, from the left -/
def lrF : Option Int → Int → Int → List Int → Int
  | _, _, best, [] => best
  | pv, many, best, b :: r => lrF (some b) (if pv = some b then many + 1 else 1) (max best (if pv = some b then many + 1 else 1)) r
def longL (ns : List Int) : Int := lrF none 0 0 ns
/-- runs, so far acc (the last first) -/
def rnF : Option Int → List Int → List Int → List Int
  | _, acc, [] => acc
  | pv, acc, b :: r => if pv = some b then rnF (some b) (acc.dropLast ++ [acc.getLastD 0 + 1]) r else rnF (some b) (acc ++ [1]) r
def runsL (ns : List Int) : List Int := rnF none [] ns
/-- the last bit before place k -/
def pvAt (ns : List Int) (k : Nat) : Option Int := if k = 0 then none else ns[k - 1]?
theorem pvAt_succ {ns : List Int} {k : Nat} (h : k < ns.length) : pvAt ns (k + 1) = some ns[k] := by
  unfold pvAt; rw [if_neg (by omega), Nat.add_sub_cancel, List.getElem?_eq_getElem h]
theorem lrF_eq {pv b m w : Int} {r : List Int} (h : pv = b) : lrF (some pv) m w (b :: r) = lrF (some b) (m + 1) (max w (m + 1)) r := by
  subst h; show lrF _ (if some pv = some pv then _ else _) _ _ = _; rw [if_pos rfl]
theorem lrF_ne {pv b m w : Int} {r : List Int} (h : pv ≠ b) : lrF (some pv) m w (b :: r) = lrF (some b) 1 (max w 1) r := by
  show lrF _ (if some pv = some b then _ else _) _ _ = _; rw [if_neg (by simpa using h)]
theorem lrF_no {b m w : Int} {r : List Int} : lrF none m w (b :: r) = lrF (some b) 1 (max w 1) r := by
  show lrF (some b) (if none = some b then m + 1 else 1) (max w (if none = some b then m + 1 else 1)) r = _; rw [if_neg (by simp)]
theorem rnF_eq {pv b : Int} {acc r : List Int} (h : pv = b) : rnF (some pv) acc (b :: r) = rnF (some b) (acc.dropLast ++ [acc.getLastD 0 + 1]) r := by
  subst h; show (if some pv = some pv then _ else _) = _; rw [if_pos rfl]
theorem rnF_ne {pv b : Int} {acc r : List Int} (h : pv ≠ b) : rnF (some pv) acc (b :: r) = rnF (some b) (acc ++ [1]) r := by
  show (if some pv = some b then _ else _) = _; rw [if_neg (by simpa using h)]
theorem rnF_no {b : Int} {acc r : List Int} : rnF none acc (b :: r) = rnF (some b) (acc ++ [1]) r := by
  show (if none = some b then rnF (some b) (acc.dropLast ++ [acc.getLastD 0 + 1]) r else rnF (some b) (acc ++ [1]) r) = _; rw [if_neg (by simp)]

-- needs: runs
/-- runs with their bits -/
def rpF : List (Int × Int) → List Int → List (Int × Int)
  | acc, [] => acc
  | acc, b :: r => match acc.getLast? with
    | some (c, m) => if c = b then rpF (acc.dropLast ++ [(b, m + 1)]) r else rpF (acc ++ [(b, 1)]) r
    | none => rpF (acc ++ [(b, 1)]) r
def runPs (ns : List Int) : List (Int × Int) := rpF [] ns
def prD (x : Int × Int) : D := .tup [.int x.1, .int x.2]
theorem rpF_nil {b : Int} {r : List Int} : rpF [] (b :: r) = rpF [(b, 1)] r := rfl
theorem rpF_eq {c b m : Int} {acc : List (Int × Int)} {r : List Int} (h : c = b) : rpF (acc ++ [(c, m)]) (b :: r) = rpF (acc ++ [(b, m + 1)]) r := by
  simp [rpF, h]
theorem rpF_ne {c b m : Int} {acc : List (Int × Int)} {r : List Int} (h : c ≠ b) : rpF (acc ++ [(c, m)]) (b :: r) = rpF (acc ++ [(c, m)] ++ [(b, 1)]) r := by
  simp [rpF, h]
theorem Pl_prs {k : Nat} (l : List (Int × Int)) : Pl (k + 2) (.lst (l.map prD)) := .lst fun x hx => by
  obtain ⟨y, _, rfl⟩ := List.mem_map.mp hx
  exact .two (.int _ _) (.int _ _)

-- needs: runsdef
def fvF : Int → List (Int × Int) → List Int
  | _, [] => []
  | p, x :: r => (if 5 ≤ x.2 then [p] else []) ++ fvF (p + x.2) r
def fivesL (ns : List Int) : List Int := fvF 0 (runPs ns)
theorem rpF_len : ∀ (r : List Int) (acc : List (Int × Int)), (rpF acc r).length ≤ acc.length + r.length
  | [], acc => by show acc.length ≤ acc.length + 0; omega
  | b :: r, acc => by
    rcases List.eq_nil_or_concat acc with ea | ⟨init, ⟨c, m⟩, ea⟩
    · subst ea
      rw [rpF_nil]
      have := rpF_len r [(b, 1)]
      simp only [List.length_cons, List.length_nil] at this ⊢; omega
    · rw [List.concat_eq_append] at ea
      subst ea
      by_cases h : c = b
      · rw [rpF_eq h]
        have := rpF_len r (init ++ [(b, m + 1)])
        simp only [List.length_append, List.length_cons, List.length_nil] at this ⊢; omega
      · rw [rpF_ne h]
        have := rpF_len r (init ++ [(c, m)] ++ [(b, 1)])
        simp only [List.length_append, List.length_cons, List.length_nil] at this ⊢; omega
theorem runPs_len (ns : List Int) : (runPs ns).length ≤ ns.length := by
  have := rpF_len ns []
  simpa [runPs] using this

-- needs: runs runsdef fivesdef
/-! a list by its runs -/
def flatR : List (Int × Int) → List Int
  | [] => []
  | x :: r => List.replicate x.2.toNat x.1 ++ flatR r
def adjR : List (Int × Int) → Prop
  | [] => True
  | x :: r => (∀ y, r.head? = some y → x.1 ≠ y.1) ∧ adjR r
theorem flatR_app : ∀ (a b : List (Int × Int)), flatR (a ++ b) = flatR a ++ flatR b
  | [], _ => rfl
  | x :: r, b => by show _ ++ flatR (r ++ b) = _ ++ flatR r ++ _; rw [flatR_app r b, List.append_assoc]
theorem adjR_snoc : ∀ (a : List (Int × Int)) (c m : Int), adjR (a ++ [(c, m)]) → (∀ m', adjR (a ++ [(c, m')])) ∧ ∀ b m', c ≠ b → adjR (a ++ [(c, m)] ++ [(b, m')])
  | [], c, m, _ => ⟨fun m' => ⟨(fun y h => nomatch h), trivial⟩, fun b m' h => ⟨fun y hy => by
      have : y = (b, m') := by simpa using hy.symm
      subst this; exact h, (fun y h => nomatch h), trivial⟩⟩
  | x :: r, c, m, h => by
    obtain ⟨h1, h2⟩ := h
    obtain ⟨g1, g2⟩ := adjR_snoc r c m h2
    refine ⟨fun m' => ⟨fun y hy => ?_, g1 m'⟩, fun b m' hb => ⟨fun y hy => ?_, g2 b m' hb⟩⟩
    · cases r with
      | nil =>
        have : y = (c, m') := by simpa using hy.symm
        subst this
        exact h1 (c, m) rfl
      | cons z r => exact h1 y (by simpa using hy)
    · cases r with
      | nil => exact h1 y (by simpa using hy)
      | cons z r => exact h1 y (by simpa using hy)
structure RunsOk (ns : List Int) (prs : List (Int × Int)) : Prop where
  fl : flatR prs = ns
  pos : ∀ x ∈ prs, 1 ≤ x.2
  adj : adjR prs
theorem runs_step : ∀ (l : List Int) (acc : List (Int × Int)) (pre : List Int), RunsOk pre acc → RunsOk (pre ++ l) (rpF acc l)
  | [], acc, pre, h => by rw [List.append_nil]; exact h
  | b :: l, acc, pre, h => by
    rw [show pre ++ b :: l = (pre ++ [b]) ++ l by simp]
    rcases List.eq_nil_or_concat acc with ea | ⟨init, ⟨c, m⟩, ea⟩
    · subst ea
      rw [rpF_nil]
      refine runs_step l _ _ ⟨?_, fun x hx => ?_, (fun y h => nomatch h), trivial⟩
      · rw [← h.fl]; rfl
      · rw [List.mem_singleton.mp hx]; exact Int.le_refl 1
    · rw [List.concat_eq_append] at ea
      subst ea
      obtain ⟨g1, g2⟩ := adjR_snoc init c m h.adj
      have hm : 1 ≤ m := h.pos (c, m) (List.mem_append_right _ List.mem_cons_self)
      by_cases e : c = b
      · rw [rpF_eq e]
        refine runs_step l _ _ ⟨?_, fun x hx => ?_, by subst e; exact g1 _⟩
        · rw [← h.fl, flatR_app, flatR_app, List.append_assoc]
          congr 1
          show List.replicate (m + 1).toNat b ++ [] = List.replicate m.toNat c ++ [] ++ [b]
          rw [List.append_nil, List.append_nil, e, show (m + 1).toNat = m.toNat + 1 by omega, List.replicate_succ']
        · rcases List.mem_append.mp hx with z | z
          · exact h.pos x (List.mem_append_left _ z)
          · rw [List.mem_singleton.mp z]; show 1 ≤ m + 1; omega
      · rw [rpF_ne e]
        refine runs_step l _ _ ⟨?_, fun x hx => ?_, g2 b 1 e⟩
        · rw [flatR_app, h.fl]; rfl
        · rcases List.mem_append.mp hx with z | z
          · exact h.pos x z
          · rw [List.mem_singleton.mp z]; exact Int.le_refl 1
theorem runPs_ok (ns : List Int) : RunsOk ns (runPs ns) := runs_step ns [] [] ⟨rfl, (fun _ h => nomatch h), trivial⟩
theorem rn_rp : ∀ (l : List Int) (acc : List (Int × Int)), rnF (acc.getLast?.map (·.1)) (acc.map (·.2)) l = (rpF acc l).map (·.2)
  | [], _ => rfl
  | b :: l, acc => by
    rcases List.eq_nil_or_concat acc with ea | ⟨init, ⟨c, m⟩, ea⟩
    · subst ea
      rw [rpF_nil]
      show rnF none [] (b :: l) = _
      rw [rnF_no]
      exact rn_rp l [(b, 1)]
    · rw [List.concat_eq_append] at ea
      subst ea
      rw [List.getLast?_append]
      show rnF (some c) _ _ = _
      by_cases e : c = b
      · rw [rpF_eq e, rnF_eq e]
        have := rn_rp l (init ++ [(b, m + 1)])
        rw [List.getLast?_append] at this
        rw [← this]
        simp
      · rw [rpF_ne e, rnF_ne e]
        have := rn_rp l (init ++ [(c, m)] ++ [(b, 1)])
        rw [List.getLast?_append] at this
        rw [← this]
        simp
theorem runsL_runPs (ns : List Int) : runsL ns = (runPs ns).map (·.2) := rn_rp ns []
theorem flatR_len {prs : List (Int × Int)} (h : ∀ x ∈ prs, 1 ≤ x.2) : ((flatR prs).length : Int) = (prs.map (·.2)).sum := by
  induction prs with
  | nil => rfl
  | cons x r ih =>
    have := h x List.mem_cons_self
    have := ih fun y hy => h y (List.mem_cons_of_mem _ hy)
    show ((List.replicate x.2.toNat x.1 ++ flatR r).length : Int) = _
    rw [List.length_append, List.length_replicate, List.map_cons, List.sum_cons]; omega
/-! where a run of five or more begins -/
def st5 (pv : Option Int) (ns : List Int) (s : Nat) : Prop := (if s = 0 then pv else ns[s - 1]?) ≠ ns[s]? ∧ ∃ b, ∀ j, j < 5 → ns[s + j]? = some b
theorem fvF_ge : ∀ (prs : List (Int × Int)) (p : Int), (∀ x ∈ prs, 1 ≤ x.2) → ∀ y ∈ fvF p prs, p ≤ y
  | [], _, _, _, h => nomatch h
  | x :: r, p, hp, y, hy => by
    have h1 := hp x List.mem_cons_self
    rcases List.mem_append.mp (show y ∈ (if 5 ≤ x.2 then [p] else []) ++ fvF (p + x.2) r from hy) with e | e
    · split at e
      · rw [List.mem_singleton.mp e]; omega
      · cases e
    · have := fvF_ge r (p + x.2) (fun z hz => hp z (List.mem_cons_of_mem _ hz)) y e
      omega
theorem st5_fv : ∀ (prs : List (Int × Int)) (pv : Option Int) (p : Int) (s : Nat), (∀ x ∈ prs, 1 ≤ x.2) → adjR prs → (∀ y, prs.head? = some y → pv ≠ some y.1) → (st5 pv (flatR prs) s ↔ p + s ∈ fvF p prs)
  | [], pv, p, s, _, _, _ => by
    constructor
    · rintro ⟨_, b, h⟩
      have := h 0 (by decide)
      simp [flatR] at this
    · intro h; cases h
  | x :: r, pv, p, s, hp, ha, hv => by
    obtain ⟨b, m⟩ := x
    have h1 : 1 ≤ m := hp (b, m) List.mem_cons_self
    obtain ⟨k, rfl⟩ : ∃ k : Nat, m = k := ⟨m.toNat, by omega⟩
    have hk : 1 ≤ k := by omega
    have hr : ∀ z ∈ r, 1 ≤ z.2 := fun z hz => hp z (List.mem_cons_of_mem _ hz)
    have ih := st5_fv r (some b) (p + k) (s - k) hr ha.2 (fun y hy e => ha.1 y hy (by injection e))
    have hge := fvF_ge r (p + k) hr
    have lo : ∀ j, j < k → (flatR ((b, (k : Int)) :: r))[j]? = some b := fun j hj => by
      show (List.replicate (k : Int).toNat b ++ flatR r)[j]? = _
      rw [Int.toNat_natCast, List.getElem?_append_left (by rw [List.length_replicate]; exact hj), List.getElem?_replicate, if_pos hj]
    have hi : ∀ j, (flatR ((b, (k : Int)) :: r))[k + j]? = (flatR r)[j]? := fun j => by
      show (List.replicate (k : Int).toNat b ++ flatR r)[k + j]? = _
      rw [Int.toNat_natCast, List.getElem?_append_right (by rw [List.length_replicate]; omega), List.length_replicate, Nat.add_sub_cancel_left]
    have hd : (flatR r)[0]? ≠ some b := by
      cases r with
      | nil => simp [flatR]
      | cons y r' =>
        have hy := hr y List.mem_cons_self
        have hne := ha.1 y rfl
        show (List.replicate y.2.toNat y.1 ++ flatR r')[0]? ≠ _
        rw [List.getElem?_append_left (by rw [List.length_replicate]; omega), List.getElem?_replicate, if_pos (by omega)]
        intro e
        injection e with e
        exact hne e.symm
    have hmem : p + (s : Int) ∈ fvF p ((b, (k : Int)) :: r) ↔ (s = 0 ∧ 5 ≤ k) ∨ p + (s : Int) ∈ fvF (p + k) r := by
      show p + (s : Int) ∈ (if 5 ≤ (k : Int) then [p] else []) ++ fvF (p + k) r ↔ _
      rw [List.mem_append]
      constructor
      · rintro (e | e)
        · split at e
          · have := List.mem_singleton.mp e
            exact .inl ⟨by omega, by omega⟩
          · cases e
        · exact .inr e
      · rintro (⟨e1, e2⟩ | e)
        · subst e1
          rw [if_pos (by omega)]
          exact .inl (List.mem_singleton.mpr (by omega))
        · exact .inr e
    rw [hmem]
    by_cases hs : s < k
    · have hno : ¬ (p + (s : Int) ∈ fvF (p + k) r) := fun e => by have := hge _ e; omega
      constructor
      · rintro ⟨h2, c, h3⟩
        by_cases h0 : s = 0
        · subst h0
          refine .inl ⟨rfl, ?_⟩
          by_cases h5 : 5 ≤ k
          · exact h5
          · exfalso
            have a := h3 0 (by decide)
            rw [lo 0 (by omega)] at a
            have a2 := h3 k (by omega)
            rw [Nat.zero_add] at a2
            have hi0 := hi 0
            rw [Nat.add_zero, a2, ← a] at hi0
            exact hd hi0.symm
        · exfalso
          rw [if_neg h0, lo (s - 1) (by omega), lo s hs] at h2
          exact h2 rfl
      · rintro (⟨e1, e2⟩ | e)
        · subst e1
          refine ⟨?_, b, fun j hj => by rw [Nat.zero_add]; exact lo j (by omega)⟩
          rw [if_pos rfl, lo 0 (by omega)]
          exact hv (b, (k : Int)) rfl
        · exact absurd e hno
    · have e1 : p + (s : Int) = p + k + ((s - k : Nat) : Int) := by omega
      rw [e1, ← ih]
      have hst : st5 pv (flatR ((b, (k : Int)) :: r)) s ↔ st5 (some b) (flatR r) (s - k) := by
        unfold st5
        have q1 : ∀ j, (flatR ((b, (k : Int)) :: r))[s + j]? = (flatR r)[s - k + j]? := fun j => by
          rw [show s + j = k + (s - k + j) by omega]; exact hi _
        have q0 := q1 0
        rw [Nat.add_zero, Nat.add_zero] at q0
        have q2 : (if s = 0 then pv else (flatR ((b, (k : Int)) :: r))[s - 1]?) = (if s - k = 0 then some b else (flatR r)[s - k - 1]?) := by
          rw [if_neg (by omega)]
          by_cases e : s = k
          · subst e
            rw [if_pos (by omega), lo (s - 1) (by omega)]
          · rw [if_neg (by omega), show s - 1 = k + (s - k - 1) by omega, hi]
        rw [q2, q0]
        constructor
        · rintro ⟨h, c, h'⟩
          exact ⟨h, c, fun j hj => by rw [← q1]; exact h' j hj⟩
        · rintro ⟨h, c, h'⟩
          exact ⟨h, c, fun j hj => by rw [q1]; exact h' j hj⟩
      rw [hst]
      constructor
      · exact .inr
      · rintro (⟨e2, e3⟩ | e)
        · omega
        · exact e
theorem fives_st5 (ns : List Int) (s : Nat) : st5 none ns s ↔ (s : Int) ∈ fivesL ns := by
  have ok := runPs_ok ns
  have := st5_fv (runPs ns) none 0 s ok.pos ok.adj (fun y hy e => by cases e)
  rw [ok.fl, Int.zero_add] at this
  exact this

def mkF : Nat → Int → List Int → List Int
  | _, _, [] => []
  | k, w, b :: r => (if 9 ≤ k ∧ ((2 * w + b) % 1024 = 250 ∨ (2 * w + b) % 1024 = 773) then [(k : Int) - 10 + 1] else []) ++ mkF (k + 1) ((2 * w + b) % 1024) r
def marksL (ns : List Int) : List Int := mkF 0 0 ns
theorem inD_mark (w : Int) : inD (.int w) [.int 250, .int (1023 - 250)] = decide (w = 250 ∨ w = 773) := by
  show (((250 : Int) == w) || (((1023 - 250 : Int) == w) || false)) = _
  rw [Bool.or_false]
  by_cases h : w = 250
  · subst h; rfl
  · by_cases h2 : w = 773
    · subst h2; rfl
    · rw [decide_eq_false (by omega)]
      simp; omega

-- needs: marksdef
theorem wf_app (a b : List Int) (x : Int) : (a ++ b).foldl (fun a b => 2 * a + b) x = b.foldl (fun a b => 2 * a + b) (a.foldl (fun a b => 2 * a + b) x) := List.foldl_append
theorem wf_from : ∀ (l : List Int) (x : Int), l.foldl (fun a b => 2 * a + b) x = x * 2 ^ l.length + l.foldl (fun a b => 2 * a + b) 0
  | [], x => by show x = x * 1 + 0; omega
  | b :: r, x => by
    show r.foldl _ (2 * x + b) = x * 2 ^ (r.length + 1) + r.foldl _ (2 * 0 + b)
    rw [wf_from r (2 * x + b), wf_from r (2 * 0 + b), Int.pow_succ, Int.add_mul, Int.add_mul, Int.mul_zero, Int.zero_mul, Int.zero_add,
      show 2 * x * 2 ^ r.length = x * (2 ^ r.length * 2) by rw [Int.mul_comm 2 x, Int.mul_assoc, Int.mul_comm 2]]
    omega
theorem wordOf_rng : ∀ (l : List Int), bitL l → 0 ≤ wordOf l ∧ wordOf l < 2 ^ l.length
  | [], _ => ⟨by decide, by decide⟩
  | b :: r, h => by
    have hb := h b List.mem_cons_self
    have ih := wordOf_rng r fun n hn => h n (List.mem_cons_of_mem _ hn)
    have e : wordOf (b :: r) = b * 2 ^ r.length + wordOf r := by
      show r.foldl _ (2 * 0 + b) = _
      rw [wf_from]
      show (2 * 0 + b) * 2 ^ r.length + wordOf r = _
      rw [show 2 * 0 + b = b by omega]
    have hp : (0 : Int) < 2 ^ r.length := Int.pow_pos (by decide)
    rw [e, List.length_cons, Int.pow_succ]
    rcases hb with z | z <;> subst z
    · rw [Int.zero_mul]; omega
    · rw [Int.one_mul]; omega
theorem ten_word10 : ∀ a ∈ ([0, 1] : List Int), ∀ b ∈ ([0, 1] : List Int), ∀ c ∈ ([0, 1] : List Int), ∀ d ∈ ([0, 1] : List Int), ∀ e ∈ ([0, 1] : List Int), ∀ f ∈ ([0, 1] : List Int), ∀ g ∈ ([0, 1] : List Int), ∀ i ∈ ([0, 1] : List Int), ∀ j ∈ ([0, 1] : List Int), ∀ k ∈ ([0, 1] : List Int), ten (wordOf [a, b, c, d, e, f, g, i, j, k]) = [a, b, c, d, e, f, g, i, j, k] := by decide +kernel
/-- a word's ten bits, back -/
theorem ten_wordOf {l : List Int} (h : bitL l) (hl : l.length = 10) : ten (wordOf l) = l := by
  match l, hl with
  | [a, b, c, d, e, f, g, i, j, k], _ =>
    have m : ∀ x ∈ [a, b, c, d, e, f, g, i, j, k], x ∈ ([0, 1] : List Int) := fun x hx => by
      rcases h x hx with z | z <;> subst z <;> simp
    exact ten_word10 a (m a (by simp)) b (m b (by simp)) c (m c (by simp)) d (m d (by simp)) e (m e (by simp)) f (m f (by simp)) g (m g (by simp)) i (m i (by simp)) j (m j (by simp)) k (m k (by simp))
def mkP (ns : List Int) (j : Nat) : Bool := decide (wordOf ((ns.drop j).take 10) = 250 ∨ wordOf ((ns.drop j).take 10) = 773)
theorem mkF_spec {ns : List Int} (hb : bitL ns) : ∀ (r' : List Int) (k : Nat) (w : Int), ns.drop k = r' → k ≤ ns.length → w = wordOf (ns.take k) % 1024 → mkF k w r' = ((List.range' (k - 9) ((ns.length - 9) - (k - 9))).filter (mkP ns)).map fun j : Nat => (j : Int)
  | [], k, w, e, hk, _ => by
    have : ns.length ≤ k := by
      have := congrArg List.length e
      rw [List.length_drop] at this
      simp only [List.length_nil] at this; omega
    rw [show ns.length - 9 - (k - 9) = 0 by omega]; rfl
  | b :: r', k, w, e, hk, hw => by
    have hlt : k < ns.length := by
      have := congrArg List.length e
      rw [List.length_drop] at this
      simp only [List.length_cons] at this; omega
    rw [List.drop_eq_getElem_cons hlt] at e
    injection e with e1 e2
    have hw2 : (2 * w + b) % 1024 = wordOf (ns.take (k + 1)) % 1024 := by
      rw [List.take_succ_eq_append_getElem hlt, e1]
      unfold wordOf
      rw [wf_app]
      show _ = (2 * wordOf (ns.take k) + b) % 1024
      rw [hw]; omega
    have ih := mkF_spec hb r' (k + 1) ((2 * w + b) % 1024) e2 (by omega) hw2
    show (if 9 ≤ k ∧ ((2 * w + b) % 1024 = 250 ∨ (2 * w + b) % 1024 = 773) then [(k : Int) - 10 + 1] else []) ++ mkF (k + 1) ((2 * w + b) % 1024) r' = _
    rw [ih]
    by_cases h9 : 9 ≤ k
    · have hrg : List.range' (k - 9) (ns.length - 9 - (k - 9)) = (k - 9) :: List.range' (k + 1 - 9) (ns.length - 9 - (k + 1 - 9)) := by
        rw [show ns.length - 9 - (k - 9) = (ns.length - 9 - (k + 1 - 9)) + 1 by omega, List.range'_succ, show k - 9 + 1 = k + 1 - 9 by omega]
      rw [hrg]
      have hwin : (2 * w + b) % 1024 = wordOf ((ns.drop (k - 9)).take 10) := by
        rw [hw2]
        have es : ns.take (k + 1) = ns.take (k - 9) ++ (ns.drop (k - 9)).take 10 := by
          conv => lhs; rw [show k + 1 = (k - 9) + 10 by omega, List.take_add]
        have hl : ((ns.drop (k - 9)).take 10).length = 10 := by rw [List.length_take, List.length_drop]; omega
        have hr := wordOf_rng _ (bitL_take (bitL_drop hb (k - 9)) 10)
        rw [hl] at hr
        rw [es]
        unfold wordOf at hr ⊢
        rw [wf_app, wf_from, hl]
        generalize (ns.take (k - 9)).foldl (fun a b => 2 * a + b) 0 = X at *
        omega
      rw [List.filter_cons]
      unfold mkP at *
      rw [← hwin]
      by_cases hm : (2 * w + b) % 1024 = 250 ∨ (2 * w + b) % 1024 = 773
      · rw [if_pos ⟨h9, hm⟩, decide_eq_true hm]
        simp only [if_true, List.map_cons, List.cons_append, List.nil_append, List.cons.injEq, and_true]
        omega
      · rw [if_neg (fun z => hm z.2), decide_eq_false hm]
        simp
    · rw [if_neg (fun z => h9 z.1), show k + 1 - 9 = k - 9 by omega]; rfl
theorem marksL_spec {ns : List Int} (hb : bitL ns) : marksL ns = ((List.range (ns.length - 9)).filter (mkP ns)).map fun j : Nat => (j : Int) := by
  have := mkF_spec hb ns 0 0 rfl (Nat.zero_le _) rfl
  rw [List.range_eq_range']
  exact this

-- needs: sent looks marks
theorem sorted_ext : ∀ (a b : List Int), a.Pairwise (· < ·) → b.Pairwise (· < ·) → (∀ x, x ∈ a ↔ x ∈ b) → a = b
  | [], [], _, _, _ => rfl
  | [], y :: b, _, _, h => nomatch (h y).mpr List.mem_cons_self
  | x :: a, [], _, _, h => nomatch (h x).mp List.mem_cons_self
  | x :: a, y :: b, ha, hb, h => by
    obtain ⟨ha1, ha2⟩ := List.pairwise_cons.mp ha
    obtain ⟨hb1, hb2⟩ := List.pairwise_cons.mp hb
    have e : x = y := by
      rcases List.mem_cons.mp ((h x).mp List.mem_cons_self) with e | e
      · exact e
      · rcases List.mem_cons.mp ((h y).mpr List.mem_cons_self) with e2 | e2
        · exact e2.symm
        · have := hb1 x e
          have := ha1 y e2
          omega
    subst e
    rw [sorted_ext a b ha2 hb2 fun z => ⟨fun hz => ?_, fun hz => ?_⟩]
    · rcases List.mem_cons.mp ((h z).mp (List.mem_cons_of_mem _ hz)) with e | e
      · have := ha1 z hz; omega
      · exact e
    · rcases List.mem_cons.mp ((h z).mpr (List.mem_cons_of_mem _ hz)) with e | e
      · have := hb1 z hz; omega
      · exact e
theorem fvF_sorted : ∀ (prs : List (Int × Int)) (p : Int), (∀ x ∈ prs, 1 ≤ x.2) → (fvF p prs).Pairwise (· < ·)
  | [], _, _ => .nil
  | x :: r, p, hp => by
    have h1 := hp x List.mem_cons_self
    have hr : ∀ z ∈ r, 1 ≤ z.2 := fun z hz => hp z (List.mem_cons_of_mem _ hz)
    have ih := fvF_sorted r (p + x.2) hr
    show ((if 5 ≤ x.2 then [p] else []) ++ fvF (p + x.2) r).Pairwise (· < ·)
    split
    · refine List.pairwise_cons.mpr ⟨fun y hy => ?_, ih⟩
      have := fvF_ge r (p + x.2) hr y hy
      omega
    · exact ih
/-- the places of begin -/
def begs (is : List Nat) : List Nat := (List.range is.length).filter fun k => decide (is[k]? = some 256)
theorem begs_sorted (is : List Nat) (c : Int) : ((begs is).map fun k : Nat => 10 * (k : Int) + c).Pairwise (· < ·) := by
  refine List.pairwise_map.mpr ?_
  refine List.Pairwise.filter _ ?_
  refine List.Pairwise.imp ?_ List.pairwise_lt_range
  intro a b h
  omega
theorem sentB_get : ∀ (is : List Nat) (p : Int) (k j n : Nat), is[k]? = some n → j < 10 → (sentB is p)[10 * k + j]? = (ten (putW n (sentP (is.take k) p)))[j]?
  | [], _, k, _, _, h, _ => by simp at h
  | m :: r, p, 0, j, n, h, hj => by
    have : m = n := by simpa using h
    subst this
    show (ten (putW m p) ++ sentB r (putP m p))[10 * 0 + j]? = _
    rw [List.getElem?_append_left (by rw [ten_len]; omega), show 10 * 0 + j = j by omega]; rfl
  | m :: r, p, k + 1, j, n, h, hj => by
    show (ten (putW m p) ++ sentB r (putP m p))[10 * (k + 1) + j]? = _
    rw [List.getElem?_append_right (by rw [ten_len]; omega), ten_len, show 10 * (k + 1) + j - 10 = 10 * k + j by omega, sentB_get r (putP m p) k j n (by simpa using h) hj]
    rfl
/-! what holds of each word -/
def wordOk (n : Nat) (W : List Int) : Bool :=
  !(W[0]? == W[1]? && W[1]? == W[2]?) && !(W[7]? == W[8]? && W[8]? == W[9]?) &&
  (List.range 6).all (fun j => !(W[j]? == W[j + 1]? && W[j + 1]? == W[j + 2]? && W[j + 2]? == W[j + 3]? && W[j + 3]? == W[j + 4]? && (j == 0 || !(W[j - 1]? == W[j]?))) || (n == 256 && j == 2)) &&
  (List.range 5).all (fun j => !(W[j]? == W[j + 1]? && W[j + 1]? == W[j + 2]? && W[j + 2]? == W[j + 3]? && W[j + 3]? == W[j + 4]? && W[j + 4]? == W[j + 5]?)) &&
  (!(n == 256) || (wordOf W == 250 || wordOf W == 773))
theorem wordOk_all : ∀ n : Nat, n < 260 → wordOk n (ten (putW n 1)) = true ∧ wordOk n (ten (putW n (-1))) = true := by decide +kernel
structure WordOk (n : Nat) (W : List Int) : Prop where
  a : ¬ (W[0]? = W[1]? ∧ W[1]? = W[2]?)
  b : ¬ (W[7]? = W[8]? ∧ W[8]? = W[9]?)
  c : ∀ j, j < 6 → W[j]? = W[j + 1]? → W[j + 1]? = W[j + 2]? → W[j + 2]? = W[j + 3]? → W[j + 3]? = W[j + 4]? → (j ≠ 0 → W[j - 1]? ≠ W[j]?) → n = 256 ∧ j = 2
  d : ∀ j, j < 5 → ¬ (W[j]? = W[j + 1]? ∧ W[j + 1]? = W[j + 2]? ∧ W[j + 2]? = W[j + 3]? ∧ W[j + 3]? = W[j + 4]? ∧ W[j + 4]? = W[j + 5]?)
  e : n = 256 → wordOf W = 250 ∨ wordOf W = 773
theorem WordOk.of {n : Nat} {W : List Int} (h : wordOk n W = true) : WordOk n W := by
  unfold wordOk at h
  simp only [Bool.and_eq_true, Bool.not_eq_true', Bool.and_eq_false_iff, beq_eq_false_iff_ne, List.all_eq_true, List.mem_range, Bool.or_eq_true, beq_iff_eq] at h
  obtain ⟨⟨⟨⟨h1, h2⟩, h3⟩, h4⟩, h5⟩ := h
  refine ⟨fun z => ?_, fun z => ?_, fun j hj a b c d e => ?_, fun j hj z => ?_, fun z => ?_⟩
  · rcases h1 with q | q
    · exact q z.1
    · exact q z.2
  · rcases h2 with q | q
    · exact q z.1
    · exact q z.2
  · rcases h3 j hj with q | q
    · exfalso
      rcases q with (((q | q) | q) | q) | q
      · exact q a
      · exact q b
      · exact q c
      · exact q d
      · simp only [Bool.or_eq_false_iff, beq_eq_false_iff_ne, Bool.not_eq_false', beq_iff_eq] at q
        exact e q.1 q.2
    · exact q
  · rcases h4 j hj with (((q | q) | q) | q) | q
    · exact q z.1
    · exact q z.2.1
    · exact q z.2.2.1
    · exact q z.2.2.2.1
    · exact q z.2.2.2.2
  · rcases h5 with q | q
    · exact absurd z q
    · exact q
theorem wordOk_put {n : Nat} {p : Int} (hn : n < 260) (hp : pm p) : WordOk n (ten (putW n p)) := by
  have := wordOk_all n hn
  rcases hp with e | e <;> subst e
  · exact .of this.1
  · exact .of this.2
section
variable {is : List Nat} {p : Int} (his : ∀ n ∈ is, n < 260) (hp : pm p)
include his hp
theorem sent_word {k n : Nat} (h : is[k]? = some n) : WordOk n (ten (putW n (sentP (is.take k) p))) := wordOk_put (his n (List.mem_of_getElem? h)) (sentP_pm _ hp)
/-- like bits, by their place in a word -/
theorem sent_win {s m : Nat} {b : Int} (h : ∀ i, i < m → (sentB is p)[s + i]? = some b) (hm : 1 ≤ m) : ∃ k j n, s = 10 * k + j ∧ j < 10 ∧ is[k]? = some n := by
  have h0 := h 0 hm
  have hlt : s < (sentB is p).length := by
    rcases Nat.lt_or_ge s (sentB is p).length with z | z
    · exact z
    · rw [Nat.add_zero, List.getElem?_eq_none z] at h0; cases h0
  rw [sentB_len] at hlt
  have hk : s / 10 < is.length := by omega
  exact ⟨s / 10, s % 10, is[s / 10], by omega, by omega, List.getElem?_eq_getElem hk⟩
theorem sent_five {s : Nat} : st5 none (sentB is p) s ↔ ∃ k, is[k]? = some 256 ∧ s = 10 * k + 2 := by
  constructor
  · rintro ⟨h1, b, h2⟩
    obtain ⟨k, j, n, rfl, hj, hk⟩ := sent_win his hp h2 (by decide)
    have W := sent_word his hp hk
    have g : ∀ i, i < 10 → (sentB is p)[10 * k + i]? = (ten (putW n (sentP (is.take k) p)))[i]? := fun i hi => sentB_get is p k i n hk hi
    have g2 : ∀ i, i < 5 → j + i < 10 → (ten (putW n (sentP (is.take k) p)))[j + i]? = some b := fun i hi hi2 => by rw [← g (j + i) hi2, ← Nat.add_assoc]; exact h2 i hi
    by_cases h5 : j < 6
    · have a0 := g2 0 (by decide) (by omega)
      have a1 := g2 1 (by decide) (by omega)
      have a2 := g2 2 (by decide) (by omega)
      have a3 := g2 3 (by decide) (by omega)
      have a4 := g2 4 (by decide) (by omega)
      rw [Nat.add_zero] at a0
      obtain ⟨e1, e2⟩ := W.c j h5 (a0.trans a1.symm) (a1.trans a2.symm) (a2.trans a3.symm) (a3.trans a4.symm) (fun hz => by
        have q := h1
        rw [if_neg (by omega), show 10 * k + j - 1 = 10 * k + (j - 1) by omega, g (j - 1) (by omega), g j hj] at q
        exact q)
      subst e1 e2
      exact ⟨k, hk, rfl⟩
    · exfalso
      by_cases h7 : j < 8
      · have b7 := g2 (7 - j) (by omega) (by omega)
        have b8 := g2 (8 - j) (by omega) (by omega)
        have b9 := g2 (9 - j) (by omega) (by omega)
        rw [show j + (7 - j) = 7 by omega] at b7
        rw [show j + (8 - j) = 8 by omega] at b8
        rw [show j + (9 - j) = 9 by omega] at b9
        exact W.b ⟨b7.trans b8.symm, b8.trans b9.symm⟩
      · have hlt : 10 * k + j + 4 < (sentB is p).length := by
          rcases Nat.lt_or_ge (10 * k + j + 4) (sentB is p).length with z | z
          · exact z
          · have := h2 4 (by decide)
            rw [List.getElem?_eq_none z] at this; cases this
        rw [sentB_len] at hlt
        have hk2 : is[k + 1]? = some (is[k + 1]'(by omega)) := List.getElem?_eq_getElem (by omega)
        have W2 := sent_word his hp hk2
        have f : ∀ i, i < 3 → (ten (putW (is[k + 1]'(by omega)) (sentP (is.take (k + 1)) p)))[i]? = some b := fun i hi => by
          rw [← sentB_get is p (k + 1) i _ hk2 (by omega), show 10 * (k + 1) + i = 10 * k + j + (10 + i - j) by omega]
          exact h2 _ (by omega)
        exact W2.a ⟨(f 0 (by decide)).trans (f 1 (by decide)).symm, (f 1 (by decide)).trans (f 2 (by decide)).symm⟩
  · rintro ⟨k, hk, rfl⟩
    have W := sent_word his hp hk
    have g : ∀ i, i < 10 → (sentB is p)[10 * k + i]? = (ten (putW 256 (sentP (is.take k) p)))[i]? := fun i hi => sentB_get is p k i 256 hk hi
    have hw : ten (putW 256 (sentP (is.take k) p)) = ten 250 ∨ ten (putW 256 (sentP (is.take k) p)) = ten 773 := by
      have h : wordOf (ten (putW 256 (sentP (is.take k) p))) = 250 ∨ wordOf (ten (putW 256 (sentP (is.take k) p))) = 773 := W.e rfl
      have e := ten_wordOf (ten_bits (putW 256 (sentP (is.take k) p))) (ten_len _)
      rcases h with z | z <;> rw [z] at e
      · exact .inl e.symm
      · exact .inr e.symm
    unfold st5
    rw [if_neg (by omega), show 10 * k + 2 - 1 = 10 * k + 1 by omega, g 1 (by decide), g 2 (by decide)]
    rcases hw with z | z <;> rw [z] at g ⊢
    · refine ⟨by decide, 1, fun i hi => ?_⟩
      rw [show 10 * k + 2 + i = 10 * k + (2 + i) by omega, g (2 + i) (by omega)]
      have : ∀ i, i < 5 → (ten 250)[2 + i]? = some 1 := by decide
      exact this i hi
    · refine ⟨by decide, 0, fun i hi => ?_⟩
      rw [show 10 * k + 2 + i = 10 * k + (2 + i) by omega, g (2 + i) (by omega)]
      have : ∀ i, i < 5 → (ten 773)[2 + i]? = some 0 := by decide
      exact this i hi
theorem sent_no6 {s : Nat} {b : Int} (h2 : ∀ i, i < 6 → (sentB is p)[s + i]? = some b) : False := by
  obtain ⟨k, j, n, rfl, hj, hk⟩ := sent_win his hp h2 (by decide)
  have W := sent_word his hp hk
  have g : ∀ i, i < 10 → (sentB is p)[10 * k + i]? = (ten (putW n (sentP (is.take k) p)))[i]? := fun i hi => sentB_get is p k i n hk hi
  have g2 : ∀ i, i < 6 → j + i < 10 → (ten (putW n (sentP (is.take k) p)))[j + i]? = some b := fun i hi hi2 => by rw [← g (j + i) hi2, ← Nat.add_assoc]; exact h2 i hi
  by_cases h5 : j < 5
  · have a0 := g2 0 (by decide) (by omega)
    have a1 := g2 1 (by decide) (by omega)
    have a2 := g2 2 (by decide) (by omega)
    have a3 := g2 3 (by decide) (by omega)
    have a4 := g2 4 (by decide) (by omega)
    have a5 := g2 5 (by decide) (by omega)
    rw [Nat.add_zero] at a0
    exact W.d j h5 ⟨a0.trans a1.symm, a1.trans a2.symm, a2.trans a3.symm, a3.trans a4.symm, a4.trans a5.symm⟩
  · by_cases h7 : j < 8
    · have b7 := g2 (7 - j) (by omega) (by omega)
      have b8 := g2 (8 - j) (by omega) (by omega)
      have b9 := g2 (9 - j) (by omega) (by omega)
      rw [show j + (7 - j) = 7 by omega] at b7
      rw [show j + (8 - j) = 8 by omega] at b8
      rw [show j + (9 - j) = 9 by omega] at b9
      exact W.b ⟨b7.trans b8.symm, b8.trans b9.symm⟩
    · have hlt : 10 * k + j + 5 < (sentB is p).length := by
        rcases Nat.lt_or_ge (10 * k + j + 5) (sentB is p).length with z | z
        · exact z
        · have := h2 5 (by decide)
          rw [List.getElem?_eq_none z] at this; cases this
      rw [sentB_len] at hlt
      have hk2 : is[k + 1]? = some (is[k + 1]'(by omega)) := List.getElem?_eq_getElem (by omega)
      have W2 := sent_word his hp hk2
      have f : ∀ i, i < 3 → (ten (putW (is[k + 1]'(by omega)) (sentP (is.take (k + 1)) p)))[i]? = some b := fun i hi => by
        rw [← sentB_get is p (k + 1) i _ hk2 (by omega), show 10 * (k + 1) + i = 10 * k + j + (10 + i - j) by omega]
        exact h2 _ (by omega)
      exact W2.a ⟨(f 0 (by decide)).trans (f 1 (by decide)).symm, (f 1 (by decide)).trans (f 2 (by decide)).symm⟩
theorem sent_le5 : ∀ x ∈ runPs (sentB is p), x.2 ≤ 5 := by
  rintro ⟨b, m⟩ hx
  obtain ⟨a, c, e⟩ := List.append_of_mem hx
  have ok := runPs_ok (sentB is p)
  rcases Int.lt_or_le 5 m with h | h
  · exfalso
    refine sent_no6 his hp (s := (flatR a).length) (b := b) fun i hi => ?_
    rw [← ok.fl, e, flatR_app, List.getElem?_append_right (by omega), Nat.add_sub_cancel_left]
    show (List.replicate m.toNat b ++ flatR c)[i]? = _
    rw [List.getElem?_append_left (by rw [List.length_replicate]; omega), List.getElem?_replicate, if_pos (by omega)]
  · exact h
theorem mem_begs {c x : Int} : x ∈ ((begs is).map fun k : Nat => 10 * (k : Int) + c) ↔ ∃ k : Nat, is[k]? = some 256 ∧ x = 10 * (k : Int) + c := by
  rw [List.mem_map]
  constructor
  · rintro ⟨k, hk, rfl⟩
    exact ⟨k, of_decide_eq_true (List.mem_filter.mp hk).2, rfl⟩
  · rintro ⟨k, hk, rfl⟩
    refine ⟨k, List.mem_filter.mpr ⟨List.mem_range.mpr ?_, decide_eq_true hk⟩, rfl⟩
    rcases Nat.lt_or_ge k is.length with z | z
    · exact z
    · rw [List.getElem?_eq_none z] at hk; cases hk
theorem sent_fives : fivesL (sentB is p) = (begs is).map fun k : Nat => 10 * (k : Int) + 2 := by
  have ok := runPs_ok (sentB is p)
  refine sorted_ext _ _ (fvF_sorted _ _ ok.pos) (begs_sorted is 2) fun x => ?_
  rw [mem_begs his hp]
  constructor
  · intro hx
    have h0 : 0 ≤ x := fvF_ge _ _ ok.pos x hx
    obtain ⟨s, rfl⟩ : ∃ s : Nat, x = s := ⟨x.toNat, by omega⟩
    obtain ⟨k, hk, e⟩ := (sent_five his hp).mp ((fives_st5 _ s).mpr hx)
    exact ⟨k, hk, by omega⟩
  · rintro ⟨k, hk, rfl⟩
    have := (fives_st5 (sentB is p) (10 * k + 2)).mp ((sent_five his hp).mpr ⟨k, hk, rfl⟩)
    rw [show ((10 * k + 2 : Nat) : Int) = 10 * (k : Int) + 2 by omega] at this
    exact this
end

-- needs: tabs codes
theorem heavy_sums : ∀ h ∈ 250 :: tH, (ten h).sum = 6 ∧ (ten (1023 - h)).sum = 4 := by decide +kernel
theorem idxOf?_mem {w : Int} {t : List Int} {k : Nat} (h : t.idxOf? w = some k) : w ∈ t := by
  by_cases e : w ∈ t
  · exact e
  · rw [idxOf?_none e] at h; cases h
theorem pairI_sum {h : Int} {n : Nat} (e : pairI h = some n) : (ten h).sum = 6 ∧ (ten (1023 - h)).sum = 4 := by
  refine heavy_sums h ?_
  unfold pairI at e
  by_cases e2 : h = 250
  · rw [e2]; exact List.mem_cons_self
  · rw [if_neg e2] at e
    cases e3 : tH.idxOf? h with
    | none => rw [e3] at e; cases e
    | some k => exact List.mem_cons_of_mem _ (idxOf?_mem e3)

def turnL (ns : List Int) (k : Nat) : List Int := ns.take k ++ [1 - ns.getD k 0] ++ ns.drop (k + 1)
theorem turnL_set {ns : List Int} {k : Nat} (h : k < ns.length) : turnL ns k = ns.set k (1 - ns.getD k 0) := by
  rw [List.set_eq_take_append_cons_drop, if_pos h]
  unfold turnL
  simp

-- needs: sentruns align2 fivesdef looks gotdef near44t
/-- bits sent, one turned -/
def worseL (X : List Nat) (p : Int) (pl : Nat) : List Int := (sentB X p).set pl (1 - (sentB X p).getD pl 0)
theorem worse_len (X : List Nat) (p : Int) (pl : Nat) : (worseL X p pl).length = 10 * X.length := by unfold worseL; rw [List.length_set, sentB_len]
theorem worse_get {X : List Nat} {p : Int} {pl i : Nat} (h : i ≠ pl) : (worseL X p pl)[i]? = (sentB X p)[i]? := by unfold worseL; rw [List.getElem?_set_ne (Ne.symm h)]
theorem worse_bits {X : List Nat} {p : Int} {pl : Nat} (h : pl < 10 * X.length) : bitL (worseL X p pl) := fun n hn => by
  have hl : pl < (sentB X p).length := by rw [sentB_len]; exact h
  unfold worseL at hn
  rcases List.mem_or_eq_of_mem_set hn with h1 | h1
  · exact sentB_bits X p n h1
  · have := sentB_bits X p (sentB X p)[pl] (List.getElem_mem hl)
    rw [h1, List.getD_eq_getElem?_getD, List.getElem?_eq_getElem hl]
    show 1 - (sentB X p)[pl] = 0 ∨ 1 - (sentB X p)[pl] = 1
    omega
section
variable {X : List Nat} {p : Int} (his : ∀ n ∈ X, n < 260) (hp : pm p)
include his hp
/-- a run of five in the worse bits: a mark's, or one around the turned bit -/
theorem worse_five {at_ j : Nat} (hj : j < 10) (ha : at_ < X.length) (hna : X[at_]? ≠ some 256) :
    (∀ k, X[k]? = some 256 → st5 none (worseL X p (10 * at_ + j)) (10 * k + 2)) ∧ (∀ s, st5 none (worseL X p (10 * at_ + j)) s → (∃ k, X[k]? = some 256 ∧ s = 10 * k + 2) ∨ (s ≤ 10 * at_ + j ∧ 10 * at_ + j ≤ s + 4)) := by
  refine ⟨fun k hk => ?_, fun s hs => ?_⟩
  · have hka : k ≠ at_ := fun z => hna (by rw [← z]; exact hk)
    obtain ⟨h1, b, h2⟩ := (sent_five his hp).mpr ⟨k, hk, rfl⟩
    refine ⟨?_, b, fun i hi => ?_⟩
    · rw [if_neg (by omega)] at h1 ⊢
      rw [worse_get (by omega), worse_get (by omega)]; exact h1
    · rw [worse_get (by omega)]; exact h2 i hi
  · by_cases hin : s ≤ 10 * at_ + j ∧ 10 * at_ + j ≤ s + 4
    · exact .inr hin
    · obtain ⟨h1, b, h2⟩ := hs
      have h3 : ∀ i, i < 5 → (sentB X p)[s + i]? = some b := fun i hi => by rw [← worse_get (X := X) (p := p) (pl := 10 * at_ + j) (i := s + i) (by omega)]; exact h2 i hi
      refine .inl ((sent_five his hp).mp ⟨?_, b, h3⟩)
      by_cases h0 : s = 0
      · rw [if_pos h0]
        have := h3 0 (by decide)
        rw [Nat.add_zero] at this
        rw [this]; simp
      · rw [if_neg h0]
        intro z
        refine sent_no6 his hp (s := s - 1) (b := b) fun i hi => ?_
        cases i with
        | zero => rw [Nat.add_zero, z]; exact h3 0 (by decide)
        | succ i => rw [show s - 1 + (i + 1) = s + i by omega]; exact h3 i (by omega)
omit his hp
theorem worse_one {at_ j s s' : Nat} (h : st5 none (worseL X p (10 * at_ + j)) s) (h' : st5 none (worseL X p (10 * at_ + j)) s') (hs : s ≤ 10 * at_ + j ∧ 10 * at_ + j ≤ s + 4) (hs' : s' ≤ 10 * at_ + j ∧ 10 * at_ + j ≤ s' + 4) : s = s' := by
  have key : ∀ {s s' : Nat}, st5 none (worseL X p (10 * at_ + j)) s → st5 none (worseL X p (10 * at_ + j)) s' → 10 * at_ + j ≤ s + 4 → s' ≤ 10 * at_ + j → ¬ s < s' := fun {s s'} h h' e1 e2 lt => by
    obtain ⟨_, b, h2⟩ := h
    obtain ⟨h3, _⟩ := h'
    rw [if_neg (by omega)] at h3
    apply h3
    have a1 := h2 (s' - 1 - s) (by omega)
    have a2 := h2 (s' - s) (by omega)
    rw [show s + (s' - 1 - s) = s' - 1 by omega] at a1
    rw [show s + (s' - s) = s' by omega] at a2
    rw [a1, a2]
  have k1 := key h h' hs.2 hs'.1
  have k2 := key h' h hs'.2 hs.1
  omega
include his hp
theorem worse_count {at_ j : Nat} (hj : j < 10) (ha : at_ < X.length) (hna : X[at_]? ≠ some 256) : ((fivesL (worseL X p (10 * at_ + j))).length = (begs X).length ∧ ∀ s, st5 none (worseL X p (10 * at_ + j)) s → ∃ k, X[k]? = some 256 ∧ s = 10 * k + 2) ∨ (fivesL (worseL X p (10 * at_ + j))).length = (begs X).length + 1 := by
  obtain ⟨w1, w2⟩ := worse_five his hp hj ha hna
  have hso := fvF_sorted (runPs (worseL X p (10 * at_ + j))) 0 (runPs_ok _).pos
  have hso : (fivesL (worseL X p (10 * at_ + j))).Pairwise (· < ·) := hso
  have hge : ∀ y ∈ fivesL (worseL X p (10 * at_ + j)), ∃ s : Nat, y = s ∧ st5 none (worseL X p (10 * at_ + j)) s := fun y hy => by
    have h0 : 0 ≤ y := fvF_ge _ _ (runPs_ok _).pos y hy
    obtain ⟨s, rfl⟩ : ∃ s : Nat, y = s := ⟨y.toNat, by omega⟩
    exact ⟨s, rfl, (fives_st5 _ s).mpr hy⟩
  have hmem : ∀ k : Nat, X[k]? = some 256 → (10 * (k : Int) + 2) ∈ fivesL (worseL X p (10 * at_ + j)) := fun k hk => by
    have := (fives_st5 _ _).mp (w1 k hk)
    rw [show ((10 * k + 2 : Nat) : Int) = 10 * (k : Int) + 2 by omega] at this; exact this
  by_cases hx : ∃ s, st5 none (worseL X p (10 * at_ + j)) s ∧ ¬ ∃ k, X[k]? = some 256 ∧ s = 10 * k + 2
  · right
    obtain ⟨s0, hs0, hn0⟩ := hx
    have hin0 := (w2 s0 hs0).resolve_left hn0
    have e1 : (fivesL (worseL X p (10 * at_ + j))).filter (fun y => decide (y ≠ (s0 : Int))) = (begs X).map fun k : Nat => 10 * (k : Int) + 2 := by
      refine sorted_ext _ _ (List.Pairwise.filter _ hso) (begs_sorted X 2) fun y => ?_
      rw [mem_begs his hp, List.mem_filter]
      constructor
      · rintro ⟨hy, hne⟩
        obtain ⟨s, rfl, hs⟩ := hge y hy
        have hne : (s : Int) ≠ s0 := of_decide_eq_true hne
        rcases w2 s hs with ⟨k, hk, e⟩ | hin
        · exact ⟨k, hk, by omega⟩
        · exact absurd (worse_one hs hs0 hin hin0) (by omega)
      · rintro ⟨k, hk, rfl⟩
        refine ⟨hmem k hk, decide_eq_true fun z => hn0 ⟨k, hk, by omega⟩⟩
    have hm0 := (fives_st5 _ s0).mp hs0
    have hnd : (fivesL (worseL X p (10 * at_ + j))).Nodup := List.Pairwise.imp (fun h => by omega) hso
    have e2 := congrArg List.length e1
    rw [List.length_map] at e2
    have e3 := List.length_erase_of_mem hm0
    rw [List.Nodup.erase_eq_filter hnd] at e3
    have e4 : (fivesL (worseL X p (10 * at_ + j))).filter (fun y => y != (s0 : Int)) = (fivesL (worseL X p (10 * at_ + j))).filter (fun y => decide (y ≠ (s0 : Int))) := by
      apply List.filter_congr
      intro y _
      by_cases h : y = (s0 : Int)
      · simp [h]
      · simp [h]
    rw [e4, e2] at e3
    have := List.length_pos_of_mem hm0
    omega
  · left
    have hall : ∀ s, st5 none (worseL X p (10 * at_ + j)) s → ∃ k, X[k]? = some 256 ∧ s = 10 * k + 2 := fun s hs => by
      by_cases h : ∃ k, X[k]? = some 256 ∧ s = 10 * k + 2
      · exact h
      · exact absurd ⟨s, hs, h⟩ hx
    refine ⟨?_, hall⟩
    have e1 : fivesL (worseL X p (10 * at_ + j)) = (begs X).map fun k : Nat => 10 * (k : Int) + 2 := by
      refine sorted_ext _ _ hso (begs_sorted X 2) fun y => ?_
      rw [mem_begs his hp]
      constructor
      · intro hy
        obtain ⟨s, rfl, hs⟩ := hge y hy
        obtain ⟨k, hk, e⟩ := hall s hs
        exact ⟨k, hk, by omega⟩
      · rintro ⟨k, hk, rfl⟩
        exact hmem k hk
    rw [e1, List.length_map]
end
/-- a sign has a run of five -/
theorem sg_five {W : List Int} {i : Nat} (hi : i ≤ W.length) (h : sg (W.take i) = true) : 7 ≤ i ∧ st5 none W (i - 5) := by
  have hl : (last7 (W.take i)).length = 7 := sg_len h
  have hi7 : 7 ≤ i := by
    unfold last7 at hl
    rw [List.length_drop, List.length_take] at hl; omega
  have hg : ∀ m, m < 7 → W[i - 7 + m]? = (last7 (W.take i))[m]? := fun m hm => by
    unfold last7
    rw [List.getElem?_drop, List.length_take, show min i W.length - 7 + m = i - 7 + m by omega, List.getElem?_take_of_lt (by omega)]
  refine ⟨hi7, ?_⟩
  unfold sg sign at h
  rcases Bool.or_eq_true_iff.mp h with h | h
  all_goals
    have e := of_decide_eq_true h
    rw [e] at hg
    have g1 := hg 1 (by decide)
    have g2 := hg 2 (by decide)
    rw [show i - 7 + 1 = i - 5 - 1 by omega] at g1
    rw [show i - 7 + 2 = i - 5 by omega] at g2
    refine ⟨by rw [if_neg (by omega), g1, g2]; decide, ?_⟩
  · refine ⟨1, fun j hj => ?_⟩
    rw [show i - 5 + j = i - 7 + (2 + j) by omega, hg (2 + j) (by omega)]
    have : ∀ j, j < 5 → ([0, 0, 1, 1, 1, 1, 1] : List Int)[2 + j]? = some 1 := by decide
    exact this j hj
  · refine ⟨0, fun j hj => ?_⟩
    rw [show i - 5 + j = i - 7 + (2 + j) by omega, hg (2 + j) (by omega)]
    have : ∀ j, j < 5 → ([1, 1, 0, 0, 0, 0, 0] : List Int)[2 + j]? = some 0 := by decide
    exact this j hj
/-- a word, whatever it is, with no sign in it -/
theorem word_any {h w : List Int} {o : Option Int} (hl : w.length = 10) (ns : ∀ i, 1 ≤ i → i ≤ 10 → sg (h ++ w.take i) = false) : runR ⟨last7 h, some [], o⟩ w = ((judge o (wordOf w)).1, ⟨last7 (h ++ w), if (judge o (wordOf w)).2.1 then some [] else none, (judge o (wordOf w)).2.2⟩) := by
  obtain ⟨x, hx⟩ := split9 hl
  have l9 : (w.take 9).length = 9 := by rw [List.length_take]; omega
  have q := run_quiet (bs := w.take 9) (h := h) (ps := []) (o := o) (by rw [l9]; decide) (fun i i1 i2 z => by
    rw [l9] at i2
    rw [List.take_take, show min i 9 = i by omega, ns i i1 (by omega)] at z; cases z)
  rw [List.nil_append] at q
  have s9 : sg (h ++ w.take 9 ++ [x]) = false := by
    rw [List.append_assoc, ← hx]
    have := ns 10 (by decide) (by decide)
    rwa [List.take_of_length_le (by omega)] at this
  have e : runR ⟨last7 h, some [], o⟩ (w.take 9 ++ [x]) = _ := runR_app (w.take 9) [x] _
  rw [← hx] at e
  rw [e, q, runR_one]
  dsimp only
  rw [step_word l9 s9, ← hx]
  simp [← hx]
/-! which words arise -/
theorem even_sums : ∀ h ∈ tE, (ten h).sum = 5 := by decide +kernel
theorem itemAt_sum {w : Int} {n : Nat} {d : Int} (e : itemAt w = some (n, d)) : 2 * (ten w).sum = 10 + d ∧ (n = 256 → w = 250 ∨ w = 773) := by
  have p256 : ∀ h, pairI h = some 256 → h = 250 := fun h e => by
    unfold pairI at e
    by_cases e2 : h = 250
    · exact e2
    · rw [if_neg e2] at e
      cases e3 : tH.idxOf? h with
      | none => rw [e3] at e; cases e
      | some k =>
        rw [e3] at e
        dsimp only at e
        split at e
        · injection e with e; omega
        · split at e
          · injection e with e; omega
          · cases e
  unfold itemAt at e
  cases e1 : tE.idxOf? w with
  | some k =>
    rw [e1] at e
    injection e with e
    injection e with e2 e3
    subst e2 e3
    have hm := idxOf?_mem e1
    have := even_sums w hm
    refine ⟨by omega, fun z => ?_⟩
    obtain ⟨k', hk', hl⟩ := idxOf?_some hm
    rw [e1] at hk'
    cases hk'
    have hl : k < 180 := hl
    omega
  | none =>
    rw [e1] at e
    dsimp only at e
    cases e2 : pairI w with
    | some m =>
      rw [e2] at e
      injection e with e
      injection e with e3 e4
      subst e3 e4
      have := (pairI_sum e2).1
      exact ⟨by omega, fun z => .inl (p256 w (by rw [e2, z]))⟩
    | none =>
      rw [e2] at e
      dsimp only at e
      cases e3 : pairI (1023 - w) with
      | some m =>
        rw [e3] at e
        injection e with e
        injection e with e4 e5
        subst e4 e5
        have := (pairI_sum e3).2
        rw [show 1023 - (1023 - w) = w by omega] at this
        exact ⟨by omega, fun z => .inr (by have := p256 _ (by rw [e3, z]); omega)⟩
      | none => rw [e3] at e; cases e
theorem itemAt_zero {w : Int} {n : Nat} (e : itemAt w = some (n, 0)) : n < 180 := by
  unfold itemAt at e
  cases e1 : tE.idxOf? w with
  | some k =>
    rw [e1] at e
    injection e with e
    injection e with e2 e3
    subst e2
    obtain ⟨k', hk', hl⟩ := idxOf?_some (idxOf?_mem e1)
    rw [e1] at hk'
    cases hk'
    exact hl
  | none =>
    rw [e1] at e
    dsimp only at e
    cases e2 : pairI w with
    | some m =>
      rw [e2] at e
      injection e with e
      injection e with e3 e4
      cases e4
    | none =>
      rw [e2] at e
      dsimp only at e
      cases e3 : pairI (1023 - w) with
      | some m =>
        rw [e3] at e
        injection e with e
        injection e with e4 e5
        cases e5
      | none => rw [e3] at e; cases e
theorem turn_sum {l : List Int} {j : Nat} (h : bitL l) (hj : j < l.length) : (turnL l j).sum = l.sum + 1 ∨ (turnL l j).sum = l.sum - 1 := by
  have hb := h l[j] (List.getElem_mem hj)
  have e : l = l.take j ++ [l[j]] ++ l.drop (j + 1) := by
    rw [List.append_assoc, List.singleton_append, ← List.drop_eq_getElem_cons hj, List.take_append_drop]
  have e2 : l.sum = (l.take j).sum + l[j] + (l.drop (j + 1)).sum := by
    conv => lhs; rw [e]
    rw [List.sum_append, List.sum_append]; simp
  unfold turnL
  rw [List.sum_append, List.sum_append, List.getD_eq_getElem?_getD, List.getElem?_eq_getElem hj, e2]
  simp only [Option.getD_some, List.sum_cons, List.sum_nil]
  omega
theorem turn_bits {l : List Int} {j : Nat} (h : bitL l) (hj : j < l.length) : bitL (turnL l j) := fun n hn => by
  have hb := h l[j] (List.getElem_mem hj)
  unfold turnL at hn
  rcases List.mem_append.mp hn with hn | hn
  · rcases List.mem_append.mp hn with hn | hn
    · exact h n (List.mem_of_mem_take hn)
    · rw [List.mem_singleton.mp hn, List.getD_eq_getElem?_getD, List.getElem?_eq_getElem hj]
      show 1 - l[j] = 0 ∨ 1 - l[j] = 1
      omega
  · exact h n (List.mem_of_mem_drop hn)
theorem turn_len {l : List Int} {j : Nat} (hj : j < l.length) : (turnL l j).length = l.length := by
  unfold turnL
  rw [List.length_append, List.length_append, List.length_take, List.length_drop]
  simp only [List.length_cons, List.length_nil]; omega
/-- a turned word, heard at the poise: lost at once, or the poise is the other one behind it -/
theorem judge_turned {n j : Nat} {p : Int} (hn : n < 260) (hp : pm p) (hj : j < 10) (h1 : wordOf (turnL (ten (putW n p)) j) ≠ 250) (h2 : wordOf (turnL (ten (putW n p)) j) ≠ 773) :
    judge (some p) (wordOf (turnL (ten (putW n p)) j)) = ([260], false, none) ∨ ∃ m, m < 260 ∧ m ≠ 256 ∧ (180 ≤ n → m < 180) ∧ judge (some p) (wordOf (turnL (ten (putW n p)) j)) = ([m], true, some (0 - putP n p)) := by
  have hjl : j < (ten (putW n p)).length := by rw [ten_len]; exact hj
  have hb := turn_bits (ten_bits (putW n p)) hjl
  have hl : (turnL (ten (putW n p)) j).length = 10 := by rw [turn_len hjl, ten_len]
  have hs := turn_sum (ten_bits (putW n p)) hjl
  have ht := ten_wordOf hb hl
  have s0 := (itemAt_sum (itemAt_putP hn hp)).1
  have hpp := putP_pm (n := n) hp
  generalize wordOf (turnL (ten (putW n p)) j) = w at h1 h2 ht ⊢
  rw [← ht] at hs
  unfold judge
  rw [if_neg (by omega)]
  dsimp only
  cases e : itemAt w with
  | none => exact .inl rfl
  | some x =>
    obtain ⟨m, d⟩ := x
    obtain ⟨s1, m1⟩ := itemAt_sum e
    dsimp only
    by_cases hr : -1 ≤ p + d ∧ p + d ≤ 1
    · rw [if_pos hr]
      have hpd : p + d = 0 - putP n p := by
        rcases hp with e | e <;> rcases hpp with e' | e' <;> omega
      refine .inr ⟨m, itemAt_lt e, fun z => ?_, fun hn => ?_, by rw [hpd]⟩
      · rcases m1 z with e | e
        · exact h1 e
        · exact h2 e
      · rw [putP_h (by omega)] at hpd
        exact itemAt_zero (by rw [e, show d = 0 by omega])
    · rw [if_neg hr]; exact .inl rfl
theorem judge_even {n : Nat} {p q : Int} (hn : n < 180) (hq : pm q) : judge (some q) (putW n p) = ([n], true, some q) := by
  have := judge_item (n := n) (p := q) (by omega) hq
  rwa [putW_e hn, ← putW_e (p := p) hn, putP_e hn] at this
theorem putW_mark {n : Nat} {p : Int} (hn : n < 260) (hb : n ≠ 256) (hp : pm p) : putW n p ≠ 250 ∧ putW n p ≠ 773 := by
  have h250 : putW 256 (-1) = 250 := by decide
  have h773 : putW 256 1 = 773 := by decide
  refine ⟨fun z => ?_, fun z => ?_⟩
  · exact hb (putW_inj (n := 256) (m := n) (by decide) hn (.inr rfl) hp (by rw [z, h250])).1
  · exact hb (putW_inj (n := 256) (m := n) (by decide) hn (.inl rfl) hp (by rw [z, h773])).1
theorem judge_pair {n : Nat} {q : Int} (h1 : 180 ≤ n) (hn : n < 260) (hb : n ≠ 256) (hq : pm q) : judge (some q) (putW n (0 - q)) = ([260], false, none) := by
  have hq' : pm (0 - q) := by
    rcases hq with e | e <;> subst e
    · exact .inr rfl
    · exact .inl rfl
  obtain ⟨e1, e2⟩ := putW_mark hn hb hq'
  unfold judge
  rw [if_neg (by omega), itemAt_putP hn hq', putP_h (by omega)]
  dsimp only
  rw [if_neg (by rcases hq with e | e <;> subst e <;> omega)]
theorem even_run : ∀ {Y : List Nat} {h : List Int} {p q : Int}, (∀ n ∈ Y, n < 180) → pm q → (∀ i, 1 ≤ i → i ≤ 10 * Y.length → sg (h ++ (sentB Y p).take i) = false) → runR ⟨last7 h, some [], some q⟩ (sentB Y p) = (Y, ⟨last7 (h ++ sentB Y p), some [], some q⟩) ∧ sentP Y p = p
  | [], h, p, q, _, _, _ => ⟨by show (_, _) = _; rw [show sentB [] p = [] from rfl, List.append_nil], rfl⟩
  | n :: r, h, p, q, hY, hq, ns => by
    have hn := hY n List.mem_cons_self
    have e : sentB (n :: r) p = ten (putW n p) ++ sentB r (putP n p) := rfl
    rw [putP_e hn] at e
    have hl := ten_len (putW n p)
    have a1 := word_any (h := h) (w := ten (putW n p)) (o := some q) hl fun i i1 i2 => by
      have := ns i i1 (by rw [List.length_cons]; omega)
      rwa [e, List.take_append_of_le_length (by omega)] at this
    rw [word_item (p := p) (by omega), judge_even hn hq] at a1
    obtain ⟨a2, a3⟩ := even_run (Y := r) (h := h ++ ten (putW n p)) (p := p) (q := q) (fun m hm => hY m (List.mem_cons_of_mem _ hm)) hq fun i i1 i2 => by
      have := ns (10 + i) (by omega) (by rw [List.length_cons]; omega)
      rw [e, List.take_append, hl, List.take_of_length_le (by omega), show 10 + i - 10 = i by omega, ← List.append_assoc] at this; exact this
    refine ⟨?_, by show sentP r (putP n p) = p; rw [putP_e hn]; exact a3⟩
    rw [e, runR_app, a1]
    dsimp only
    rw [if_pos rfl, a2, List.append_assoc]
    rfl
/-- the other poise is told at the next pair -/
theorem lost_run {Y : List Nat} {n : Nat} {h : List Int} {q : Int} (hY : ∀ m ∈ Y, m < 180) (h1 : 180 ≤ n) (hn : n < 260) (hb : n ≠ 256) (hq : pm q) (ns : ∀ i, 1 ≤ i → i ≤ 10 * (Y.length + 1) → sg (h ++ (sentB (Y ++ [n]) (0 - q)).take i) = false) :
    ∃ l, runR ⟨last7 h, some [], some q⟩ (sentB (Y ++ [n]) (0 - q)) = (Y ++ [260], ⟨l, none, none⟩) := by
  have hl := sentB_len Y (0 - q)
  have hs : sentB (Y ++ [n]) (0 - q) = sentB Y (0 - q) ++ (ten (putW n (sentP Y (0 - q))) ++ []) := sentB_app Y [n] (0 - q)
  rw [List.append_nil] at hs
  obtain ⟨a1, a2⟩ := even_run (Y := Y) (h := h) (p := 0 - q) (q := q) hY hq fun i i1 i2 => by
    have := ns i i1 (by omega)
    rwa [hs, List.take_append_of_le_length (by omega)] at this
  rw [a2] at hs
  have a3 := word_any (h := h ++ sentB Y (0 - q)) (w := ten (putW n (0 - q))) (o := some q) (ten_len _) fun i i1 i2 => by
    have := ns (10 * Y.length + i) (by omega) (by omega)
    rw [hs, List.take_append, hl, List.take_of_length_le (by omega), show 10 * Y.length + i - 10 * Y.length = i by omega, ← List.append_assoc] at this; exact this
  rw [word_item hn, judge_pair h1 hn hb hq] at a3
  refine ⟨last7 (h ++ sentB Y (0 - q) ++ ten (putW n (0 - q))), ?_⟩
  rw [hs, runR_app, a1]
  dsimp only
  rw [a3]; rfl

-- needs: align2
/-! begun to be heard anywhere -/
def dueL (Y : List Nat) : List Nat := Y.dropWhile fun n => decide (n ≠ 256)
theorem dueL_nil : dueL [] = [] := rfl
theorem dueL_cons (n : Nat) (r : List Nat) : dueL (n :: r) = if n = 256 then n :: r else dueL r := by
  unfold dueL
  rw [List.dropWhile_cons]
  by_cases h : n = 256
  · subst h; simp
  · simp [h]
theorem dueL_snoc (x : Nat) : ∀ Y : List Nat, dueL (Y ++ [x]) = if dueL Y = [] then (if x = 256 then [x] else []) else dueL Y ++ [x]
  | [] => by
    rw [List.nil_append, dueL_cons, dueL_nil, if_pos rfl]
  | n :: r => by
    rw [List.cons_append, dueL_cons, dueL_cons, dueL_snoc x r]
    by_cases h : n = 256
    · rw [if_pos h, if_pos h, if_neg (by simp)]; rfl
    · rw [if_neg h, if_neg h]
theorem out_run : ∀ {Y : List Nat} {h : List Int} {p : Int}, tail3 h → (∀ n ∈ Y, n < 260) → pm p → (runR ⟨last7 h, none, none⟩ (sentB Y p)).1 = dueL Y ∧ (runR ⟨last7 h, none, none⟩ (sentB Y p)).2.part.isSome = !decide (dueL Y = [])
  | [], h, p, _, _, _ => ⟨rfl, rfl⟩
  | n :: r, h, p, ht, hi, hp => by
    have hn := hi n List.mem_cons_self
    have hr : ∀ m ∈ r, m < 260 := fun m hm => hi m (List.mem_cons_of_mem _ hm)
    have e : sentB (n :: r) p = ten (putW n p) ++ sentB r (putP n p) := rfl
    rw [e, runR_app, dueL_cons]
    by_cases hb : n = 256
    · subst hb
      rw [if_pos rfl, mark_out ht hp]
      dsimp only
      rw [(items_run (is := r) (tail3_word (ok_item hn hp)) hr (putP_pm (n := 256) hp)).1]
      exact ⟨rfl, by simp⟩
    · rw [if_neg hb, word_none ht hn hb hp]
      exact out_run (Y := r) (tail3_word (ok_item hn hp)) hr (putP_pm (n := n) hp)
theorem cut_none {w : List Int} (hw : okW w = true) (hl : w.length = 10) {r : Nat} (hr : 1 ≤ r) : runR ⟨last7 [], none, none⟩ (w.drop r) = ([], ⟨last7 (w.drop r), none, none⟩) := by
  have := run_none (bs := w.drop r) (h := []) (o := none) (fun i i1 i2 => by
    rw [List.length_drop, hl] at i2
    rw [List.nil_append]
    by_cases h7 : i < 7
    · cases q : sg ((w.drop r).take i) with
      | false => rfl
      | true =>
        have := sg_len q
        rw [last7_self (by rw [List.length_take, List.length_drop]; omega), List.length_take, List.length_drop] at this
        omega
    · have h1 := word_hi (h := []) hw hl (i := r + i) (by omega) (by omega)
      rw [List.nil_append, List.take_add] at h1
      unfold sg at h1 ⊢
      rw [last7_app (by rw [List.length_take, List.length_drop]; omega)] at h1
      exact h1)
  rw [List.nil_append] at this
  exact this
theorem tail3_cut {w : List Int} (hw : okW w = true) (r : Nat) : tail3 (w.drop r) := fun g x y z e => by
  refine tail3_word (h := []) hw (w.take r ++ g) x y z ?_
  rw [List.nil_append, List.append_assoc, ← e, List.take_append_drop]
theorem sentB_drop {X : List Nat} {p : Int} {q : Nat} (hq : q ≤ X.length) : (sentB X p).drop (10 * q) = sentB (X.drop q) (sentP (X.take q) p) := by
  have e : sentB X p = sentB (X.take q) p ++ sentB (X.drop q) (sentP (X.take q) p) := by rw [← sentB_app, List.take_append_drop]
  rw [e, List.drop_append_of_le_length (by rw [sentB_len, List.length_take]; omega), List.drop_of_length_le (by rw [sentB_len, List.length_take]; omega), List.nil_append]
/-- THE RUN from the bit at on -/
theorem run_from {X : List Nat} {p : Int} {at_ : Nat} (hi : ∀ n ∈ X, n < 260) (hp : pm p) (ha : at_ ≤ 10 * X.length) :
    (runR ⟨[], none, none⟩ ((sentB X p).drop at_)).1 = dueL (X.drop ((at_ + 9) / 10)) ∧ (runR ⟨[], none, none⟩ ((sentB X p).drop at_)).2.part.isSome = !decide (dueL (X.drop ((at_ + 9) / 10)) = []) := by
  have e0 : (⟨[], none, none⟩ : RS) = ⟨last7 [], none, none⟩ := rfl
  rw [e0]
  obtain ⟨q, r, hr, rfl⟩ : ∃ q r, r < 10 ∧ at_ = 10 * q + r := ⟨at_ / 10, at_ % 10, by omega, by omega⟩
  have hq : q ≤ X.length := by omega
  have hd : ∀ n ∈ X.drop q, n < 260 := fun n hn => hi n (List.mem_of_mem_drop hn)
  have hpq := sentP_pm (X.take q) hp
  by_cases h0 : r = 0
  · subst h0
    rw [Nat.add_zero, show (10 * q + 9) / 10 = q by omega, sentB_drop hq]
    exact out_run tail3_nil hd hpq
  · have hq2 : q < X.length := by omega
    rw [show (10 * q + r + 9) / 10 = q + 1 by omega, ← List.drop_drop, sentB_drop hq]
    generalize sentP (X.take q) p = p2 at hpq ⊢
    have e2 : X.drop q = X[q] :: X.drop (q + 1) := List.drop_eq_getElem_cons hq2
    rw [e2] at hd ⊢
    generalize X[q] = n at hd ⊢
    have hn := hd n List.mem_cons_self
    have hw := ok_item hn hpq
    have e3 : sentB (n :: X.drop (q + 1)) p2 = ten (putW n p2) ++ sentB (X.drop (q + 1)) (putP n p2) := rfl
    rw [e3, List.drop_append_of_le_length (by rw [ten_len]; omega), runR_app, cut_none hw (ten_len _) (by omega)]
    exact out_run (tail3_cut hw r) (fun m hm => hd m (List.mem_cons_of_mem _ hm)) (putP_pm (n := n) hpq)

-- needs: turn20 align3
theorem sentB_take {X : List Nat} {p : Int} {q : Nat} (hq : q ≤ X.length) : (sentB X p).take (10 * q) = sentB (X.take q) p := by
  conv => lhs; rw [← List.take_append_drop q X]
  rw [sentB_app, List.take_append_of_le_length (by rw [sentB_len, List.length_take]; omega), List.take_of_length_le (by rw [sentB_len, List.length_take]; omega)]
theorem worse_split {X : List Nat} {p : Int} {at_ j n : Nat} (hj : j < 10) (hn : X[at_]? = some n) : worseL X p (10 * at_ + j) = sentB (X.take at_) p ++ (turnL (ten (putW n (sentP (X.take at_) p))) j ++ sentB (X.drop (at_ + 1)) (putP n (sentP (X.take at_) p))) := by
  obtain ⟨ha, hn'⟩ := List.getElem?_eq_some_iff.mp hn
  have eX : X = X.take at_ ++ (n :: X.drop (at_ + 1)) := by
    rw [← hn', ← List.drop_eq_getElem_cons ha, List.take_append_drop]
  have e1 : sentB X p = sentB (X.take at_) p ++ (ten (putW n (sentP (X.take at_) p)) ++ sentB (X.drop (at_ + 1)) (putP n (sentP (X.take at_) p))) := by
    conv => lhs; rw [eX]
    rw [sentB_app]; rfl
  have l1 : (sentB (X.take at_) p).length = 10 * at_ := by rw [sentB_len, List.length_take]; omega
  unfold worseL
  rw [e1]
  have l2 := ten_len (putW n (sentP (X.take at_) p))
  have g : (sentB (X.take at_) p ++ (ten (putW n (sentP (X.take at_) p)) ++ sentB (X.drop (at_ + 1)) (putP n (sentP (X.take at_) p)))).getD (10 * at_ + j) 0 = (ten (putW n (sentP (X.take at_) p))).getD j 0 := by
    rw [List.getD_eq_getElem?_getD, List.getD_eq_getElem?_getD, List.getElem?_append_right (by omega), l1, List.getElem?_append_left (by omega), show 10 * at_ + j - 10 * at_ = j by omega]
  rw [g, List.set_append_right _ _ (by omega), l1, List.set_append_left _ _ (by omega), show 10 * at_ + j - 10 * at_ = j by omega, turnL_set (by omega)]
/-- the mark first, then items -/
theorem begun_run {Y : List Nat} {p : Int} (hY : ∀ n ∈ Y, n < 260) (hp : pm p) : runR ⟨[], none, none⟩ (sentB (256 :: Y) p) = (256 :: Y, ⟨last7 (sentB (256 :: Y) p), some [], some (sentP (256 :: Y) p)⟩) := by
  have e1 := mark_out (h := []) tail3_nil hp
  rw [List.nil_append] at e1
  have ht := tail3_word (h := []) (ok_item (n := 256) (by decide) hp)
  rw [List.nil_append] at ht
  obtain ⟨e2, _⟩ := items_run (is := Y) ht hY (putP_pm (n := 256) hp)
  show runR ⟨last7 [], none, none⟩ (ten (putW 256 p) ++ sentB Y (putP 256 p)) = _
  rw [runR_app, e1]
  dsimp only
  rw [e2]; rfl
/-- what is told from the turned word on, to the next pair -/
theorem turned_told {X : List Nat} {p : Int} {at_ j n m : Nat} {Y : List Nat} (his : ∀ n ∈ X, n < 260) (hp : pm p) (hj : j < 10) (hn : X[at_]? = some n) (hnb : n ≠ 256) (hY : ∀ x ∈ Y, x < 180) (hm1 : 180 ≤ m) (hm2 : m ≠ 256) (hpre : ∃ Z, X.drop (at_ + 1) = Y ++ m :: Z)
    (hall : ∀ s, st5 none (worseL X p (10 * at_ + j)) s → ∃ k, X[k]? = some 256 ∧ s = 10 * k + 2) (hafter : ∀ k, X[k]? = some 256 → k < at_ ∨ at_ + 1 + Y.length < k) :
    ∃ told l, runR ⟨last7 (sentB (X.take at_) p), some [], some (sentP (X.take at_) p)⟩ (turnL (ten (putW n (sentP (X.take at_) p))) j ++ sentB (Y ++ [m]) (putP n (sentP (X.take at_) p))) = (told ++ [260], ⟨l, none, none⟩) ∧ (∀ x ∈ told, x < 260 ∧ x ≠ 256) ∧ told.length ≤ Y.length + 1 ∧ (told = [] ∨ ∃ x, told = x :: Y ∧ x < 260 ∧ x ≠ 256 ∧ (180 ≤ n → x < 180)) := by
  obtain ⟨ha, hn'⟩ := List.getElem?_eq_some_iff.mp hn
  obtain ⟨Z, hZ⟩ := hpre
  have hsp := worse_split (p := p) hj hn
  have l1 : (sentB (X.take at_) p).length = 10 * at_ := by rw [sentB_len, List.length_take]; omega
  have hq : pm (sentP (X.take at_) p) := sentP_pm _ hp
  have hnn := his n (List.mem_of_getElem? hn)
  have hm3 : m < 260 := his m (List.mem_of_mem_drop (i := at_ + 1) (by rw [hZ]; simp))
  have hXl : at_ + 1 + Y.length + 1 ≤ X.length := by
    have := congrArg List.length hZ
    rw [List.length_drop, List.length_append, List.length_cons] at this; omega
  generalize hqq : sentP (X.take at_) p = q at hsp hq ⊢
  generalize hh : sentB (X.take at_) p = h at hsp l1 ⊢
  have hpp := putP_pm (n := n) hq
  have hjl : j < (ten (putW n q)).length := by rw [ten_len]; exact hj
  have lt : (turnL (ten (putW n q)) j).length = 10 := by rw [turn_len hjl, ten_len]
  have hb := turn_bits (ten_bits (putW n q)) hjl
  rw [hZ, show Y ++ m :: Z = (Y ++ [m]) ++ Z by simp, sentB_app] at hsp
  have l3 : (sentB (Y ++ [m]) (putP n q)).length = 10 * (Y.length + 1) := by rw [sentB_len, List.length_append]; rfl
  -- no sign
  have ns : ∀ i, 1 ≤ i → i ≤ 10 * (Y.length + 2) → sg (h ++ (turnL (ten (putW n q)) j ++ sentB (Y ++ [m]) (putP n q)).take i) = false := fun i i1 i2 => by
    cases e : sg (h ++ (turnL (ten (putW n q)) j ++ sentB (Y ++ [m]) (putP n q)).take i) with
    | false => rfl
    | true =>
      exfalso
      have e2 : h ++ (turnL (ten (putW n q)) j ++ sentB (Y ++ [m]) (putP n q)).take i = (worseL X p (10 * at_ + j)).take (10 * at_ + i) := by
        rw [hsp]
        conv => rhs; rw [List.take_append, l1, List.take_of_length_le (by omega), show 10 * at_ + i - 10 * at_ = i by omega]
        congr 1
        conv => rhs; rw [← List.append_assoc, List.take_append_of_le_length (by rw [List.length_append, lt, l3]; omega)]
      rw [e2] at e
      obtain ⟨f1, f2⟩ := sg_five (by rw [worse_len]; omega) e
      obtain ⟨k, hk, ek⟩ := hall _ f2
      have := hafter k hk
      omega
  have nw : ∀ c : Int, (c = 250 ∨ c = 773) → wordOf (turnL (ten (putW n q)) j) ≠ c := fun c hc z => by
    have ht := ten_wordOf hb lt
    rw [z] at ht
    have hg : ∀ i, i < 10 → (worseL X p (10 * at_ + j))[10 * at_ + i]? = (ten c)[i]? := fun i hi => by
      rw [hsp, List.getElem?_append_right (by omega), l1, show 10 * at_ + i - 10 * at_ = i by omega, List.getElem?_append_left (by rw [lt]; exact hi), ht]
    have : st5 none (worseL X p (10 * at_ + j)) (10 * at_ + 2) := by
      unfold st5
      rw [if_neg (by omega), show 10 * at_ + 2 - 1 = 10 * at_ + 1 by omega, hg 1 (by decide), hg 2 (by decide)]
      rcases hc with e | e <;> subst e
      · refine ⟨by decide, 1, fun i hi => ?_⟩
        rw [show 10 * at_ + 2 + i = 10 * at_ + (2 + i) by omega, hg (2 + i) (by omega)]
        have : ∀ i, i < 5 → (ten 250)[2 + i]? = some 1 := by decide
        exact this i hi
      · refine ⟨by decide, 0, fun i hi => ?_⟩
        rw [show 10 * at_ + 2 + i = 10 * at_ + (2 + i) by omega, hg (2 + i) (by omega)]
        have : ∀ i, i < 5 → (ten 773)[2 + i]? = some 0 := by decide
        exact this i hi
    obtain ⟨k, hk, ek⟩ := hall _ this
    have : k = at_ := by omega
    rw [this, hn] at hk
    injection hk with hk
    exact hnb hk
  have a1 := word_any (h := h) (w := turnL (ten (putW n q)) j) (o := some q) lt fun i i1 i2 => by
    have := ns i i1 (by omega)
    rwa [List.take_append_of_le_length (by omega)] at this
  have ns2 : ∀ i, 1 ≤ i → i ≤ 10 * (Y.length + 1) → sg (h ++ turnL (ten (putW n q)) j ++ (sentB (Y ++ [m]) (putP n q)).take i) = false := fun i i1 i2 => by
    have := ns (10 + i) (by omega) (by omega)
    rwa [List.take_append, lt, List.take_of_length_le (by omega), show 10 + i - 10 = i by omega, ← List.append_assoc] at this
  rcases judge_turned hnn hq hj (nw 250 (.inl rfl)) (nw 773 (.inr rfl)) with e | ⟨x, hx1, hx2, hx3, e⟩
  · rw [e] at a1
    have a2 := run_none (bs := sentB (Y ++ [m]) (putP n q)) (h := h ++ turnL (ten (putW n q)) j) (o := none) fun i i1 i2 => ns2 i i1 (by rw [l3] at i2; exact i2)
    refine ⟨[], last7 (h ++ turnL (ten (putW n q)) j ++ sentB (Y ++ [m]) (putP n q)), ?_, (fun _ h => nomatch h), by simp, .inl rfl⟩
    rw [runR_app, a1]
    show ([260] ++ (runR ⟨last7 (h ++ turnL (ten (putW n q)) j), none, none⟩ (sentB (Y ++ [m]) (putP n q))).1, (runR ⟨last7 (h ++ turnL (ten (putW n q)) j), none, none⟩ (sentB (Y ++ [m]) (putP n q))).2) = _
    rw [a2]; rfl
  · rw [e] at a1
    have hz : pm (0 - putP n q) := by
      rcases hpp with e | e <;> rw [e]
      · exact .inr rfl
      · exact .inl rfl
    have ez : 0 - (0 - putP n q) = putP n q := by omega
    obtain ⟨l, a2⟩ := lost_run (h := h ++ turnL (ten (putW n q)) j) (q := 0 - putP n q) hY hm1 hm3 hm2 hz (by rw [ez]; exact ns2)
    rw [ez] at a2
    refine ⟨x :: Y, l, ?_, fun y hy => ?_, by simp, .inr ⟨x, rfl, hx1, hx2, hx3⟩⟩
    · rw [runR_app, a1]
      show ([x] ++ (runR ⟨last7 (h ++ turnL (ten (putW n q)) j), some [], some (0 - putP n q)⟩ (sentB (Y ++ [m]) (putP n q))).1, (runR ⟨last7 (h ++ turnL (ten (putW n q)) j), some [], some (0 - putP n q)⟩ (sentB (Y ++ [m]) (putP n q))).2) = _
      rw [a2]; rfl
    · rcases List.mem_cons.mp hy with rfl | hy
      · exact ⟨hx1, hx2⟩
      · have := hY y hy; omega

-- needs: turn20b ears frameit
theorem runT_gapN {g : List Nat} (hg : ∀ n ∈ g, n = 258 ∨ n = 259) : runT none g = ([], none) := by
  induction g with
  | nil => rfl
  | cons n r ih =>
    have hn := hg n List.mem_cons_self
    show ((tookT none n).1 ++ (runT (tookT none n).2 r).1, (runT (tookT none n).2 r).2) = _
    rw [show tookT none n = ([], none) by unfold tookT tookB; rw [if_neg (by omega)], ih fun m hm => hg m (List.mem_cons_of_mem _ hm)]; rfl
theorem runT_frameN {row : List Int} (hb : byteL row) (hl : row.length ≤ 64) : runT none (frameI row) = ([some row], none) := by
  obtain ⟨hm1, hm2⟩ := midL_ok hb hl
  rw [frameI_mid]
  have e1 : runT none (256 :: (midL row).map Int.toNat) = ([], some (midL row)) := by
    show ((tookT none 256).1 ++ (runT (tookT none 256).2 ((midL row).map Int.toNat)).1, (runT (tookT none 256).2 ((midL row).map Int.toNat)).2) = _
    rw [show tookT none 256 = ([], some []) from rfl, runT_bytes hm1 (by simpa using hm2)]; rfl
  rw [runT_app, e1]
  show ([] ++ ((tookT (some (midL row)) 257).1 ++ []), (tookT (some (midL row)) 257).2) = _
  rw [took_end hl]; simp
theorem runT_dueN : ∀ (l : List Nat), runT none (dueL l) = runT none l
  | [] => rfl
  | n :: r => by
    rw [dueL_cons]
    split
    · rfl
    · rename_i h
      rw [runT_dueN r]
      show _ = ((tookT none n).1 ++ (runT (tookT none n).2 r).1, (runT (tookT none n).2 r).2)
      rw [show tookT none n = ([], none) by unfold tookT tookB; rw [if_neg h]]; rfl
/-- what a taker within a frame makes of a turned word, evens, lost -/
theorem took_turned {l : List Int} {told : List Nat} (hl : byteL l) (hlen : l.length + told.length ≤ 66) (ht : told = [] ∨ ∃ x Y, told = x :: Y ∧ x < 260 ∧ x ≠ 256 ∧ (∀ y ∈ Y, y < 180) ∧ (x = 257 → withinL l = none)) : runT (some l) (told ++ [260]) = ([none], none) := by
  have lost : ∀ l : List Int, runT (some l) [260] = ([none], none) := fun l => rfl
  have outl : ∀ Y : List Nat, (∀ y ∈ Y, y < 180) → runT none (Y ++ [260]) = ([], none) := by
    intro Y
    induction Y with
    | nil => exact fun _ => rfl
    | cons y Y ih =>
      intro h
      have hy := h y List.mem_cons_self
      show ((tookT none y).1 ++ (runT (tookT none y).2 (Y ++ [260])).1, (runT (tookT none y).2 (Y ++ [260])).2) = _
      rw [show tookT none y = ([], none) by unfold tookT tookB; rw [if_neg (by omega)], ih fun m hm => h m (List.mem_cons_of_mem _ hm)]; rfl
  have evs : ∀ (Y : List Nat) (l : List Int), (∀ y ∈ Y, y < 256) → l.length + Y.length ≤ 66 → runT (some l) (Y ++ [260]) = ([none], none) := by
    intro Y
    induction Y with
    | nil => exact fun l _ _ => rfl
    | cons y Y ih =>
      intro l h hl
      rw [List.length_cons] at hl
      have hy := h y List.mem_cons_self
      show ((tookT (some l) y).1 ++ (runT (tookT (some l) y).2 (Y ++ [260])).1, (runT (tookT (some l) y).2 (Y ++ [260])).2) = _
      rw [show tookT (some l) y = ([], some (l ++ [(y : Int)])) by
        unfold tookT tookB
        rw [if_neg (by omega)]
        dsimp only
        rw [if_neg (by omega), if_pos ⟨hy, by omega⟩], ih _ (fun m hm => h m (List.mem_cons_of_mem _ hm)) (by rw [List.length_append]; simp only [List.length_cons, List.length_nil]; omega)]; rfl
  rcases ht with rfl | ⟨x, Y, rfl, hx1, hx2, hY, hx3⟩
  · exact lost l
  · rw [List.length_cons] at hlen
    have hY' : ∀ y ∈ Y, y < 256 := fun y hy => by have := hY y hy; omega
    by_cases h1 : x < 256
    · exact evs (x :: Y) l (fun y hy => by
        rcases List.mem_cons.mp hy with rfl | hy
        · exact h1
        · exact hY' y hy) (by rw [List.length_cons]; omega)
    · show ((tookT (some l) x).1 ++ (runT (tookT (some l) x).2 (Y ++ [260])).1, (runT (tookT (some l) x).2 (Y ++ [260])).2) = _
      obtain e | e | e : x = 257 ∨ x = 258 ∨ x = 259 := by omega
      · subst e
        rw [show tookT (some l) 257 = ([withinL l], none) from rfl, outl Y hY, hx3 rfl]; rfl
      · subst e
        rw [show tookT (some l) 258 = ([none], none) from rfl, outl Y hY]; rfl
      · subst e
        rw [show tookT (some l) 259 = ([], some l) from rfl, evs Y l hY' (by omega)]; rfl
theorem within_pre {row : List Int} {i : Nat} (hi : i < row.length + 3) : withinL ((midL row).take i) = none := by
  cases i with
  | zero => rfl
  | succ i =>
    unfold midL
    rw [List.take_succ_cons]
    unfold withinL
    dsimp only
    have hl : (row ++ checkL row).length = row.length + 2 := by rw [List.length_append]; rfl
    rw [if_pos]
    right
    rw [List.length_take, hl]
    omega

mutual
theorem eqD_self : ∀ {d : D}, Zl.plain d = true → eqD d d = true
  | .non, _ => rfl
  | .bl b, _ => by simp
  | .int i, _ => by simp
  | .str s, _ => by simp
  | .lst ds, h => by rw [eqD_lst]; exact eqDs_selfP (ds := ds) h
  | .tup ds, h => by rw [eqD_tup]; exact eqDs_selfP (ds := ds) h
  | .dct, h => by cases h
  | .exc _, h => by cases h
  | .scr _, h => by cases h
  | .ref _, h => by cases h
theorem eqDs_selfP : ∀ {ds : List D}, plains ds = true → eqDs ds ds = true
  | [], _ => rfl
  | d :: r, h => by
    have q := Bool.and_eq_true_iff.mp (show (Zl.plain d && plains r) = true from h)
    rw [eqDs_cons, eqD_self q.1, eqDs_selfP q.2]; rfl
end

-- needs: taker flatints earsteps ear25 align3 frameit _law_frame _law_row _law_gap _law_pick _law_draw _law_sent Ear_hear Ear___init__ Ear_in_step plainrefl filterC own37
theorem runT_skips (s : Option (List Int)) : ∀ c : Nat, runT s (List.replicate c 259) = ([], s)
  | 0 => rfl
  | c + 1 => by
    have e : tookT s 259 = ([], s) := by
      unfold tookT
      rw [if_neg (by decide)]
      cases s with
      | none => rfl
      | some l => rfl
    rw [List.replicate_succ]
    show ((tookT s 259).1 ++ (runT (tookT s 259).2 (List.replicate c 259)).1, (runT (tookT s 259).2 (List.replicate c 259)).2) = _
    rw [e]
    dsimp only
    rw [runT_skips s c]
    rfl
theorem runT_skipped {F : List Nat} {c j : Nat} : runT none (F.take j ++ List.replicate c 259 ++ F.drop j) = runT none F := by
  have e : F = F.take j ++ F.drop j := (List.take_append_drop _ _).symm
  rw [runT_app, runT_app, runT_skips]
  dsimp only
  rw [List.append_nil]
  conv => rhs; rw [e, runT_app]
theorem EvsA.rs {N : Addr → Prop} {M : Mh} {fo : Option Addr} : ∀ {es : List (Option (List Int))} {ds : List D}, EvsA N M fo es ds → RsL M ds (es.map evD)
  | [], [], _ => .nil
  | [], _ :: _, h => h.elim
  | _ :: _, [], h => h.elim
  | none :: _, d :: _, h => by
    have := h.1
    exact .cons (by rw [show d = evD none from this]; exact .refl _) h.2.rs
  | some r :: _, d :: _, h => by
    obtain ⟨x, e, _, h2, _⟩ := h.1
    exact .cons (by rw [e]; exact .tup (.cons (.refl _) (.cons (.at h2) .nil))) h.2.rs
theorem EvsA.mem {N : Addr → Prop} {M : Mh} {fo : Option Addr} : ∀ {rs : List (List Int)} {ds : List D}, EvsA N M fo (rs.map some) ds → ∀ d ∈ ds, ∃ x r, r ∈ rs ∧ d = .tup [.str "frame", .ref x] ∧ N x ∧ M x = some (.lst (r.map D.int))
  | [], [], _, d, hd => nomatch hd
  | [], _ :: _, h, _, _ => h.elim
  | _ :: _, [], h, _, _ => h.elim
  | r :: rs, d0 :: _, h, d, hd => by
    rcases List.mem_cons.mp hd with e | hd
    · subst e
      obtain ⟨x, e, h1, h2, _⟩ := h.1
      exact ⟨x, r, List.mem_cons_self, e, h1, h2⟩
    · obtain ⟨x, r', hr, h1⟩ := EvsA.mem h.2 d hd
      exact ⟨x, r', List.mem_cons_of_mem _ hr, h1⟩
theorem Pl_evs23 (es : List (Option (List Int))) : Pl 4 (.lst (es.map evD)) := .lst fun x hx => by
  obtain ⟨e, _, rfl⟩ := List.mem_map.mp hx
  cases e with
  | none => exact .mono (.two (.str _ _) (.lflat (n := 0) rfl)) (by decide)
  | some r => exact .mono (.two (.str _ _) (Pl_row 0 r)) (by decide)
theorem zLcL_none23 {step : D → Mh → (Option D → Mh → Prop) → Prop} {k : List D → Mh → Prop} {M : Mh} {ds acc : List D} (hs : ∀ d ∈ ds, ∀ Q : Option D → Mh → Prop, Q none M → step d M Q) (hk : k acc M) : zLcL none step k ds acc M := by
  have := zLcL_filterm (f := id) (g := id) (p := fun _ => false) (step := step) (k := k) (M := M) (as := ds) (acc := acc) (fun a ha Q _ h => hs a ha Q (h rfl)) (by rw [List.filter_eq_nil_iff.mpr (fun _ _ => by decide), List.map_nil, List.append_nil]; exact hk)
  rwa [List.map_id] at this
theorem zLoop_id23 {c : Ck} {step : D → (Zl.Env → Mh → Prop) → Zl.Env → Mh → Prop} {nx : Zl.Env → Mh → Prop} (P : List D → Zl.Env → Mh → Prop) (hd : ∀ r M, P [] r M → zck c M (nx r M)) (hs : ∀ a l r M (k : Zl.Env → Mh → Prop), P (a :: l) r M → (∀ r' M', P l r' M' → k r' M') → zck c M (step a k r M)) {l : List D} {r : Zl.Env} {M : Mh} (h : P l r M) : zLoop c step nx l r M := by
  have := zLoop_map (f := id) P hd hs h
  rwa [List.map_id] at this
theorem law_holds : ∀ ns : List Int, ns.length ≤ 63 → z_law [.scr ns] (fun _ => none) (fun d _ => d = .bl true) fun _ _ _ => False := by
  intro ns hns
  show zFn _ zb_law _ _ _ _
  unfold zFn zb_law
  walk_at "z"
  refine ⟨(fun _ h => nomatch h), fun t ht => ?_⟩
  have hT : mup (fun x => none) t MO.town t = some .town := mup_same
  generalize mup (fun x => none) t MO.town = M at hT
  walk_at "y"
  refine l__law_gap hT fun g hg => ?_
  walk_at "y"
  refine i_newT fun w hw => ?_
  have tw : t ≠ w := ne_of_m hT hw
  have hT1 : mup M w (.lst []) t = some .town := mup_get hw hT
  have hW1 : mup M w (.lst []) w = some (.lst []) := mup_same
  generalize mup M w (.lst []) = M1 at hT1 hW1
  clear hT hw M
  walk_at "y"
  refine l__law_draw hT1 (by decide) (by decide) fun n3 hn0 hn3 => ?_
  obtain ⟨m, rfl⟩ : ∃ m : Nat, n3 = m := ⟨n3.toNat, by omega⟩
  walk_at "y"
  rw [show ((1 : Int) + (m : Nat)).toNat = m + 1 by omega]
  refine zLoop_range (P := fun i r M' => ∃ (is : List Nat) (rs : List (List Int)) (x4 x5 x6 : Option D), M' t = some .town ∧ M' w = some (.lst (rs.map rowD)) ∧ runT none is = (rs.map some, none) ∧ (∀ n ∈ is, n < 260) ∧ is.length ≤ 2 + 14 * i ∧ rs.length = i ∧ (∀ r ∈ rs, byteL r ∧ r.length ≤ 5) ∧ r = [some (.scr ns), some (.ref t), some (.lst (is.map itD)), some (.ref w), x4, x5, x6, none, none, none, none, none, none, none, none]) ?_ ?_ ⟨g, [], none, none, none, hT1, hW1, runT_gapN hg.1, (fun n hn => by rcases hg.1 n hn with e | e <;> omega), hg.2, rfl, (fun _ h => nomatch h), rfl⟩
  rotate_left
  · rintro i r M' k hi ⟨is, rs, x4, x5, x6, hT', hW', hrun, his, hil, hrl, hrs, rfl⟩ hk
    clear hT1 hW1
    walk_at "y"
    refine l__law_row (most := 5) hT' (by decide) fun row hb hl => ?_
    walk_at "y"
    rw [show D.lst (row.map D.int) = rowD row from rfl]
    have hT2 : mup M' w (.lst (rs.map rowD ++ [rowD row])) t = some .town := (mup_ne tw).trans hT'
    have hW2 : mup M' w (.lst (rs.map rowD ++ [rowD row])) w = some (.lst (rs.map rowD ++ [rowD row])) := mup_same
    have hW3 : mup M' w (.lst (rs.map rowD ++ [rowD row])) w = some (.lst ((rs ++ [row]).map rowD)) := by rw [mup_same, List.map_append]; rfl
    generalize mup M' w (.lst (rs.map rowD ++ [rowD row])) = M2 at hT2 hW2 hW3
    refine i_ixR hW2 atI_snoc ?_
    walk_at "y"
    refine l__law_frame (by omega) ?_
    rw [frameD_it hb (by omega)]
    have hFl := frameI_len row
    have hF := frameI_260 hb (by omega)
    have hFr := runT_frameN hb (by omega)
    generalize frameI row = F at hFl hF hFr
    walk_at "y"
    refine l__law_draw hT2 (by omega) (by omega) fun a ha0 ha1 => ?_
    obtain ⟨j, rfl⟩ : ∃ j : Nat, a = j := ⟨a.toNat, by omega⟩
    walk_at "y"
    have e1 : cutD (F.map itD) none (some (1 + (j : Int))) = (F.take (1 + j)).map itD := by
      rw [List.map_take, ← cutD_to (F.map itD) (1 + j)]
      congr 2
    have e2 : cutD (F.map itD) (some (1 + (j : Int))) none = (F.drop (1 + j)).map itD := by
      rw [List.map_drop, ← cutD_from (F.map itD) (1 + j)]
      congr 2
    have l1 : (F.take (1 + j)).length = 1 + j := by rw [List.length_take]; omega
    have l2 : (F.drop (1 + j)).length = F.length - (1 + j) := List.length_drop
    rw [e1]
    refine i_addL (by rw [List.length_map, List.length_map, l1, sizeLine_eq]; omega) ?_
    walk_at "y"
    refine l__law_pick hT2 (by simp) (by show 4 < _; decide) fun d hd => ?_
    obtain ⟨c, rfl, hc⟩ : ∃ c : Nat, d = .int (c : Nat) ∧ c ≤ 2 := by
      simp only [List.mem_cons, List.not_mem_nil, or_false] at hd
      rcases hd with e | e | e | e
      · exact ⟨0, e, by decide⟩
      · exact ⟨0, e, by decide⟩
      · exact ⟨1, e, by decide⟩
      · exact ⟨2, e, by decide⟩
    refine i_mulL (by omega) (by omega) (by show 1 * _ ≤ _; rw [sizeLine_eq]; omega) ?_
    rw [Int.toNat_natCast, show (List.replicate c [D.str "skip"]).flatten = (List.replicate c 259).map itD by rw [List.flatten_replicate_singleton, List.map_replicate]; rfl]
    walk_at "y"
    refine i_addL (by rw [List.length_append, List.length_map, List.length_map, List.length_map, l1, List.length_replicate, sizeLine_eq]; omega) ?_
    walk_at "y"
    rw [e2]
    refine i_addL (by rw [List.length_append, List.length_append, List.length_map, List.length_map, List.length_map, List.length_map, l1, l2, List.length_replicate, sizeLine_eq]; omega) ?_
    walk_at "y"
    refine l__law_gap hT2 fun g2 hg2 => ?_
    have lg2 := hg2.2
    refine i_addL (by rw [List.length_append, List.length_append, List.length_append, List.length_map, List.length_map, List.length_map, List.length_map, List.length_map, l1, l2, List.length_replicate, sizeLine_eq]; omega) ?_
    walk_at "y"
    rw [show is.map itD ++ (F.take (1 + j)).map itD ++ (List.replicate c 259).map itD ++ (F.drop (1 + j)).map itD ++ g2.map itD = (is ++ ((F.take (1 + j) ++ List.replicate c 259 ++ F.drop (1 + j)) ++ g2)).map itD by simp only [List.map_append, List.append_assoc]]
    refine hk _ _ ⟨is ++ ((F.take (1 + j) ++ List.replicate c 259 ++ F.drop (1 + j)) ++ g2), rs ++ [row], _, _, _, hT2, hW3, ?_, ?_, ?_, by rw [List.length_append, hrl]; rfl, ?_, rfl⟩
    · rw [runT_app, hrun]
      dsimp only
      rw [runT_app, runT_skipped, hFr]
      dsimp only
      rw [runT_gapN hg2.1]
      rw [List.append_nil, List.map_append]
      rfl
    · intro n hn
      simp only [List.mem_append] at hn
      rcases hn with h | ((h | h) | h) | h
      · exact his n h
      · exact hF n (List.mem_of_mem_take h)
      · rw [(List.mem_replicate.mp h).2]; decide
      · exact hF n (List.mem_of_mem_drop h)
      · rcases hg2.1 n h with e | e <;> omega
    · simp only [List.length_append, l1, l2, List.length_replicate]; omega
    · intro r hr
      rcases List.mem_append.mp hr with h | h
      · exact hrs r h
      · rw [List.mem_singleton.mp h]; exact ⟨hb, hl⟩
  rintro r M' ⟨is, rs, x4, x5, x6, hT', hW', hrun, his, hil, hrl, hrs, rfl⟩
  clear hT1 hW1
  walk_at "y"
  refine l__law_pick hT' (by simp) (by show 2 < _; decide) fun dp hdp => ?_
  obtain ⟨p, rfl, hp⟩ : ∃ p : Int, dp = .int p ∧ pm p := by
    simp only [List.mem_cons, List.not_mem_nil, or_false] at hdp
    rcases hdp with e | e
    · exact ⟨1, e, .inl rfl⟩
    · exact ⟨0 - 1, e, .inr (by decide)⟩
  clear hdp
  walk_at "y"
  refine l__law_sent his hp (by omega) ?_
  have hBl := sentB_len is p
  have hBb := sentB_bits is p
  have hBr := out_run (Y := is) (h := []) (p := p) tail3_nil his hp
  rw [show last7 [] = [] from rfl] at hBr
  have hBt : (runT none (runR ⟨[], none, none⟩ (sentB is p)).1).1 = rs.map some := by rw [hBr.1, runT_dueN, hrun]
  have hBs : (runR ⟨[], none, none⟩ (sentB is p)).2.part.isSome = true := by
    rw [hBr.2, decide_eq_false]
    · rfl
    · intro z
      have := runT_dueN is
      rw [z, hrun] at this
      have h2 := congrArg (fun x => x.1.length) this
      simp only [runT, List.length_map, List.length_nil] at h2
      omega
  generalize sentB is p = B at hBl hBb hBr hBt hBs
  clear hBr
  walk_at "y"
  intro e he
  have te : t ≠ e := ne_of_m hT' he
  have we : w ≠ e := ne_of_m hW' he
  refine l_Ear___init__ mup_same fun M2 r k hE2 hk2 => ⟨rfl, ?_⟩
  obtain ⟨hT2, tr, tk⟩ := hk2 t _ (mup_get he hT') te
  obtain ⟨hW2, wr, wk⟩ := hk2 w _ (mup_get he hW') we
  clear hT' hW' hk2 he
  walk_at "y"
  refine ⟨hT2, by rw [List.length_map]; omega, by rw [List.all_map]; exact List.all_eq_true.mpr fun _ _ => rfl, fun ps hps => ?_⟩
  obtain ⟨qs, rfl, hqs⟩ := flat_ints hps
  clear hps
  rw [show (qs.map fun q => q.map D.int).map D.lst ++ [D.lst []] = (qs ++ [[]]).map fun q : List Int => D.lst (q.map D.int) by rw [List.map_append, List.map_map]; rfl]
  have hqs' : (qs ++ [[]]).flatten = B := by rw [List.flatten_append, hqs]; simp
  generalize qs ++ [[]] = qs at hqs' ⊢
  walk_at "y"
  have ok0 : TOk none := fun _ h => nomatch h
  refine zLoop_map (fun l r1 M3 => ∃ (hd : List Int) (fr fk : Option Addr) (td : List D) (x10 x11 : Option D), hd ++ l.flatten = B ∧ M3 t = some .town ∧ M3 w = some (.lst (rs.map rowD)) ∧ ErAt M3 e r k (runR ⟨[], none, none⟩ hd).2 fr (runT none (runR ⟨[], none, none⟩ hd).1).2 fk ∧ fr ≠ some t ∧ fr ≠ some w ∧ fk ≠ some t ∧ fk ≠ some w ∧ EvsA (fun y => y ≠ e ∧ y ≠ r ∧ y ≠ k ∧ y ≠ t ∧ y ≠ w ∧ fr ≠ some y) M3 fk (runT none (runR ⟨[], none, none⟩ hd).1).1 td ∧ r1 = [some (.scr ns), some (.ref t), some (.lst (is.map itD)), some (.ref w), x4, x5, x6, some (.lst (B.map D.int)), some (.ref e), some (.lst td), x10, x11, none, none, none]) ?_ ?_ ⟨[], none, none, [], none, none, hqs', hT2, hW2, hE2, (fun z => nomatch z), (fun z => nomatch z), (fun z => nomatch z), (fun z => nomatch z), trivial, rfl⟩
  rotate_left
  · rintro pc l r1 M3 kk ⟨hd, fr, fk, td, x10, x11, hhd, hT3, hW3, hE3, nrt, nrw, nkt, nkw, hEv3, rfl⟩ hk
    have hme := hE3.me
    clear hT2 hW2 hE2
    rw [List.flatten_cons] at hhd
    have hpb : bitL pc := fun n hn => hBb n (by rw [← hhd]; simp [hn])
    have hhb : bitL hd := fun n hn => hBb n (by rw [← hhd]; simp [hn])
    obtain ⟨hok, hln⟩ := runR_ok (s := ⟨[], none, none⟩) .init hhb
    obtain ⟨hok2, hln2⟩ := runT_ok (ts := (runR ⟨[], none, none⟩ hd).1) ok0
    have hlen : hd.length + pc.length ≤ 440 := by
      have := congrArg List.length hhd
      rw [List.length_append, List.length_append] at this; omega
    obtain ⟨_, hln3⟩ := runR_ok hok hpb
    obtain ⟨_, hln4⟩ := runT_ok (ts := (runR (runR ⟨[], none, none⟩ hd).2 pc).1) hok2
    have hrun : runR ⟨[], none, none⟩ (hd ++ pc) = ((runR ⟨[], none, none⟩ hd).1 ++ (runR (runR ⟨[], none, none⟩ hd).2 pc).1, (runR (runR ⟨[], none, none⟩ hd).2 pc).2) := runR_app hd pc _
    have hrunT : runT none ((runR ⟨[], none, none⟩ hd).1 ++ (runR (runR ⟨[], none, none⟩ hd).2 pc).1) = _ := runT_app _ _ none
    walk_at "y"
    refine l_Ear_hear hE3 hok hok2 hpb (by omega) fun M4 fr4 fk4 x ds hx hE4 hF4 xr xk nfx nkx hX hEv4 => ?_
    have l1 := hEv3.len
    have l2 := hEv4.len
    have xne : ∀ y o, M3 y = some o → fr ≠ some y → x ≠ y := fun y o hy hf z => hf (by rw [← z]; exact hx o (by rw [z]; exact hy))
    have xt := xne t _ hT3 nrt
    have xw := xne w _ hW3 nrw
    have xe := xne e _ hE3.me hE3.nre
    obtain ⟨hT4, nrt4, nkt4⟩ := hF4 t _ hT3 tr tk nrt nkt
    obtain ⟨hW4, nrw4, nkw4⟩ := hF4 w _ hW3 wr wk nrw nkw
    walk_at "y"
    refine hk _ _ ⟨hd ++ pc, fr4, fk4, td ++ ds, _, _, by rw [List.append_assoc]; exact hhd, (mup_ne (Ne.symm xt)).trans hT4, (mup_ne (Ne.symm xw)).trans hW4, ?_, nrt4, nrw4, nkt4, nkw4, ?_, rfl⟩
    · rw [hrun]
      dsimp only
      rw [hrunT]
      exact hE4.keep fun y o hy hz => (mup_ne (fun z => by
        rcases hz with h | h | h | h | h
        · exact xe (by rw [← z, h])
        · exact xr (by rw [← z, h])
        · exact xk (by rw [← z, h])
        · exact nfx (by rw [h, z])
        · exact nkx (by rw [h, z]))).trans hy
    · rw [hrun]
      dsimp only
      rw [hrunT]
      refine EvsA.app (hEv3.imp fun y o hy hy1 hy2 => ?_) (hEv4.imp fun y o hy hy1 hy2 => ?_)
      · obtain ⟨y1, y2, y3, y4, y5, y6⟩ := hy
        obtain ⟨g1, g2, g3⟩ := hF4 y o hy1 y2 y3 y6 hy2
        exact ⟨⟨y1, y2, y3, y4, y5, g2⟩, (mup_ne (Ne.symm (xne y o hy1 y6))).trans g1, g3⟩
      · obtain ⟨y1, y2, y3, y4, y5⟩ := hy
        refine ⟨⟨fun z => ?_, y4, y3, fun z => ?_, fun z => ?_, y5⟩, (mup_ne y2).trans hy1, hy2⟩
        · rw [z] at y1
          exact (y1 _ hE3.me).elim hE3.nke hE3.nre
        · rw [z] at y1
          exact (y1 _ hT3).elim nkt nrt
        · rw [z] at y1
          exact (y1 _ hW3).elim nkw nrw
  rintro r1 M3 ⟨hd, fr, fk, td, x10, x11, hhd, hT3, hW3, hE3, nrt, nrw, nkt, nkw, hEv3, rfl⟩
  rw [List.flatten_nil, List.append_nil] at hhd
  subst hhd
  rw [hBt] at hEv3
  have hme := hE3.me
  clear hT2 hW2 hE2
  walk_at "y"
  refine l_Ear_in_step hE3 ?_
  rw [hBs]
  walk_at "y"
  have htd := EvsA.mem hEv3
  have em : (rs.map fun r => evD (some r)) = (rs.map some).map evD := by rw [List.map_map]; rfl
  refine zLcL_none23 (fun d hd Q hq => ?_) ?_
  · obtain ⟨x, r0, _, rfl, _⟩ := htd d hd
    walk_at "y"
    exact hq
  walk_at "y"
  refine i_neF (.ints []) (.ints []) rfl ?_
  walk_at "y"
  refine zLcL_mapC hW3 (f := rowD) (g := fun r => evD (some r)) (fun r0 hr Q hq => ?_) ?_
  · walk_at "y"
    exact hq
  walk_at "y"
  rw [em, List.nil_append]
  refine i_neG (.lst hEv3.rs) (.refl _) ((Pl_evs23 _).mono (by decide)) ((Pl_evs23 _).mono (by decide)) ?_
  rw [eqD_self (Pl_evs23 _).p]
  have ltd := hEv3.len
  rw [List.length_map] at ltd
  walk_at "y"
  refine zLoop_id23 (fun l r1 M4 => ∃ (hd' : List D) (x12 x13 : Option D), hd' ++ l = td ∧ M4 w = some (.lst (rs.map rowD)) ∧ (∀ d ∈ td, ∃ x l0, d = .tup [.str "frame", .ref x] ∧ x ≠ w ∧ M4 x = some (.lst l0) ∧ l0.length + l.length ≤ 1000) ∧ r1 = [some (.scr ns), some (.ref t), some (.lst (is.map itD)), some (.ref w), x4, x5, x6, some (.lst (hd.map D.int)), some (.ref e), some (.lst td), x10, x11, x12, x13, none]) ?_ ?_ ⟨[], none, none, rfl, hW3, fun d hd => by
    obtain ⟨x, r0, hr0, e0, n0, h0⟩ := htd d hd
    have := (hrs r0 hr0).2
    exact ⟨x, _, e0, n0.2.2.2.2.1, h0, by rw [List.length_map]; omega⟩, rfl⟩
  rotate_left
  · rintro d l r1 M4 kk ⟨hd', x12, x13, hhd', hW4, hall, rfl⟩ hk
    obtain ⟨x, l0, rfl, xw, hx, hlx⟩ := hall d (by rw [← hhd']; simp)
    rw [List.length_cons] at hlx
    walk_at "y"
    refine hk _ _ ⟨hd' ++ [_], _, _, by rw [List.append_assoc]; exact hhd', (mup_ne (Ne.symm xw)).trans hW4, fun d hd => ?_, rfl⟩
    obtain ⟨x', l', e', xw', hx', hlx'⟩ := hall d hd
    rw [List.length_cons] at hlx'
    by_cases hxx : x' = x
    · subst hxx
      exact ⟨x', _, e', xw', mup_same, by rw [List.length_append, List.length_singleton]; omega⟩
    · exact ⟨x', l', e', xw', (mup_ne hxx).trans hx', by omega⟩
  rintro r1 M4 ⟨hd', x12, x13, _, hW4, _, rfl⟩
  clear hE3 hEv3 htd hme hT3 hW3
  walk_at "y"
  intro e2 he2
  have we2 : w ≠ e2 := ne_of_m hW4 he2
  refine l_Ear___init__ mup_same fun M5 r2 k2 hE5 hk5 => ⟨rfl, ?_⟩
  obtain ⟨hW5, wr2, wk2⟩ := hk5 w _ (mup_get he2 hW4) we2
  have hme := hE5.me
  walk_at "y"
  refine l_Ear_hear hE5 .init ok0 hBb (by omega) fun M6 fr6 fk6 x ds hx hE6 hF6 xr xk nfx nkx hX hEv6 => ?_
  rw [hBt] at hEv6
  obtain ⟨hW6, _, _⟩ := hF6 w _ hW5 wr2 wk2 (fun z => nomatch z) (fun z => nomatch z)
  walk_at "y"
  refine zLcL_mapC hW6 (f := rowD) (g := fun r => evD (some r)) (fun r0 hr Q hq => ?_) ?_
  · walk_at "y"
    exact hq
  walk_at "y"
  rw [em, List.nil_append]
  refine i_eqG (.ref hX hEv6.rs) (.refl _) ((Pl_evs23 _).mono (by decide)) ((Pl_evs23 _).mono (by decide)) ?_
  rw [eqD_self (Pl_evs23 _).p]
  exact i_rtG rfl

theorem repL_strs {K : PySem.W.Frag} {mg : Str → Option Value} {F : Fz} : ∀ (ns : List Str), ns.all (fun x => PyData.strOk x && decide (x.length ≤ sizeLine)) = true → RepL K mg F (ns.map V.str) (ns.map D.str)
  | [], _ => .nil
  | x :: r, h => by
    rw [List.all_cons, Bool.and_eq_true, Bool.and_eq_true] at h
    exact .cons (.str h.1.1 (of_decide_eq_true h.1.2)) (repL_strs r h.2)
def top (i : Nat) : Stmt := PySem.Challenge.pw_evenline_k23_whole_ears.main.body.getD i (.Pass ⟨0, 0, 0, 0⟩)
abbrev s__wall : Stmt := top 0
def N__wall : List Str := ["k"]
def p__wall : List Str := ["k"]
theorem sc__wall : FnScope N__wall p__wall (defScope s__wall) := ⟨rfl, rfl, rfl, by decide +kernel, rfl, by decide +kernel, by decide +kernel⟩
abbrev s_is_whole : Stmt := top 9
def N_is_whole : List Str := ["thing", "low", "high"]
def p_is_whole : List Str := ["thing", "low", "high"]
theorem sc_is_whole : FnScope N_is_whole p_is_whole (defScope s_is_whole) := ⟨rfl, rfl, rfl, by decide +kernel, rfl, by decide +kernel, by decide +kernel⟩
abbrev s_look_bits : Stmt := top 10
def N_look_bits : List Str := ["bits", "bit"]
def p_look_bits : List Str := ["bits"]
theorem sc_look_bits : FnScope N_look_bits p_look_bits (defScope s_look_bits) := ⟨rfl, rfl, rfl, by decide +kernel, rfl, by decide +kernel, by decide +kernel⟩
abbrev s_word_of : Stmt := top 11
def N_word_of : List Str := ["bits", "found", "bit"]
def p_word_of : List Str := ["bits"]
theorem sc_word_of : FnScope N_word_of p_word_of (defScope s_word_of) := ⟨rfl, rfl, rfl, by decide +kernel, rfl, by decide +kernel, by decide +kernel⟩
abbrev s_is_item : Stmt := top 19
def N_is_item : List Str := ["thing"]
def p_is_item : List Str := ["thing"]
theorem sc_is_item : FnScope N_is_item p_is_item (defScope s_is_item) := ⟨rfl, rfl, rfl, by decide +kernel, rfl, by decide +kernel, by decide +kernel⟩
abbrev s_pair_item : Stmt := top 20
def N_pair_item : List Str := ["heavy", "at"]
def p_pair_item : List Str := ["heavy"]
theorem sc_pair_item : FnScope N_pair_item p_pair_item (defScope s_pair_item) := ⟨rfl, rfl, rfl, by decide +kernel, rfl, by decide +kernel, by decide +kernel⟩
abbrev s_item_at : Stmt := top 21
def N_item_at : List Str := ["word"]
def p_item_at : List Str := ["word"]
theorem sc_item_at : FnScope N_item_at p_item_at (defScope s_item_at) := ⟨rfl, rfl, rfl, by decide +kernel, rfl, by decide +kernel, by decide +kernel⟩
abbrev s_is_row : Stmt := top 25
def N_is_row : List Str := ["thing", "most", "byte"]
def p_is_row : List Str := ["thing", "most"]
theorem sc_is_row : FnScope N_is_row p_is_row (defScope s_is_row) := ⟨rfl, rfl, rfl, by decide +kernel, rfl, by decide +kernel, by decide +kernel⟩
abbrev s_look_row : Stmt := top 26
def N_look_row : List Str := ["row", "most"]
def p_look_row : List Str := ["row", "most"]
theorem sc_look_row : FnScope N_look_row p_look_row (defScope s_look_row) := ⟨rfl, rfl, rfl, by decide +kernel, rfl, by decide +kernel, by decide +kernel⟩
abbrev s_sum_of : Stmt := top 27
def N_sum_of : List Str := ["row", "k", "byte"]
def p_sum_of : List Str := ["row"]
theorem sc_sum_of : FnScope N_sum_of p_sum_of (defScope s_sum_of) := ⟨rfl, rfl, rfl, by decide +kernel, rfl, by decide +kernel, by decide +kernel⟩
abbrev s_check_of : Stmt := top 28
def N_check_of : List Str := ["row"]
def p_check_of : List Str := ["row"]
theorem sc_check_of : FnScope N_check_of p_check_of (defScope s_check_of) := ⟨rfl, rfl, rfl, by decide +kernel, rfl, by decide +kernel, by decide +kernel⟩
abbrev s_row_within : Stmt := top 29
def N_row_within : List Str := ["some", "row"]
def p_row_within : List Str := ["some"]
theorem sc_row_within : FnScope N_row_within p_row_within (defScope s_row_within) := ⟨rfl, rfl, rfl, by decide +kernel, rfl, by decide +kernel, by decide +kernel⟩
abbrev s_Reader___init__ : Stmt := inClass (top 33) 0
def N_Reader___init__ : List Str := ["self"]
def p_Reader___init__ : List Str := ["self"]
theorem sc_Reader___init__ : FnScope N_Reader___init__ p_Reader___init__ (defScope s_Reader___init__) := ⟨rfl, rfl, rfl, by decide +kernel, rfl, by decide +kernel, by decide +kernel⟩
abbrev s_Reader_heard : Stmt := inClass (top 33) 3
def N_Reader_heard : List Str := ["self", "word", "due", "told", "found"]
def p_Reader_heard : List Str := ["self", "word"]
theorem sc_Reader_heard : FnScope N_Reader_heard p_Reader_heard (defScope s_Reader_heard) := ⟨rfl, rfl, rfl, by decide +kernel, rfl, by decide +kernel, by decide +kernel⟩
abbrev s_Reader_in_step : Stmt := inClass (top 33) 4
def N_Reader_in_step : List Str := ["self"]
def p_Reader_in_step : List Str := ["self"]
theorem sc_Reader_in_step : FnScope N_Reader_in_step p_Reader_in_step (defScope s_Reader_in_step) := ⟨rfl, rfl, rfl, by decide +kernel, rfl, by decide +kernel, by decide +kernel⟩
abbrev s_Reader_poise_now : Stmt := inClass (top 33) 5
def N_Reader_poise_now : List Str := ["self"]
def p_Reader_poise_now : List Str := ["self"]
theorem sc_Reader_poise_now : FnScope N_Reader_poise_now p_Reader_poise_now (defScope s_Reader_poise_now) := ⟨rfl, rfl, rfl, by decide +kernel, rfl, by decide +kernel, by decide +kernel⟩
abbrev s_Reader_waiting : Stmt := inClass (top 33) 6
def N_Reader_waiting : List Str := ["self"]
def p_Reader_waiting : List Str := ["self"]
theorem sc_Reader_waiting : FnScope N_Reader_waiting p_Reader_waiting (defScope s_Reader_waiting) := ⟨rfl, rfl, rfl, by decide +kernel, rfl, by decide +kernel, by decide +kernel⟩
abbrev s_Taker___init__ : Stmt := inClass (top 35) 0
def N_Taker___init__ : List Str := ["self"]
def p_Taker___init__ : List Str := ["self"]
theorem sc_Taker___init__ : FnScope N_Taker___init__ p_Taker___init__ (defScope s_Taker___init__) := ⟨rfl, rfl, rfl, by decide +kernel, rfl, by decide +kernel, by decide +kernel⟩
abbrev s_Taker_took : Stmt := inClass (top 35) 2
def N_Taker_took : List Str := ["self", "item", "told", "row"]
def p_Taker_took : List Str := ["self", "item"]
theorem sc_Taker_took : FnScope N_Taker_took p_Taker_took (defScope s_Taker_took) := ⟨rfl, rfl, rfl, by decide +kernel, rfl, by decide +kernel, by decide +kernel⟩
abbrev s_Taker_within : Stmt := inClass (top 35) 3
def N_Taker_within : List Str := ["self"]
def p_Taker_within : List Str := ["self"]
theorem sc_Taker_within : FnScope N_Taker_within p_Taker_within (defScope s_Taker_within) := ⟨rfl, rfl, rfl, by decide +kernel, rfl, by decide +kernel, by decide +kernel⟩
abbrev s_Ear___init__ : Stmt := inClass (top 36) 0
def N_Ear___init__ : List Str := ["self"]
def p_Ear___init__ : List Str := ["self"]
theorem sc_Ear___init__ : FnScope N_Ear___init__ p_Ear___init__ (defScope s_Ear___init__) := ⟨rfl, rfl, rfl, by decide +kernel, rfl, by decide +kernel, by decide +kernel⟩
abbrev s_Ear_in_step : Stmt := inClass (top 36) 2
def N_Ear_in_step : List Str := ["self"]
def p_Ear_in_step : List Str := ["self"]
theorem sc_Ear_in_step : FnScope N_Ear_in_step p_Ear_in_step (defScope s_Ear_in_step) := ⟨rfl, rfl, rfl, by decide +kernel, rfl, by decide +kernel, by decide +kernel⟩
abbrev s__law_town : Stmt := top 38
def N__law_town : List Str := ["script"]
def p__law_town : List Str := ["script"]
theorem sc__law_town : FnScope N__law_town p__law_town (defScope s__law_town) := ⟨rfl, rfl, rfl, by decide +kernel, rfl, by decide +kernel, by decide +kernel⟩
abbrev s__law_draw : Stmt := top 39
def N__law_draw : List Str := ["town", "many", "cells", "at", "cell", "mixed"]
def p__law_draw : List Str := ["town", "many"]
theorem sc__law_draw : FnScope N__law_draw p__law_draw (defScope s__law_draw) := ⟨rfl, rfl, rfl, by decide +kernel, rfl, by decide +kernel, by decide +kernel⟩
abbrev s__law_pick : Stmt := top 40
def N__law_pick : List Str := ["town", "some"]
def p__law_pick : List Str := ["town", "some"]
theorem sc__law_pick : FnScope N__law_pick p__law_pick (defScope s__law_pick) := ⟨rfl, rfl, rfl, by decide +kernel, rfl, by decide +kernel, by decide +kernel⟩
abbrev s__law_ten : Stmt := top 41
def N__law_ten : List Str := ["word", "by"]
def p__law_ten : List Str := ["word"]
theorem sc__law_ten : FnScope N__law_ten p__law_ten (defScope s__law_ten) := ⟨rfl, rfl, rfl, by decide +kernel, rfl, by decide +kernel, by decide +kernel⟩
abbrev s__law_even : Stmt := top 42
def N__law_even : List Str := []
def p__law_even : List Str := []
theorem sc__law_even : FnScope N__law_even p__law_even (defScope s__law_even) := ⟨rfl, rfl, rfl, by decide +kernel, rfl, by decide +kernel, by decide +kernel⟩
abbrev s__law_heavy : Stmt := top 43
def N__law_heavy : List Str := []
def p__law_heavy : List Str := []
theorem sc__law_heavy : FnScope N__law_heavy p__law_heavy (defScope s__law_heavy) := ⟨rfl, rfl, rfl, by decide +kernel, rfl, by decide +kernel, by decide +kernel⟩
abbrev s__law_has_pair : Stmt := top 44
def N__law_has_pair : List Str := ["item"]
def p__law_has_pair : List Str := ["item"]
theorem sc__law_has_pair : FnScope N__law_has_pair p__law_has_pair (defScope s__law_has_pair) := ⟨rfl, rfl, rfl, by decide +kernel, rfl, by decide +kernel, by decide +kernel⟩
abbrev s__law_put : Stmt := top 45
def N__law_put : List Str := ["item", "poise", "heavy"]
def p__law_put : List Str := ["item", "poise"]
theorem sc__law_put : FnScope N__law_put p__law_put (defScope s__law_put) := ⟨rfl, rfl, rfl, by decide +kernel, rfl, by decide +kernel, by decide +kernel⟩
abbrev s__law_sent : Stmt := top 46
def N__law_sent : List Str := ["items", "poise", "found", "item", "word"]
def p__law_sent : List Str := ["items", "poise"]
theorem sc__law_sent : FnScope N__law_sent p__law_sent (defScope s__law_sent) := ⟨rfl, rfl, rfl, by decide +kernel, rfl, by decide +kernel, by decide +kernel⟩
abbrev s__law_byte : Stmt := top 47
def N__law_byte : List Str := ["town", "kind"]
def p__law_byte : List Str := ["town"]
theorem sc__law_byte : FnScope N__law_byte p__law_byte (defScope s__law_byte) := ⟨rfl, rfl, rfl, by decide +kernel, rfl, by decide +kernel, by decide +kernel⟩
abbrev s__law_row : Stmt := top 48
def N__law_row : List Str := ["town", "most", "many", "k"]
def p__law_row : List Str := ["town", "most"]
theorem sc__law_row : FnScope N__law_row p__law_row (defScope s__law_row) := ⟨rfl, rfl, rfl, by decide +kernel, rfl, by decide +kernel, by decide +kernel⟩
abbrev s__law_check : Stmt := top 49
def N__law_check : List Str := ["row", "found", "k"]
def p__law_check : List Str := ["row"]
theorem sc__law_check : FnScope N__law_check p__law_check (defScope s__law_check) := ⟨rfl, rfl, rfl, by decide +kernel, rfl, by decide +kernel, by decide +kernel⟩
abbrev s__law_frame : Stmt := top 50
def N__law_frame : List Str := ["row"]
def p__law_frame : List Str := ["row"]
theorem sc__law_frame : FnScope N__law_frame p__law_frame (defScope s__law_frame) := ⟨rfl, rfl, rfl, by decide +kernel, rfl, by decide +kernel, by decide +kernel⟩
abbrev s__law_gap : Stmt := top 51
def N__law_gap : List Str := ["town", "k"]
def p__law_gap : List Str := ["town"]
theorem sc__law_gap : FnScope N__law_gap p__law_gap (defScope s__law_gap) := ⟨rfl, rfl, rfl, by decide +kernel, rfl, by decide +kernel, by decide +kernel⟩
abbrev s__law_cuts : Stmt := top 52
def N__law_cuts : List Str := ["town", "bits", "found", "many"]
def p__law_cuts : List Str := ["town", "bits"]
theorem sc__law_cuts : FnScope N__law_cuts p__law_cuts (defScope s__law_cuts) := ⟨rfl, rfl, rfl, by decide +kernel, rfl, by decide +kernel, by decide +kernel⟩
abbrev s_Reader_found : Stmt := inClass (top 33) 2
def N_Reader_found : List Str := ["self", "told", "word"]
def p_Reader_found : List Str := ["self"]
theorem sc_Reader_found : FnScope N_Reader_found p_Reader_found (defScope s_Reader_found) := ⟨rfl, rfl, rfl, by decide +kernel, rfl, by decide +kernel, by decide +kernel⟩
abbrev s_Taker_take : Stmt := inClass (top 35) 1
def N_Taker_take : List Str := ["self", "items", "told", "item"]
def p_Taker_take : List Str := ["self", "items"]
theorem sc_Taker_take : FnScope N_Taker_take p_Taker_take (defScope s_Taker_take) := ⟨rfl, rfl, rfl, by decide +kernel, rfl, by decide +kernel, by decide +kernel⟩
abbrev s_Reader_hear : Stmt := inClass (top 33) 1
def N_Reader_hear : List Str := ["self", "bits", "told", "bit"]
def p_Reader_hear : List Str := ["self", "bits"]
theorem sc_Reader_hear : FnScope N_Reader_hear p_Reader_hear (defScope s_Reader_hear) := ⟨rfl, rfl, rfl, by decide +kernel, rfl, by decide +kernel, by decide +kernel⟩
abbrev s_Ear_hear : Stmt := inClass (top 36) 1
def N_Ear_hear : List Str := ["self", "bits"]
def p_Ear_hear : List Str := ["self", "bits"]
theorem sc_Ear_hear : FnScope N_Ear_hear p_Ear_hear (defScope s_Ear_hear) := ⟨rfl, rfl, rfl, by decide +kernel, rfl, by decide +kernel, by decide +kernel⟩
abbrev s_law : Stmt := top 53
def N_law : List Str := ["script", "town", "items", "rows", "turn", "frame", "at", "bits", "one", "told", "piece", "found", "word", "row", "event"]
def p_law : List Str := ["script"]
theorem sc_law : FnScope N_law p_law (defScope s_law) := ⟨rfl, rfl, rfl, by decide +kernel, rfl, by decide +kernel, by decide +kernel⟩
abbrev cv_CONTROLS : List V := n_CONTROLS.map V.str
theorem rl_CONTROLS {K : PySem.W.Frag} {mg : Str → Option Value} (F : Fz) : RepL K mg F cv_CONTROLS c_CONTROLS := repL_strs _ (by decide +kernel)
theorem fl_CONTROLS : c_CONTROLS.all flatD = true := by decide +kernel
abbrev cv_EVEN : List V := n_EVEN.map V.int
theorem rl_EVEN {K : PySem.W.Frag} {mg : Str → Option Value} (F : Fz) : RepL K mg F cv_EVEN c_EVEN := RepL.ints _
theorem fl_EVEN : c_EVEN.all flatD = true := by decide +kernel
abbrev cv_HEAVY : List V := n_HEAVY.map V.int
theorem rl_HEAVY {K : PySem.W.Frag} {mg : Str → Option Value} (F : Fz) : RepL K mg F cv_HEAVY c_HEAVY := RepL.ints _
theorem fl_HEAVY : c_HEAVY.all flatD = true := by decide +kernel

structure Tx (K : PySem.W.Frag) (mg : Str → Option Value) where
  f__wall : Addr
  d__wall : FuncData
  F__wall : Fun K "_wall" "_wall" s__wall f__wall d__wall
  b__wall : Binds K d__wall p__wall []
  g__wall : mg "_wall" = some (.ref f__wall)
  f_is_whole : Addr
  d_is_whole : FuncData
  F_is_whole : Fun K "is_whole" "is_whole" s_is_whole f_is_whole d_is_whole
  b_is_whole : Binds K d_is_whole p_is_whole []
  g_is_whole : mg "is_whole" = some (.ref f_is_whole)
  f_look_bits : Addr
  d_look_bits : FuncData
  F_look_bits : Fun K "look_bits" "look_bits" s_look_bits f_look_bits d_look_bits
  b_look_bits : Binds K d_look_bits p_look_bits []
  g_look_bits : mg "look_bits" = some (.ref f_look_bits)
  f_word_of : Addr
  d_word_of : FuncData
  F_word_of : Fun K "word_of" "word_of" s_word_of f_word_of d_word_of
  b_word_of : Binds K d_word_of p_word_of []
  g_word_of : mg "word_of" = some (.ref f_word_of)
  f_is_item : Addr
  d_is_item : FuncData
  F_is_item : Fun K "is_item" "is_item" s_is_item f_is_item d_is_item
  b_is_item : Binds K d_is_item p_is_item []
  g_is_item : mg "is_item" = some (.ref f_is_item)
  f_pair_item : Addr
  d_pair_item : FuncData
  F_pair_item : Fun K "pair_item" "pair_item" s_pair_item f_pair_item d_pair_item
  b_pair_item : Binds K d_pair_item p_pair_item []
  g_pair_item : mg "pair_item" = some (.ref f_pair_item)
  f_item_at : Addr
  d_item_at : FuncData
  F_item_at : Fun K "item_at" "item_at" s_item_at f_item_at d_item_at
  b_item_at : Binds K d_item_at p_item_at []
  g_item_at : mg "item_at" = some (.ref f_item_at)
  f_is_row : Addr
  d_is_row : FuncData
  F_is_row : Fun K "is_row" "is_row" s_is_row f_is_row d_is_row
  b_is_row : Binds K d_is_row p_is_row []
  g_is_row : mg "is_row" = some (.ref f_is_row)
  f_look_row : Addr
  d_look_row : FuncData
  F_look_row : Fun K "look_row" "look_row" s_look_row f_look_row d_look_row
  b_look_row : Binds K d_look_row p_look_row []
  g_look_row : mg "look_row" = some (.ref f_look_row)
  f_sum_of : Addr
  d_sum_of : FuncData
  F_sum_of : Fun K "sum_of" "sum_of" s_sum_of f_sum_of d_sum_of
  b_sum_of : Binds K d_sum_of p_sum_of []
  g_sum_of : mg "sum_of" = some (.ref f_sum_of)
  f_check_of : Addr
  d_check_of : FuncData
  F_check_of : Fun K "check_of" "check_of" s_check_of f_check_of d_check_of
  b_check_of : Binds K d_check_of p_check_of []
  g_check_of : mg "check_of" = some (.ref f_check_of)
  f_row_within : Addr
  d_row_within : FuncData
  F_row_within : Fun K "row_within" "row_within" s_row_within f_row_within d_row_within
  b_row_within : Binds K d_row_within p_row_within []
  g_row_within : mg "row_within" = some (.ref f_row_within)
  f_Reader___init__ : Addr
  d_Reader___init__ : FuncData
  F_Reader___init__ : Fun K "__init__" "Reader.__init__" s_Reader___init__ f_Reader___init__ d_Reader___init__
  b_Reader___init__ : Binds K d_Reader___init__ p_Reader___init__ []
  f_Reader_heard : Addr
  d_Reader_heard : FuncData
  F_Reader_heard : Fun K "heard" "Reader.heard" s_Reader_heard f_Reader_heard d_Reader_heard
  b_Reader_heard : Binds K d_Reader_heard p_Reader_heard []
  f_Reader_in_step : Addr
  d_Reader_in_step : FuncData
  F_Reader_in_step : Fun K "in_step" "Reader.in_step" s_Reader_in_step f_Reader_in_step d_Reader_in_step
  b_Reader_in_step : Binds K d_Reader_in_step p_Reader_in_step []
  f_Reader_poise_now : Addr
  d_Reader_poise_now : FuncData
  F_Reader_poise_now : Fun K "poise_now" "Reader.poise_now" s_Reader_poise_now f_Reader_poise_now d_Reader_poise_now
  b_Reader_poise_now : Binds K d_Reader_poise_now p_Reader_poise_now []
  f_Reader_waiting : Addr
  d_Reader_waiting : FuncData
  F_Reader_waiting : Fun K "waiting" "Reader.waiting" s_Reader_waiting f_Reader_waiting d_Reader_waiting
  b_Reader_waiting : Binds K d_Reader_waiting p_Reader_waiting []
  f_Taker___init__ : Addr
  d_Taker___init__ : FuncData
  F_Taker___init__ : Fun K "__init__" "Taker.__init__" s_Taker___init__ f_Taker___init__ d_Taker___init__
  b_Taker___init__ : Binds K d_Taker___init__ p_Taker___init__ []
  f_Taker_took : Addr
  d_Taker_took : FuncData
  F_Taker_took : Fun K "took" "Taker.took" s_Taker_took f_Taker_took d_Taker_took
  b_Taker_took : Binds K d_Taker_took p_Taker_took []
  f_Taker_within : Addr
  d_Taker_within : FuncData
  F_Taker_within : Fun K "within" "Taker.within" s_Taker_within f_Taker_within d_Taker_within
  b_Taker_within : Binds K d_Taker_within p_Taker_within []
  f_Ear___init__ : Addr
  d_Ear___init__ : FuncData
  F_Ear___init__ : Fun K "__init__" "Ear.__init__" s_Ear___init__ f_Ear___init__ d_Ear___init__
  b_Ear___init__ : Binds K d_Ear___init__ p_Ear___init__ []
  f_Ear_in_step : Addr
  d_Ear_in_step : FuncData
  F_Ear_in_step : Fun K "in_step" "Ear.in_step" s_Ear_in_step f_Ear_in_step d_Ear_in_step
  b_Ear_in_step : Binds K d_Ear_in_step p_Ear_in_step []
  f__law_town : Addr
  d__law_town : FuncData
  F__law_town : Fun K "_law_town" "_law_town" s__law_town f__law_town d__law_town
  b__law_town : Binds K d__law_town p__law_town []
  g__law_town : mg "_law_town" = some (.ref f__law_town)
  f__law_draw : Addr
  d__law_draw : FuncData
  F__law_draw : Fun K "_law_draw" "_law_draw" s__law_draw f__law_draw d__law_draw
  b__law_draw : Binds K d__law_draw p__law_draw []
  g__law_draw : mg "_law_draw" = some (.ref f__law_draw)
  f__law_pick : Addr
  d__law_pick : FuncData
  F__law_pick : Fun K "_law_pick" "_law_pick" s__law_pick f__law_pick d__law_pick
  b__law_pick : Binds K d__law_pick p__law_pick []
  g__law_pick : mg "_law_pick" = some (.ref f__law_pick)
  f__law_ten : Addr
  d__law_ten : FuncData
  F__law_ten : Fun K "_law_ten" "_law_ten" s__law_ten f__law_ten d__law_ten
  b__law_ten : Binds K d__law_ten p__law_ten []
  g__law_ten : mg "_law_ten" = some (.ref f__law_ten)
  f__law_even : Addr
  d__law_even : FuncData
  F__law_even : Fun K "_law_even" "_law_even" s__law_even f__law_even d__law_even
  b__law_even : Binds K d__law_even p__law_even []
  g__law_even : mg "_law_even" = some (.ref f__law_even)
  f__law_heavy : Addr
  d__law_heavy : FuncData
  F__law_heavy : Fun K "_law_heavy" "_law_heavy" s__law_heavy f__law_heavy d__law_heavy
  b__law_heavy : Binds K d__law_heavy p__law_heavy []
  g__law_heavy : mg "_law_heavy" = some (.ref f__law_heavy)
  f__law_has_pair : Addr
  d__law_has_pair : FuncData
  F__law_has_pair : Fun K "_law_has_pair" "_law_has_pair" s__law_has_pair f__law_has_pair d__law_has_pair
  b__law_has_pair : Binds K d__law_has_pair p__law_has_pair []
  g__law_has_pair : mg "_law_has_pair" = some (.ref f__law_has_pair)
  f__law_put : Addr
  d__law_put : FuncData
  F__law_put : Fun K "_law_put" "_law_put" s__law_put f__law_put d__law_put
  b__law_put : Binds K d__law_put p__law_put []
  g__law_put : mg "_law_put" = some (.ref f__law_put)
  f__law_sent : Addr
  d__law_sent : FuncData
  F__law_sent : Fun K "_law_sent" "_law_sent" s__law_sent f__law_sent d__law_sent
  b__law_sent : Binds K d__law_sent p__law_sent []
  g__law_sent : mg "_law_sent" = some (.ref f__law_sent)
  f__law_byte : Addr
  d__law_byte : FuncData
  F__law_byte : Fun K "_law_byte" "_law_byte" s__law_byte f__law_byte d__law_byte
  b__law_byte : Binds K d__law_byte p__law_byte []
  g__law_byte : mg "_law_byte" = some (.ref f__law_byte)
  f__law_row : Addr
  d__law_row : FuncData
  F__law_row : Fun K "_law_row" "_law_row" s__law_row f__law_row d__law_row
  b__law_row : Binds K d__law_row p__law_row []
  g__law_row : mg "_law_row" = some (.ref f__law_row)
  f__law_check : Addr
  d__law_check : FuncData
  F__law_check : Fun K "_law_check" "_law_check" s__law_check f__law_check d__law_check
  b__law_check : Binds K d__law_check p__law_check []
  g__law_check : mg "_law_check" = some (.ref f__law_check)
  f__law_frame : Addr
  d__law_frame : FuncData
  F__law_frame : Fun K "_law_frame" "_law_frame" s__law_frame f__law_frame d__law_frame
  b__law_frame : Binds K d__law_frame p__law_frame []
  g__law_frame : mg "_law_frame" = some (.ref f__law_frame)
  f__law_gap : Addr
  d__law_gap : FuncData
  F__law_gap : Fun K "_law_gap" "_law_gap" s__law_gap f__law_gap d__law_gap
  b__law_gap : Binds K d__law_gap p__law_gap []
  g__law_gap : mg "_law_gap" = some (.ref f__law_gap)
  f__law_cuts : Addr
  d__law_cuts : FuncData
  F__law_cuts : Fun K "_law_cuts" "_law_cuts" s__law_cuts f__law_cuts d__law_cuts
  b__law_cuts : Binds K d__law_cuts p__law_cuts []
  g__law_cuts : mg "_law_cuts" = some (.ref f__law_cuts)
  f_Reader_found : Addr
  d_Reader_found : FuncData
  F_Reader_found : Fun K "found" "Reader.found" s_Reader_found f_Reader_found d_Reader_found
  b_Reader_found : Binds K d_Reader_found p_Reader_found []
  f_Taker_take : Addr
  d_Taker_take : FuncData
  F_Taker_take : Fun K "take" "Taker.take" s_Taker_take f_Taker_take d_Taker_take
  b_Taker_take : Binds K d_Taker_take p_Taker_take []
  f_Reader_hear : Addr
  d_Reader_hear : FuncData
  F_Reader_hear : Fun K "hear" "Reader.hear" s_Reader_hear f_Reader_hear d_Reader_hear
  b_Reader_hear : Binds K d_Reader_hear p_Reader_hear []
  f_Ear_hear : Addr
  d_Ear_hear : FuncData
  F_Ear_hear : Fun K "hear" "Ear.hear" s_Ear_hear f_Ear_hear d_Ear_hear
  b_Ear_hear : Binds K d_Ear_hear p_Ear_hear []
  f_law : Addr
  d_law : FuncData
  F_law : Fun K "law" "law" s_law f_law d_law
  b_law : Binds K d_law p_law []
  g_law : mg "law" = some (.ref f_law)
  g_BEGIN : (t : Tok) ×' mg "BEGIN" = some (.str "begin" t)
  a_CONTROLS : Addr
  g_CONTROLS : mg "CONTROLS" = some (.ref a_CONTROLS)
  k_CONTROLS : KTup K a_CONTROLS cv_CONTROLS
  a_EVEN : Addr
  g_EVEN : mg "EVEN" = some (.ref a_EVEN)
  k_EVEN : KTup K a_EVEN cv_EVEN
  a_HEAVY : Addr
  g_HEAVY : mg "HEAVY" = some (.ref a_HEAVY)
  k_HEAVY : KTup K a_HEAVY cv_HEAVY
  g_LONG : (t : Tok) ×' mg "LONG" = some (.int 10 t)
  g_LOST : (t : Tok) ×' mg "LOST" = some (.str "lost" t)
  g_MARK : (t : Tok) ×' mg "MARK" = some (.int 250 t)
  g_MODULUS : (t : Tok) ×' mg "MODULUS" = some (.int 65521 t)
  g_MOST : (t : Tok) ×' mg "MOST" = some (.int 1023 t)
  g_MOST_ROW : (t : Tok) ×' mg "MOST_ROW" = some (.int 64 t)
  g_PAIRS : (t : Tok) ×' mg "PAIRS" = some (.int 76 t)
  a_SIGNS : Addr
  g_SIGNS : mg "SIGNS" = some (.ref a_SIGNS)
  b0_SIGNS : Addr
  k0_SIGNS : KTup K b0_SIGNS (n0_SIGNS.map V.int)
  b1_SIGNS : Addr
  k1_SIGNS : KTup K b1_SIGNS (n1_SIGNS.map V.int)
  k_SIGNS : KTup K a_SIGNS [V.ref b0_SIGNS, V.ref b1_SIGNS]
  n_all : mg "all" = none
  n_bool : mg "bool" = none
  n_divmod : mg "divmod" = none
  n_enumerate : mg "enumerate" = none
  n_int : mg "int" = none
  n_isinstance : mg "isinstance" = none
  n_len : mg "len" = none
  n_list : mg "list" = none
  n_min : mg "min" = none
  n_range : mg "range" = none
  n_str : mg "str" = none
  n_sum : mg "sum" = none
  n_tuple : mg "tuple" = none
  c_BadBits : Addr
  g_BadBits : mg "BadBits" = some (.ref c_BadBits)
  x_BadBits : PySem.W.excIn K c_BadBits [.type "ValueError", .type "Exception", .type "BaseException", .type "object"] "ValueError.__new__" = true
  k_BadBits : PySem.W.keepIn K (.ref c_BadBits) = true
  b_BadBits : PySem.W.subIn K (.ref c_BadBits) (.type "BaseException") = some true
  t_BadBits : PySem.W.typeIn K (.ref c_BadBits) = some (.type "type")
  c_BadItem : Addr
  g_BadItem : mg "BadItem" = some (.ref c_BadItem)
  x_BadItem : PySem.W.excIn K c_BadItem [.type "ValueError", .type "Exception", .type "BaseException", .type "object"] "ValueError.__new__" = true
  k_BadItem : PySem.W.keepIn K (.ref c_BadItem) = true
  b_BadItem : PySem.W.subIn K (.ref c_BadItem) (.type "BaseException") = some true
  t_BadItem : PySem.W.typeIn K (.ref c_BadItem) = some (.type "type")
  c_BadRow : Addr
  g_BadRow : mg "BadRow" = some (.ref c_BadRow)
  x_BadRow : PySem.W.excIn K c_BadRow [.type "ValueError", .type "Exception", .type "BaseException", .type "object"] "ValueError.__new__" = true
  k_BadRow : PySem.W.keepIn K (.ref c_BadRow) = true
  b_BadRow : PySem.W.subIn K (.ref c_BadRow) (.type "BaseException") = some true
  t_BadRow : PySem.W.typeIn K (.ref c_BadRow) = some (.type "type")
  c_Ear : Addr
  g_Ear : mg "Ear" = some (.ref c_Ear)
  l_Ear : Cls K c_Ear
  a_Ear : naB K c_Ear ["reader", "taker"] = true
  k_Ear : Mk K c_Ear f_Ear___init__
  m_Ear_in_step : Meth K c_Ear "in_step" f_Ear_in_step
  m_Ear_hear : Meth K c_Ear "hear" f_Ear_hear
  c_Reader : Addr
  g_Reader : mg "Reader" = some (.ref c_Reader)
  l_Reader : Cls K c_Reader
  a_Reader : naB K c_Reader ["last", "part", "poise"] = true
  k_Reader : Mk K c_Reader f_Reader___init__
  m_Reader_heard : Meth K c_Reader "heard" f_Reader_heard
  m_Reader_in_step : Meth K c_Reader "in_step" f_Reader_in_step
  m_Reader_poise_now : Meth K c_Reader "poise_now" f_Reader_poise_now
  m_Reader_waiting : Meth K c_Reader "waiting" f_Reader_waiting
  m_Reader_found : Meth K c_Reader "found" f_Reader_found
  m_Reader_hear : Meth K c_Reader "hear" f_Reader_hear
  c_Taker : Addr
  g_Taker : mg "Taker" = some (.ref c_Taker)
  l_Taker : Cls K c_Taker
  a_Taker : naB K c_Taker ["some"] = true
  k_Taker : Mk K c_Taker f_Taker___init__
  m_Taker_took : Meth K c_Taker "took" f_Taker_took
  m_Taker_within : Meth K c_Taker "within" f_Taker_within
  m_Taker_take : Meth K c_Taker "take" f_Taker_take
section
variable {P : Program} {w : World} {K : PySem.W.Frag} {mg : Str → Option Value} {base : Heap}
theorem Tx.r_BadBits (T : Tx K mg) {X : Cx} (hK : X.K = K := by rfl) : Raises X (.ref T.c_BadBits) := raises_own (by rw [hK]; exact T.b_BadBits) (by rw [hK]; exact T.t_BadBits)
theorem Tx.r_BadItem (T : Tx K mg) {X : Cx} (hK : X.K = K := by rfl) : Raises X (.ref T.c_BadItem) := raises_own (by rw [hK]; exact T.b_BadItem) (by rw [hK]; exact T.t_BadItem)
theorem Tx.r_BadRow (T : Tx K mg) {X : Cx} (hK : X.K = K := by rfl) : Raises X (.ref T.c_BadRow) := raises_own (by rw [hK]; exact T.b_BadRow) (by rw [hK]; exact T.t_BadRow)
theorem ok__wall (T : Tx K mg) : FnOk P w K mg base (L2.CX P w) 1 T.f__wall T.d__wall p__wall (liftSp K mg z__wall) :=
  z_ok false (k := 0) (zb := zb__wall) T.F__wall sc__wall (n := 0) rfl (fun ds M R RE h => by
    unfold z__wall at h
    split at h
    · exact ⟨rfl, h⟩
    · exact h.elim)
  fun cdv A outer s H E F0 zE hr wk => (zss_one (zs_while (passes_of rfl) (zt_val ze_bl) (zss_one zs_pass)))
theorem ok_is_whole (T : Tx K mg) : FnOk P w K mg base (L2.CX P w) 1 T.f_is_whole T.d_is_whole p_is_whole (liftSp K mg z_is_whole) :=
  z_ok false (k := 0) (zb := zb_is_whole) T.F_is_whole sc_is_whole (n := 0) rfl (fun ds M R RE h => by
    unfold z_is_whole at h
    split at h
    · exact ⟨rfl, h⟩
    · exact h.elim)
  fun cdv A outer s H E F0 zE hr wk => (zss_one (zs_ret (ze_and (ze_isi (T := "int") (ze_var 0) T.n_isinstance T.n_int (by decide +kernel)) (ze_and (ze_not (ze_isi (T := "bool") (ze_var 0) T.n_isinstance T.n_bool (by decide +kernel))) (ze_one (ze_chain op_le (sndB0 (g := pLe)) op_le (sndB0 (g := pLe)) (ze_var 1) (ze_var 0) (ze_var 2)))))))
theorem ok_look_bits (T : Tx K mg) : FnOk P w K mg base (L2.CX P w) 2 T.f_look_bits T.d_look_bits p_look_bits (liftSp K mg z_look_bits) :=
  z_ok false (k := 1) (zb := zb_look_bits) T.F_look_bits sc_look_bits (n := 1) rfl (fun ds M R RE h => by
    unfold z_look_bits at h
    split at h
    · exact ⟨rfl, h⟩
    · exact h.elim)
  fun cdv A outer s H E F0 zE hr wk => (zss_one (zs_if (zt_w (zw_or (zt_not (zt_val (ze_isi (T := "list") (ze_var 0) T.n_isinstance T.n_list (by decide +kernel)))) (zw_or1 (zt_not (zt_val (ze_cb (cr_all rfl) snd_all T.n_all (by decide +kernel) (za_cons (ze_lc (own := [("bit", 1)]) false rfl sc_look_bits.nd (zi_list (ze_var 0)) (blkOk_by (N := N_look_bits) (sc := defScope s_look_bits) (by decide +kernel)) (tg_name (by decide)) (fun _ _ _ _ _ => (pg_name (i := 1) sc_look_bits.nd rfl (by first | exact Or.inl rfl | exact Or.inr rfl))) (fun _ _ _ _ _ => zts_nil) (fun _ _ _ _ _ => (ze_call (ok_is_whole T) (hr.mono (by decide)) T.g_is_whole T.F_is_whole.kp T.b_is_whole takes0 wok0 (za_cons (ze_var 1) (za_cons ze_int (za_cons ze_int za_nil)))))) za_nil))))))) (zss_one (zs_raise rfl (takes_of rfl rfl rfl rfl) wk PySem.F.excBase_ValueError T.x_BadBits T.g_BadBits T.k_BadBits T.r_BadBits))
  zss_nil))
theorem ok_word_of (T : Tx K mg) : FnOk P w K mg base (L2.CX P w) 3 T.f_word_of T.d_word_of p_word_of (liftSp K mg z_word_of) :=
  z_ok false (k := 2) (zb := zb_word_of) T.F_word_of sc_word_of (n := 2) rfl (fun ds M R RE h => by
    unfold z_word_of at h
    split at h
    · exact ⟨rfl, h⟩
    · exact h.elim)
  fun cdv A outer s H E F0 zE hr wk => (zss_cons (zs_expr (ze_call (ok_look_bits T) (hr.mono (by decide)) T.g_look_bits T.F_look_bits.kp T.b_look_bits (takes_of rfl rfl rfl rfl) wk (za_cons (ze_var 0) za_nil)))
  (zss_cons (zs_if (zt_cmp (op_neZ hr.units) snd_ne (ze_cb call_len snd_len T.n_len (by decide +kernel) (za_cons (ze_var 0) za_nil)) (ze_glob (v := .int 10) rfl T.g_LONG.2 ⟨_, rfl⟩ (fun _ => .int _)) (by first | exact nobehind _ (by decide) (by decide) | rfl)) (zss_one (zs_raise rfl (takes_of rfl rfl rfl rfl) wk PySem.F.excBase_ValueError T.x_BadBits T.g_BadBits T.k_BadBits T.r_BadBits))
  zss_nil)
  (zss_cons (zs_set (i := 1) sc_word_of.nd ze_int)
  (zss_cons (zs_for (passes_of rfl) rfl (zi_list (ze_var 0)) (zg_name (i := 2) sc_word_of.nd) (zss_one (zs_set (i := 1) sc_word_of.nd (ze_add false (ze_mul false ze_int (ze_var 1)) (ze_var 2)))))
  (zss_one (zs_ret (ze_var 1)))))))
theorem ok_is_item (T : Tx K mg) : FnOk P w K mg base (L2.CX P w) 2 T.f_is_item T.d_is_item p_is_item (liftSp K mg z_is_item) :=
  z_ok false (k := 1) (zb := zb_is_item) T.F_is_item sc_is_item (n := 0) rfl (fun ds M R RE h => by
    unfold z_is_item at h
    split at h
    · exact ⟨rfl, h⟩
    · exact h.elim)
  fun cdv A outer s H E F0 zE hr wk => (zss_cons (zs_if (zt_val (ze_isi (T := "str") (ze_var 0) T.n_isinstance T.n_str (by decide +kernel))) (zss_one (zs_ret (ze_or (ze_cmp (op_eqZ hr.units) snd_eq (ze_var 0) (ze_glob (v := .str "begin") rfl T.g_BEGIN.2 ⟨_, rfl⟩ (fun _ => .str (by decide +kernel) (by decide +kernel))) (by first | exact nobehind _ (by decide) (by decide) | rfl)) (ze_one (ze_cmp op_inZ (snd_in false) (ze_var 0) (ze_glob (v := .ref T.a_CONTROLS) rfl T.g_CONTROLS rfl (ktup_rep T.k_CONTROLS rl_CONTROLS)) (by first | exact nobehind _ (by decide) (by decide) | rfl))))))
  zss_nil)
  (zss_one (zs_ret (ze_call (ok_is_whole T) (hr.mono (by decide)) T.g_is_whole T.F_is_whole.kp T.b_is_whole (takes_of rfl rfl rfl rfl) wk (za_cons (ze_var 0) (za_cons ze_int (za_cons ze_int za_nil)))))))
theorem ok_pair_item (T : Tx K mg) : FnOk P w K mg base (L2.CX P w) 1 T.f_pair_item T.d_pair_item p_pair_item (liftSp K mg z_pair_item) :=
  z_ok false (k := 0) (zb := zb_pair_item) T.F_pair_item sc_pair_item (n := 1) rfl (fun ds M R RE h => by
    unfold z_pair_item at h
    split at h
    · exact ⟨rfl, h⟩
    · exact h.elim)
  fun cdv A outer s H E F0 zE hr wk => (zss_cons (zs_if (zt_cmp (op_eqZ hr.units) snd_eq (ze_var 0) (ze_glob (v := .int 250) rfl T.g_MARK.2 ⟨_, rfl⟩ (fun _ => .int _)) (by first | exact nobehind _ (by decide) (by decide) | rfl)) (zss_one (zs_ret (ze_glob (v := .str "begin") rfl T.g_BEGIN.2 ⟨_, rfl⟩ (fun _ => .str (by decide +kernel) (by decide +kernel)))))
  zss_nil)
  (zss_cons (zs_if (zt_cmp op_notInZ (snd_in true) (ze_var 0) (ze_glob (v := .ref T.a_HEAVY) rfl T.g_HEAVY rfl (ktup_rep T.k_HEAVY rl_HEAVY)) (by first | exact nobehind _ (by decide) (by decide) | rfl)) (zss_one (zs_ret ze_non))
  zss_nil)
  (zss_cons (zs_set (i := 1) sc_pair_item.nd (ze_tidx (vs := cv_HEAVY) T.g_HEAVY T.k_HEAVY rl_HEAVY fl_HEAVY (za_cons (ze_var 0) za_nil)))
  (zss_cons (zs_if (zt_cmp op_lt (sndB0 (g := pLt)) (ze_var 1) (ze_glob (v := .int 76) rfl T.g_PAIRS.2 ⟨_, rfl⟩ (fun _ => .int _)) (by first | exact nobehind _ (by decide) (by decide) | rfl)) (zss_one (zs_ret (ze_add false (ze_cb call_len snd_len T.n_len (by decide +kernel) (za_cons (ze_glob (v := .ref T.a_EVEN) rfl T.g_EVEN rfl (ktup_rep T.k_EVEN rl_EVEN)) za_nil)) (ze_var 1))))
  zss_nil)
  (zss_one (zs_ret (ze_if (zt_cmp op_lt (sndB0 (g := pLt)) (ze_var 1) (ze_add false (ze_glob (v := .int 76) rfl T.g_PAIRS.2 ⟨_, rfl⟩ (fun _ => .int _)) (ze_cb call_len snd_len T.n_len (by decide +kernel) (za_cons (ze_glob (v := .ref T.a_CONTROLS) rfl T.g_CONTROLS rfl (ktup_rep T.k_CONTROLS rl_CONTROLS)) za_nil))) (by first | exact nobehind _ (by decide) (by decide) | rfl)) (ze_ix (ze_glob (v := .ref T.a_CONTROLS) rfl T.g_CONTROLS rfl (ktup_rep T.k_CONTROLS rl_CONTROLS)) (ze_sub (ze_var 1) (ze_glob (v := .int 76) rfl T.g_PAIRS.2 ⟨_, rfl⟩ (fun _ => .int _))) (fun _ _ => rfl)) ze_non)))))))
theorem ok_item_at (T : Tx K mg) : FnOk P w K mg base (L2.CX P w) 2 T.f_item_at T.d_item_at p_item_at (liftSp K mg z_item_at) :=
  z_ok false (k := 1) (zb := zb_item_at) T.F_item_at sc_item_at (n := 0) rfl (fun ds M R RE h => by
    unfold z_item_at at h
    split at h
    · exact ⟨rfl, h⟩
    · exact h.elim)
  fun cdv A outer s H E F0 zE hr wk => (zss_cons (zs_if (zt_cmp op_inZ (snd_in false) (ze_var 0) (ze_glob (v := .ref T.a_EVEN) rfl T.g_EVEN rfl (ktup_rep T.k_EVEN rl_EVEN)) (by first | exact nobehind _ (by decide) (by decide) | rfl)) (zss_one (zs_ret (ze_tup (za_cons (ze_tidx (vs := cv_EVEN) T.g_EVEN T.k_EVEN rl_EVEN fl_EVEN (za_cons (ze_var 0) za_nil)) (za_cons ze_int za_nil)))))
  zss_nil)
  (zss_cons (zs_if (zt_cmp (OpR.or op_notN op_notBl) snd_isNot (ze_call (ok_pair_item T) (hr.mono (by decide)) T.g_pair_item T.F_pair_item.kp T.b_pair_item (takes_of rfl rfl rfl rfl) wk (za_cons (ze_var 0) za_nil)) ze_non (by first | exact nobehind _ (by decide) (by decide) | rfl)) (zss_one (zs_ret (ze_tup (za_cons (ze_call (ok_pair_item T) (hr.mono (by decide)) T.g_pair_item T.F_pair_item.kp T.b_pair_item (takes_of rfl rfl rfl rfl) wk (za_cons (ze_var 0) za_nil)) (za_cons ze_int za_nil)))))
  zss_nil)
  (zss_cons (zs_if (zt_cmp (OpR.or op_notN op_notBl) snd_isNot (ze_call (ok_pair_item T) (hr.mono (by decide)) T.g_pair_item T.F_pair_item.kp T.b_pair_item (takes_of rfl rfl rfl rfl) wk (za_cons (ze_sub (ze_glob (v := .int 1023) rfl T.g_MOST.2 ⟨_, rfl⟩ (fun _ => .int _)) (ze_var 0)) za_nil)) ze_non (by first | exact nobehind _ (by decide) (by decide) | rfl)) (zss_one (zs_ret (ze_tup (za_cons (ze_call (ok_pair_item T) (hr.mono (by decide)) T.g_pair_item T.F_pair_item.kp T.b_pair_item (takes_of rfl rfl rfl rfl) wk (za_cons (ze_sub (ze_glob (v := .int 1023) rfl T.g_MOST.2 ⟨_, rfl⟩ (fun _ => .int _)) (ze_var 0)) za_nil)) (za_cons (ze_sub ze_int ze_int) za_nil)))))
  zss_nil)
  (zss_one (zs_ret ze_non)))))
theorem ok_is_row (T : Tx K mg) : FnOk P w K mg base (L2.CX P w) 2 T.f_is_row T.d_is_row p_is_row (liftSp K mg z_is_row) :=
  z_ok false (k := 1) (zb := zb_is_row) T.F_is_row sc_is_row (n := 1) rfl (fun ds M R RE h => by
    unfold z_is_row at h
    split at h
    · exact ⟨rfl, h⟩
    · exact h.elim)
  fun cdv A outer s H E F0 zE hr wk => (zss_cons (zs_if (zt_w (zw_or (zt_not (zt_val (ze_isi (T := "list") (ze_var 0) T.n_isinstance T.n_list (by decide +kernel)))) (zw_or1 (zt_cmp op_gt (sndB0 (g := pGt)) (ze_cb call_len snd_len T.n_len (by decide +kernel) (za_cons (ze_var 0) za_nil)) (ze_var 1) (by first | exact nobehind _ (by decide) (by decide) | rfl))))) (zss_one (zs_ret ze_bl))
  zss_nil)
  (zss_one (zs_ret (ze_cb (cr_all rfl) snd_all T.n_all (by decide +kernel) (za_cons (ze_lc (own := [("byte", 2)]) false rfl sc_is_row.nd (zi_list (ze_var 0)) (blkOk_by (N := N_is_row) (sc := defScope s_is_row) (by decide +kernel)) (tg_name (by decide)) (fun _ _ _ _ _ => (pg_name (i := 2) sc_is_row.nd rfl (by first | exact Or.inl rfl | exact Or.inr rfl))) (fun _ _ _ _ _ => zts_nil) (fun _ _ _ _ _ => (ze_call (ok_is_whole T) (hr.mono (by decide)) T.g_is_whole T.F_is_whole.kp T.b_is_whole takes0 wok0 (za_cons (ze_var 2) (za_cons ze_int (za_cons ze_int za_nil)))))) za_nil)))))
theorem ok_look_row (T : Tx K mg) : FnOk P w K mg base (L2.CX P w) 3 T.f_look_row T.d_look_row p_look_row (liftSp K mg z_look_row) :=
  z_ok false (k := 2) (zb := zb_look_row) T.F_look_row sc_look_row (n := 0) rfl (fun ds M R RE h => by
    unfold z_look_row at h
    split at h
    · exact ⟨rfl, h⟩
    · exact h.elim)
  fun cdv A outer s H E F0 zE hr wk => (zss_one (zs_if (zt_not (zt_val (ze_call (ok_is_row T) (hr.mono (by decide)) T.g_is_row T.F_is_row.kp T.b_is_row (takes_of rfl rfl rfl rfl) wk (za_cons (ze_var 0) (za_cons (ze_var 1) za_nil))))) (zss_one (zs_raise rfl (takes_of rfl rfl rfl rfl) wk PySem.F.excBase_ValueError T.x_BadRow T.g_BadRow T.k_BadRow T.r_BadRow))
  zss_nil))
theorem ok_sum_of (T : Tx K mg) : FnOk P w K mg base (L2.CX P w) 1 T.f_sum_of T.d_sum_of p_sum_of (liftSp K mg z_sum_of) :=
  z_ok false (k := 0) (zb := zb_sum_of) T.F_sum_of sc_sum_of (n := 2) rfl (fun ds M R RE h => by
    unfold z_sum_of at h
    split at h
    · exact ⟨rfl, h⟩
    · exact h.elim)
  fun cdv A outer s H E F0 zE hr wk => (zss_one (zs_ret (ze_mod (ze_cb (cr_sum rfl) snd_sum T.n_sum (by decide +kernel) (za_cons (ze_lc (own := [("k", 1), ("byte", 2)]) false rfl sc_sum_of.nd (zi_enumR T.n_enumerate (za_cons (ze_var 0) za_nil)) (blkOk_by (N := N_sum_of) (sc := defScope s_sum_of) (by decide +kernel)) (tg_pair (by decide) (by decide)) (fun _ _ _ _ _ => (pg_tup rfl (pgs_cons (pg_name (i := 1) sc_sum_of.nd rfl (by first | exact Or.inl rfl | exact Or.inr rfl)) (pgs_cons (pg_name (i := 2) sc_sum_of.nd rfl (by first | exact Or.inl rfl | exact Or.inr rfl)) pgs_nil)))) (fun _ _ _ _ _ => zts_nil) (fun _ _ _ _ _ => (ze_mul false (ze_add false (ze_var 1) ze_int) (ze_add false (ze_var 2) ze_int)))) za_nil)) (ze_glob (v := .int 65521) rfl T.g_MODULUS.2 ⟨_, rfl⟩ (fun _ => .int _)))))
theorem ok_check_of (T : Tx K mg) : FnOk P w K mg base (L2.CX P w) 4 T.f_check_of T.d_check_of p_check_of (liftSp K mg z_check_of) :=
  z_ok true (k := 3) (zb := zb_check_of) T.F_check_of sc_check_of (n := 0) rfl (fun ds M R RE h => by
    unfold z_check_of at h
    split at h
    · exact ⟨rfl, h⟩
    · exact h.elim)
  fun cdv A outer s H E F0 zE hr wk => (zss_cons (zs_expr (ze_call (ok_look_row T) (hr.mono (by decide)) T.g_look_row T.F_look_row.kp T.b_look_row (takes_of rfl rfl rfl rfl) wk (za_cons (ze_var 0) (za_cons (ze_glob (v := .int 64) rfl T.g_MOST_ROW.2 ⟨_, rfl⟩ (fun _ => .int _)) za_nil))))
  (zss_one (zs_ret (ze_ct call_list_of (snd_list true) T.n_list (by decide +kernel) (za_cons (ze_cb call_divmod snd_divmod T.n_divmod (by decide +kernel) (za_cons (ze_call (ok_sum_of T) (hr.mono (by decide)) T.g_sum_of T.F_sum_of.kp T.b_sum_of (takes_of rfl rfl rfl rfl) wk (za_cons (ze_var 0) za_nil)) (za_cons ze_int za_nil))) za_nil)))))
theorem ok_row_within (T : Tx K mg) : FnOk P w K mg base (L2.CX P w) 5 T.f_row_within T.d_row_within p_row_within (liftSp K mg z_row_within) :=
  z_ok false (k := 4) (zb := zb_row_within) T.F_row_within sc_row_within (n := 1) rfl (fun ds M R RE h => by
    unfold z_row_within at h
    split at h
    · exact ⟨rfl, h⟩
    · exact h.elim)
  fun cdv A outer s H E F0 zE hr wk => (zss_cons (zs_if (zt_w (zw_or (zt_cmp (op_eqZ hr.units) snd_eq (ze_var 0) (ze_lst false za_nil) (by first | exact nobehind _ (by decide) (by decide) | rfl)) (zw_or (zt_cmp op_gt (sndB0 (g := pGt)) (ze_ix (ze_var 0) ze_int (fun _ _ => rfl)) (ze_glob (v := .int 64) rfl T.g_MOST_ROW.2 ⟨_, rfl⟩ (fun _ => .int _)) (by first | exact nobehind _ (by decide) (by decide) | rfl)) (zw_or1 (zt_cmp (op_neZ hr.units) snd_ne (ze_cb call_len snd_len T.n_len (by decide +kernel) (za_cons (ze_var 0) za_nil)) (ze_add false (ze_ix (ze_var 0) ze_int (fun _ _ => rfl)) ze_int) (by first | exact nobehind _ (by decide) (by decide) | rfl)))))) (zss_one (zs_ret ze_non))
  zss_nil)
  (zss_cons (zs_set (i := 1) sc_row_within.nd (ze_any (ze_sl false (ze_var 0) (zo_some ze_int) (zo_some (ze_neg ze_int))) (ze_sl true (ze_var 0) (zo_some ze_int) (zo_some (ze_neg ze_int)))))
  (zss_one (zs_ret (ze_if (zt_cmp (op_eqZ hr.units) snd_eq (ze_call (ok_check_of T) (hr.mono (by decide)) T.g_check_of T.F_check_of.kp T.b_check_of (takes_of rfl rfl rfl rfl) wk (za_cons (ze_var 1) za_nil)) (ze_sl false (ze_var 0) (zo_some (ze_neg ze_int)) zo_none) (by first | exact nobehind _ (by decide) (by decide) | rfl)) (ze_var 1) ze_non)))))
theorem ok_Reader___init__ (T : Tx K mg) : FnOk P w K mg base (L2.CX P w) 1 T.f_Reader___init__ T.d_Reader___init__ p_Reader___init__ (liftSp K mg z_Reader___init__) :=
  z_ok false (k := 0) (zb := zb_Reader___init__) T.F_Reader___init__ sc_Reader___init__ (n := 0) rfl (fun ds M R RE h => by
    unfold z_Reader___init__ at h
    split at h
    · exact ⟨rfl, h⟩
    · exact h.elim)
  fun cdv A outer s H E F0 zE hr wk => (zss_cons (zs_setA T.g_Reader T.l_Reader (naB_ok T.a_Reader (by decide +kernel)) (ze_var 0) (ze_lst false za_nil))
  (zss_cons (zs_setA T.g_Reader T.l_Reader (naB_ok T.a_Reader (by decide +kernel)) (ze_var 0) ze_non)
  (zss_one (zs_setA T.g_Reader T.l_Reader (naB_ok T.a_Reader (by decide +kernel)) (ze_var 0) ze_non))))
theorem ok_Reader_heard (T : Tx K mg) : FnOk P w K mg base (L2.CX P w) 3 T.f_Reader_heard T.d_Reader_heard p_Reader_heard (liftSp K mg z_Reader_heard) :=
  z_ok true (k := 2) (zb := zb_Reader_heard) T.F_Reader_heard sc_Reader_heard (n := 3) rfl (fun ds M R RE h => by
    unfold z_Reader_heard at h
    split at h
    · exact ⟨rfl, h⟩
    · exact h.elim)
  fun cdv A outer s H E F0 zE hr wk => (zss_cons (zs_if (zt_cmp op_inZ (snd_in false) (ze_var 1) (ze_tup (za_cons (ze_glob (v := .int 250) rfl T.g_MARK.2 ⟨_, rfl⟩ (fun _ => .int _)) (za_cons (ze_sub (ze_glob (v := .int 1023) rfl T.g_MOST.2 ⟨_, rfl⟩ (fun _ => .int _)) (ze_glob (v := .int 250) rfl T.g_MARK.2 ⟨_, rfl⟩ (fun _ => .int _))) za_nil))) (by first | exact nobehind _ (by decide) (by decide) | rfl)) (zss_cons (zs_set (i := 2) sc_Reader_heard.nd (ze_if (zt_cmp (op_eqZ hr.units) snd_eq (ze_var 1) (ze_glob (v := .int 250) rfl T.g_MARK.2 ⟨_, rfl⟩ (fun _ => .int _)) (by first | exact nobehind _ (by decide) (by decide) | rfl)) (ze_sub ze_int ze_int) ze_int))
  (zss_cons (zs_set (i := 3) sc_Reader_heard.nd (ze_if (zt_w (zw_and (zt_cmp (OpR.or op_notN op_notBl) snd_isNot (ze_fld T.g_Reader T.l_Reader (naB_ok T.a_Reader (by decide +kernel)) (ze_var 0)) ze_non (by first | exact nobehind _ (by decide) (by decide) | rfl)) (zw_and1 (zt_cmp (op_neZ hr.units) snd_ne (ze_fld T.g_Reader T.l_Reader (naB_ok T.a_Reader (by decide +kernel)) (ze_var 0)) (ze_var 2) (by first | exact nobehind _ (by decide) (by decide) | rfl))))) (ze_lst false (za_cons (ze_glob (v := .str "lost") rfl T.g_LOST.2 ⟨_, rfl⟩ (fun _ => .str (by decide +kernel) (by decide +kernel))) za_nil)) (ze_lst false za_nil)))
  (zss_cons (zs_setA T.g_Reader T.l_Reader (naB_ok T.a_Reader (by decide +kernel)) (ze_var 0) (ze_sub ze_int (ze_var 2)))
  (zss_one (zs_ret (ze_add true (ze_var 3) (ze_lst false (za_cons (ze_glob (v := .str "begin") rfl T.g_BEGIN.2 ⟨_, rfl⟩ (fun _ => .str (by decide +kernel) (by decide +kernel))) za_nil))))))))
  zss_nil)
  (zss_cons (zs_set (i := 4) sc_Reader_heard.nd (ze_if (zt_cmp (OpR.or op_isN op_isBl) snd_is (ze_fld T.g_Reader T.l_Reader (naB_ok T.a_Reader (by decide +kernel)) (ze_var 0)) ze_non (by first | exact nobehind _ (by decide) (by decide) | rfl)) ze_non (ze_call (ok_item_at T) (hr.mono (by decide)) T.g_item_at T.F_item_at.kp T.b_item_at (takes_of rfl rfl rfl rfl) wk (za_cons (ze_var 1) za_nil))))
  (zss_cons (zs_if (zt_w (zw_or (zt_cmp (OpR.or op_isN op_isBl) snd_is (ze_var 4) ze_non (by first | exact nobehind _ (by decide) (by decide) | rfl)) (zw_or1 (zt_not (zt_chain op_le (sndB0 (g := pLe)) op_le (sndB0 (g := pLe)) (ze_sub ze_int ze_int) (ze_add false (ze_fld T.g_Reader T.l_Reader (naB_ok T.a_Reader (by decide +kernel)) (ze_var 0)) (ze_ix (ze_var 4) ze_int (fun _ _ => rfl))) ze_int))))) (zss_cons (zs_setA T.g_Reader T.l_Reader (naB_ok T.a_Reader (by decide +kernel)) (ze_var 0) ze_non)
  (zss_cons (zs_setA T.g_Reader T.l_Reader (naB_ok T.a_Reader (by decide +kernel)) (ze_var 0) ze_non)
  (zss_one (zs_ret (ze_lst true (za_cons (ze_glob (v := .str "lost") rfl T.g_LOST.2 ⟨_, rfl⟩ (fun _ => .str (by decide +kernel) (by decide +kernel))) za_nil))))))
  zss_nil)
  (zss_cons (zs_setA T.g_Reader T.l_Reader (naB_ok T.a_Reader (by decide +kernel)) (ze_var 0) (ze_add false (ze_fld T.g_Reader T.l_Reader (naB_ok T.a_Reader (by decide +kernel)) (ze_var 0)) (ze_ix (ze_var 4) ze_int (fun _ _ => rfl))))
  (zss_one (zs_ret (ze_lst true (za_cons (ze_ix (ze_var 4) ze_int (fun _ _ => rfl)) za_nil))))))))
theorem ok_Reader_in_step (T : Tx K mg) : FnOk P w K mg base (L2.CX P w) 1 T.f_Reader_in_step T.d_Reader_in_step p_Reader_in_step (liftSp K mg z_Reader_in_step) :=
  z_ok false (k := 0) (zb := zb_Reader_in_step) T.F_Reader_in_step sc_Reader_in_step (n := 0) rfl (fun ds M R RE h => by
    unfold z_Reader_in_step at h
    split at h
    · exact ⟨rfl, h⟩
    · exact h.elim)
  fun cdv A outer s H E F0 zE hr wk => (zss_one (zs_ret (ze_cmp (OpR.or op_notN op_notBl) snd_isNot (ze_fld T.g_Reader T.l_Reader (naB_ok T.a_Reader (by decide +kernel)) (ze_var 0)) ze_non (by first | exact nobehind _ (by decide) (by decide) | rfl))))
theorem ok_Reader_poise_now (T : Tx K mg) : FnOk P w K mg base (L2.CX P w) 2 T.f_Reader_poise_now T.d_Reader_poise_now p_Reader_poise_now (liftSp K mg z_Reader_poise_now) :=
  z_ok false (k := 1) (zb := zb_Reader_poise_now) T.F_Reader_poise_now sc_Reader_poise_now (n := 0) rfl (fun ds M R RE h => by
    unfold z_Reader_poise_now at h
    split at h
    · exact ⟨rfl, h⟩
    · exact h.elim)
  fun cdv A outer s H E F0 zE hr wk => (zss_one (zs_expr (ze_call (ok__wall T) (hr.mono (by decide)) T.g__wall T.F__wall.kp T.b__wall (takes_of rfl rfl rfl rfl) wk (za_cons ze_int za_nil))))
theorem ok_Reader_waiting (T : Tx K mg) : FnOk P w K mg base (L2.CX P w) 2 T.f_Reader_waiting T.d_Reader_waiting p_Reader_waiting (liftSp K mg z_Reader_waiting) :=
  z_ok false (k := 1) (zb := zb_Reader_waiting) T.F_Reader_waiting sc_Reader_waiting (n := 0) rfl (fun ds M R RE h => by
    unfold z_Reader_waiting at h
    split at h
    · exact ⟨rfl, h⟩
    · exact h.elim)
  fun cdv A outer s H E F0 zE hr wk => (zss_one (zs_expr (ze_call (ok__wall T) (hr.mono (by decide)) T.g__wall T.F__wall.kp T.b__wall (takes_of rfl rfl rfl rfl) wk (za_cons ze_int za_nil))))
theorem ok_Taker___init__ (T : Tx K mg) : FnOk P w K mg base (L2.CX P w) 1 T.f_Taker___init__ T.d_Taker___init__ p_Taker___init__ (liftSp K mg z_Taker___init__) :=
  z_ok false (k := 0) (zb := zb_Taker___init__) T.F_Taker___init__ sc_Taker___init__ (n := 0) rfl (fun ds M R RE h => by
    unfold z_Taker___init__ at h
    split at h
    · exact ⟨rfl, h⟩
    · exact h.elim)
  fun cdv A outer s H E F0 zE hr wk => (zss_one (zs_setA T.g_Taker T.l_Taker (naB_ok T.a_Taker (by decide +kernel)) (ze_var 0) ze_non))
theorem ok_Taker_took (T : Tx K mg) : FnOk P w K mg base (L2.CX P w) 6 T.f_Taker_took T.d_Taker_took p_Taker_took (liftSp K mg z_Taker_took) :=
  z_ok true (k := 5) (zb := zb_Taker_took) T.F_Taker_took sc_Taker_took (n := 2) rfl (fun ds M R RE h => by
    unfold z_Taker_took at h
    split at h
    · exact ⟨rfl, h⟩
    · exact h.elim)
  fun cdv A outer s H E F0 zE hr wk => (zss_cons (zs_if (zt_cmp (op_eqZ hr.units) snd_eq (ze_var 1) ze_str (by first | exact nobehind _ (by decide) (by decide) | rfl)) (zss_cons (zs_set (i := 2) sc_Taker_took.nd (ze_if (zt_cmp (OpR.or op_isN op_isBl) snd_is (ze_fld T.g_Taker T.l_Taker (naB_ok T.a_Taker (by decide +kernel)) (ze_var 0)) ze_non (by first | exact nobehind _ (by decide) (by decide) | rfl)) (ze_lst false za_nil) (ze_lst false (za_cons (ze_tup (za_cons ze_str (za_cons (ze_lst false za_nil) za_nil))) za_nil))))
  (zss_cons (zs_setA T.g_Taker T.l_Taker (naB_ok T.a_Taker (by decide +kernel)) (ze_var 0) (ze_lst true za_nil))
  (zss_one (zs_ret (ze_var 2)))))
  zss_nil)
  (zss_cons (zs_if (zt_w (zw_or (zt_cmp (OpR.or op_isN op_isBl) snd_is (ze_fld T.g_Taker T.l_Taker (naB_ok T.a_Taker (by decide +kernel)) (ze_var 0)) ze_non (by first | exact nobehind _ (by decide) (by decide) | rfl)) (zw_or1 (zt_cmp (op_eqZ hr.units) snd_eq (ze_var 1) ze_str (by first | exact nobehind _ (by decide) (by decide) | rfl))))) (zss_one (zs_ret (ze_lst true za_nil)))
  zss_nil)
  (zss_cons (zs_if (zt_w (zw_and (zt_not (zt_val (ze_isi (T := "str") (ze_var 1) T.n_isinstance T.n_str (by decide +kernel)))) (zw_and1 (zt_cmp op_lt (sndB0 (g := pLt)) (ze_cb call_len snd_len T.n_len (by decide +kernel) (za_cons (ze_fld T.g_Taker T.l_Taker (naB_ok T.a_Taker (by decide +kernel)) (ze_var 0)) za_nil)) (ze_add false (ze_glob (v := .int 64) rfl T.g_MOST_ROW.2 ⟨_, rfl⟩ (fun _ => .int _)) ze_int) (by first | exact nobehind _ (by decide) (by decide) | rfl))))) (zss_cons (zs_expr (ze_mL PySem.F.plainAttrs_list PySem.F.slot_list_append PySem.F.type_list_append mt_append snd_app (ze_fld T.g_Taker T.l_Taker (naB_ok T.a_Taker (by decide +kernel)) (ze_var 0)) (za_cons (ze_var 1) za_nil)))
  (zss_one (zs_ret (ze_lst true za_nil))))
  zss_nil)
  (zss_cons (zs_set (i := 3) sc_Taker_took.nd (ze_if (zt_cmp (op_eqZ hr.units) snd_eq (ze_var 1) ze_str (by first | exact nobehind _ (by decide) (by decide) | rfl)) (ze_call (ok_row_within T) (hr.mono (by decide)) T.g_row_within T.F_row_within.kp T.b_row_within (takes_of rfl rfl rfl rfl) wk (za_cons (ze_fld T.g_Taker T.l_Taker (naB_ok T.a_Taker (by decide +kernel)) (ze_var 0)) za_nil)) ze_non))
  (zss_cons (zs_setA T.g_Taker T.l_Taker (naB_ok T.a_Taker (by decide +kernel)) (ze_var 0) ze_non)
  (zss_one (zs_ret (ze_if (zt_cmp (OpR.or op_isN op_isBl) snd_is (ze_var 3) ze_non (by first | exact nobehind _ (by decide) (by decide) | rfl)) (ze_lst true (za_cons (ze_tup (za_cons ze_str (za_cons (ze_lst false za_nil) za_nil))) za_nil)) (ze_lst true (za_cons (ze_tup (za_cons ze_str (za_cons (ze_var 3) za_nil))) za_nil))))))))))
theorem ok_Taker_within (T : Tx K mg) : FnOk P w K mg base (L2.CX P w) 1 T.f_Taker_within T.d_Taker_within p_Taker_within (liftSp K mg z_Taker_within) :=
  z_ok false (k := 0) (zb := zb_Taker_within) T.F_Taker_within sc_Taker_within (n := 0) rfl (fun ds M R RE h => by
    unfold z_Taker_within at h
    split at h
    · exact ⟨rfl, h⟩
    · exact h.elim)
  fun cdv A outer s H E F0 zE hr wk => (zss_one (zs_ret (ze_cmp (OpR.or op_notN op_notBl) snd_isNot (ze_fld T.g_Taker T.l_Taker (naB_ok T.a_Taker (by decide +kernel)) (ze_var 0)) ze_non (by first | exact nobehind _ (by decide) (by decide) | rfl))))
theorem ok_Ear___init__ (T : Tx K mg) : FnOk P w K mg base (L2.CX P w) 3 T.f_Ear___init__ T.d_Ear___init__ p_Ear___init__ (liftSp K mg z_Ear___init__) :=
  z_ok false (k := 2) (zb := zb_Ear___init__) T.F_Ear___init__ sc_Ear___init__ (n := 0) rfl (fun ds M R RE h => by
    unfold z_Ear___init__ at h
    split at h
    · exact ⟨rfl, h⟩
    · exact h.elim)
  fun cdv A outer s H E F0 zE hr wk => (zss_cons (zs_setA T.g_Ear T.l_Ear (naB_ok T.a_Ear (by decide +kernel)) (ze_var 0) (ze_make0 T.g_Reader T.k_Reader (ok_Reader___init__ T) (hr.mono (by decide)) T.b_Reader___init__ (takes_of rfl rfl rfl rfl) wk))
  (zss_one (zs_setA T.g_Ear T.l_Ear (naB_ok T.a_Ear (by decide +kernel)) (ze_var 0) (ze_make0 T.g_Taker T.k_Taker (ok_Taker___init__ T) (hr.mono (by decide)) T.b_Taker___init__ (takes_of rfl rfl rfl rfl) wk))))
theorem ok_Ear_in_step (T : Tx K mg) : FnOk P w K mg base (L2.CX P w) 2 T.f_Ear_in_step T.d_Ear_in_step p_Ear_in_step (liftSp K mg z_Ear_in_step) :=
  z_ok false (k := 1) (zb := zb_Ear_in_step) T.F_Ear_in_step sc_Ear_in_step (n := 0) rfl (fun ds M R RE h => by
    unfold z_Ear_in_step at h
    split at h
    · exact ⟨rfl, h⟩
    · exact h.elim)
  fun cdv A outer s H E F0 zE hr wk => (zss_one (zs_ret (ze_meth0 T.g_Reader T.l_Reader T.m_Reader_in_step (ok_Reader_in_step T) (hr.mono (by decide)) T.b_Reader_in_step (takes_of rfl rfl rfl rfl) wk (ze_fld T.g_Ear T.l_Ear (naB_ok T.a_Ear (by decide +kernel)) (ze_var 0)))))
theorem ok__law_town (T : Tx K mg) : FnOk P w K mg base (L2.CX P w) 1 T.f__law_town T.d__law_town p__law_town (liftSp K mg z__law_town) := by
  refine T.F__law_town.okX sc__law_town (fun vs H Q E h => ?_) (fun cdv A outer s H vs Q E hr h => ?_)
  · obtain ⟨F, M, ds, R, RE, w, rl, h, _⟩ := h
    unfold z__law_town at h
    split at h
    · exact rl.length
    · exact h.elim
  · obtain ⟨F, M, ds, R, RE, w, rl, h, kq, kx⟩ := h
    unfold z__law_town at h
    split at h
    · cases rl with
      | cons r1 rl =>
        cases rl
        cases r1 with
        | scr sq sl =>
          rename_i ns a
          have sqH : SqL K H a (ns.map V.int) := Same.seq w.same sq
          refine ⟨_, pss_one (ps_ret (pe_lst (pa_cons (pe_ifExp (pt_cmpR (op_neZ hr.units) (pv 0) (pe_lst pa_nil) (nomark _)) (pe_callTy call_list_of (by rfl) T.n_list (by decide +kernel) (pa_cons (pv 0) pa_nil)) (pe_lst (pa_cons pe_int pa_nil))) (pa_cons pe_int pa_nil)))), ?_⟩
          refine ⟨_, rfl, Nat.zero_le _, fun e he => ?_⟩
          have fin : ∀ {H1 : Hp} {c : Addr} {cells : List Int}, Wd K mg F H1 M → H1 c = none → cells ≠ [] → cellsOk cells → ([V.ref c, V.int 0].length ≤ sizeLine ∧ ∀ p, upd H1 c (.lst (cells.map V.int)) p = none → Q (.ref p) (upd (upd H1 c (.lst (cells.map V.int))) p (.lst [.ref c, .int 0]))) := fun {H1 c cells} w1 hc ne ln => by
            refine ⟨by show 2 ≤ sizeLine; decide, fun p hp => ?_⟩
            obtain ⟨w2, mt⟩ := Wd.town_new (n := 0) h.1 ne ln hc hp w1
            exact kq _ _ (h.2 p mt) F _ _ (Le.refl F) w2 (.ref p)
          have same1 : Same H (upd H e (.lst [])) := same_upd he
          have w1 : Wd K mg F (upd H e (.lst [])) M := by
            have q := w.laidM (p := e) (o := .lst []) (m := .lst []) he (by intro z; cases z) ⟨[], upd_same, Nat.zero_le _, .nil⟩
            refine q.drop fun b m z => ?_
            rw [mup_ne (ne_of_m z (w.free he).1)]; exact z
          refine ⟨toP (.lst (ns.map D.int)), toP (.lst []), ?_, .lst (SqL.of upd_same) .nil, ?_, rfl, .inr (by decide), ?_⟩
          · exact .lst (same1.seq sqH) (RepL.dp (K := K) (mg := mg) (F := ⟨H, H⟩) (H := upd H e (.lst [])) same1 (plains_ints ns) (RepL.ints ns))
          · exact RepL.lay (K := K) (mg := mg) (F := F) (RepL.ints ns) |> fun z => by simpa [toP, PyData.canLay0] using z
          · refine ⟨_, rfl, ?_⟩
            cases ns with
            | nil =>
              have e0 : (!PyData.eqv (toP (.lst (([] : List Int).map D.int))) (toP (.lst []))) = false := by decide
              rw [e0]
              refine iteF ?_
              refine ⟨by show 1 ≤ sizeLine; decide, fun c hc => ?_⟩
              exact fin (cells := [0]) w1 hc (by simp) (by unfold cellsOk; decide)
            | cons n r =>
              have e0 : (!PyData.eqv (toP (.lst ((n :: r).map D.int))) (toP (.lst []))) = true := rfl
              rw [e0]
              refine iteT ?_
              refine ⟨_, rfl, a, _, rfl, .inl (same1.seq sqH), fun c hc => ?_⟩
              exact fin (cells := n :: r) w1 hc (by simp) sl
    · exact h.elim
theorem ok0__law_draw (T : Tx K mg) : FnOk P w K mg base (L2.CX P w) 1 T.f__law_draw T.d__law_draw p__law_draw (liftSp K mg z0__law_draw) :=
  z_ok true (k := 0) (zb := zb__law_draw) T.F__law_draw sc__law_draw (n := 4) rfl (fun ds M R RE h => by
    unfold z0__law_draw at h
    split at h
    · exact ⟨rfl, h⟩
    · exact h.elim)
  fun cdv A outer s H E F0 zE hr wk => (zss_cons (zs_set (i := 2) sc__law_draw.nd (ze_ix (ze_var 0) ze_int (fun _ _ => rfl)))
  (zss_cons (zs_asg (ze_add false (ze_ix (ze_var 0) ze_int (fun _ _ => rfl)) ze_int) (zg_sub (ze_var 0) ze_int))
  (zss_cons (zs_set (i := 3) sc__law_draw.nd (ze_mod (ze_ix (ze_var 0) ze_int (fun _ _ => rfl)) (ze_cb call_len snd_len T.n_len (by decide +kernel) (za_cons (ze_var 2) za_nil))))
  (zss_cons (zs_set (i := 4) sc__law_draw.nd (ze_ix (ze_var 2) (ze_var 3) (fun _ _ => rfl)))
  (zss_cons (zs_if (zt_cmp op_ge (sndB0 (g := pGe)) (ze_var 4) ze_int (by first | exact nobehind _ (by decide) (by decide) | rfl)) (zss_cons (zs_asg (ze_div (ze_var 4) (ze_var 1)) (zg_sub (ze_var 2) (ze_var 3)))
  (zss_one (zs_ret (ze_mod (ze_var 4) (ze_var 1)))))
  zss_nil)
  (zss_cons (zs_set (i := 5) sc__law_draw.nd (ze_mod (ze_add false (ze_var 4) (ze_mul false ze_int (ze_ix (ze_var 0) ze_int (fun _ _ => rfl)))) ze_int))
  (zss_cons (zs_set (i := 5) sc__law_draw.nd (ze_mod (ze_pow (ze_var 5) ze_int) ze_int))
  (zss_one (zs_ret (ze_mod (ze_div (ze_mod (ze_add false (ze_mul false (ze_div (ze_var 5) ze_int) ze_int) (ze_var 5)) ze_int) ze_int) (ze_var 1)))))))))))
theorem ok__law_draw (T : Tx K mg) : FnOk P w K mg base (L2.CX P w) 1 T.f__law_draw T.d__law_draw p__law_draw (liftSp K mg z__law_draw) := by
  refine FnOk.imp (ok0__law_draw T) fun vs H Q E h => ?_
  obtain ⟨F, M, ds, R, RE, w, rl, h, kq, kx⟩ := h
  unfold z__law_draw at h
  split at h
  · obtain ⟨h1, h2, h3, h4⟩ := h
    obtain ⟨c, n, cells, T, w2⟩ := w.town_out h1
    refine ⟨F, _, _, fun d M' => ∃ n' cells', cells' ≠ [] ∧ cellsOk cells' ∧ M' = tOpen M _ c n' cells' ∧ R d M, fun _ _ _ => False, w2, rl, draw0 T h2 h3 fun k m cs hk hk2 hc hl => ⟨m, cs, hc, hl, rfl, h4 k hk hk2⟩, fun d M' hd F' H' v s1 w3 r1 => ?_, fun _ _ _ z => z.elim⟩
    obtain ⟨n', cells', ne, ln, rfl, hR⟩ := hd
    exact kq d M hR F' H' v s1 (w3.town_in T ne ln) r1
  · exact h.elim
theorem ok__law_pick (T : Tx K mg) : FnOk P w K mg base (L2.CX P w) 2 T.f__law_pick T.d__law_pick p__law_pick (liftSp K mg z__law_pick) :=
  z_ok false (k := 1) (zb := zb__law_pick) T.F__law_pick sc__law_pick (n := 0) rfl (fun ds M R RE h => by
    unfold z__law_pick at h
    split at h
    · exact ⟨rfl, h⟩
    · exact h.elim)
  fun cdv A outer s H E F0 zE hr wk => (zss_one (zs_ret (ze_ix (ze_var 1) (ze_call (ok__law_draw T) (hr.mono (by decide)) T.g__law_draw T.F__law_draw.kp T.b__law_draw (takes_of rfl rfl rfl rfl) wk (za_cons (ze_var 0) (za_cons (ze_cb call_len snd_len T.n_len (by decide +kernel) (za_cons (ze_var 1) za_nil)) za_nil))) (fun _ _ => rfl))))
theorem ok1__law_pick (T : Tx K mg) : FnOk P w K mg base (L2.CX P w) 2 T.f__law_pick T.d__law_pick p__law_pick (liftSp K mg z1__law_pick) :=
  z_ok false (k := 1) (zb := zb1__law_pick) T.F__law_pick sc__law_pick (n := 0) rfl (fun ds M R RE h => by
    unfold z1__law_pick at h
    split at h
    · exact ⟨rfl, h⟩
    · exact h.elim)
  fun cdv A outer s H E F0 zE hr wk => (zss_one (zs_ret (ze_ix (ze_var 1) (ze_call (ok0__law_draw T) (hr.mono (by decide)) T.g__law_draw T.F__law_draw.kp T.b__law_draw (takes_of rfl rfl rfl rfl) wk (za_cons (ze_var 0) (za_cons (ze_cb call_len snd_len T.n_len (by decide +kernel) (za_cons (ze_var 1) za_nil)) za_nil))) (fun _ _ => rfl))))
theorem ok__law_ten (T : Tx K mg) : FnOk P w K mg base (L2.CX P w) 1 T.f__law_ten T.d__law_ten p__law_ten (liftSp K mg z__law_ten) :=
  z_ok false (k := 0) (zb := zb__law_ten) T.F__law_ten sc__law_ten (n := 1) rfl (fun ds M R RE h => by
    unfold z__law_ten at h
    split at h
    · exact ⟨rfl, h⟩
    · exact h.elim)
  fun cdv A outer s H E F0 zE hr wk => (zss_one (zs_ret (ze_lc (own := [("by", 1)]) false rfl sc__law_ten.nd (zi_list (ze_lst false (za_cons ze_int (za_cons ze_int (za_cons ze_int (za_cons ze_int (za_cons ze_int (za_cons ze_int (za_cons ze_int (za_cons ze_int (za_cons ze_int (za_cons ze_int za_nil)))))))))))) (blkOk_by (N := N__law_ten) (sc := defScope s__law_ten) (by decide +kernel)) (tg_name (by decide)) (fun _ _ _ _ _ => (pg_name (i := 1) sc__law_ten.nd rfl (by first | exact Or.inl rfl | exact Or.inr rfl))) (fun _ _ _ _ _ => zts_nil) (fun _ _ _ _ _ => (ze_mod (ze_div (ze_var 0) (ze_var 1)) ze_int)))))
theorem ok__law_even (T : Tx K mg) : FnOk P w K mg base (L2.CX P w) 1 T.f__law_even T.d__law_even p__law_even (liftSp K mg z__law_even) :=
  z_ok false (k := 0) (zb := zb__law_even) T.F__law_even sc__law_even (n := 0) rfl (fun ds M R RE h => by
    unfold z__law_even at h
    split at h
    · exact ⟨rfl, h⟩
    · exact h.elim)
  fun cdv A outer s H E F0 zE hr wk => (zss_one (zs_ret (ze_tup (za_cons ze_int (za_cons ze_int (za_cons ze_int (za_cons ze_int (za_cons ze_int (za_cons ze_int (za_cons ze_int (za_cons ze_int (za_cons ze_int (za_cons ze_int (za_cons ze_int (za_cons ze_int (za_cons ze_int (za_cons ze_int (za_cons ze_int (za_cons ze_int (za_cons ze_int (za_cons ze_int (za_cons ze_int (za_cons ze_int (za_cons ze_int (za_cons ze_int (za_cons ze_int (za_cons ze_int (za_cons ze_int (za_cons ze_int (za_cons ze_int (za_cons ze_int (za_cons ze_int (za_cons ze_int (za_cons ze_int (za_cons ze_int (za_cons ze_int (za_cons ze_int (za_cons ze_int (za_cons ze_int (za_cons ze_int (za_cons ze_int (za_cons ze_int (za_cons ze_int (za_cons ze_int (za_cons ze_int (za_cons ze_int (za_cons ze_int (za_cons ze_int (za_cons ze_int (za_cons ze_int (za_cons ze_int (za_cons ze_int (za_cons ze_int (za_cons ze_int (za_cons ze_int (za_cons ze_int (za_cons ze_int (za_cons ze_int (za_cons ze_int (za_cons ze_int (za_cons ze_int (za_cons ze_int (za_cons ze_int (za_cons ze_int (za_cons ze_int (za_cons ze_int (za_cons ze_int (za_cons ze_int (za_cons ze_int (za_cons ze_int (za_cons ze_int (za_cons ze_int (za_cons ze_int (za_cons ze_int (za_cons ze_int (za_cons ze_int (za_cons ze_int (za_cons ze_int (za_cons ze_int (za_cons ze_int (za_cons ze_int (za_cons ze_int (za_cons ze_int (za_cons ze_int (za_cons ze_int (za_cons ze_int (za_cons ze_int (za_cons ze_int (za_cons ze_int (za_cons ze_int (za_cons ze_int (za_cons ze_int (za_cons ze_int (za_cons ze_int (za_cons ze_int (za_cons ze_int (za_cons ze_int (za_cons ze_int (za_cons ze_int (za_cons ze_int (za_cons ze_int (za_cons ze_int (za_cons ze_int (za_cons ze_int (za_cons ze_int (za_cons ze_int (za_cons ze_int (za_cons ze_int (za_cons ze_int (za_cons ze_int (za_cons ze_int (za_cons ze_int (za_cons ze_int (za_cons ze_int (za_cons ze_int (za_cons ze_int (za_cons ze_int (za_cons ze_int (za_cons ze_int (za_cons ze_int (za_cons ze_int (za_cons ze_int (za_cons ze_int (za_cons ze_int (za_cons ze_int (za_cons ze_int (za_cons ze_int (za_cons ze_int (za_cons ze_int (za_cons ze_int (za_cons ze_int (za_cons ze_int (za_cons ze_int (za_cons ze_int (za_cons ze_int (za_cons ze_int (za_cons ze_int (za_cons ze_int (za_cons ze_int (za_cons ze_int (za_cons ze_int (za_cons ze_int (za_cons ze_int (za_cons ze_int (za_cons ze_int (za_cons ze_int (za_cons ze_int (za_cons ze_int (za_cons ze_int (za_cons ze_int (za_cons ze_int (za_cons ze_int (za_cons ze_int (za_cons ze_int (za_cons ze_int (za_cons ze_int (za_cons ze_int (za_cons ze_int (za_cons ze_int (za_cons ze_int (za_cons ze_int (za_cons ze_int (za_cons ze_int (za_cons ze_int (za_cons ze_int (za_cons ze_int (za_cons ze_int (za_cons ze_int (za_cons ze_int (za_cons ze_int (za_cons ze_int (za_cons ze_int (za_cons ze_int (za_cons ze_int (za_cons ze_int (za_cons ze_int (za_cons ze_int (za_cons ze_int (za_cons ze_int (za_cons ze_int (za_cons ze_int (za_cons ze_int (za_cons ze_int za_nil)))))))))))))))))))))))))))))))))))))))))))))))))))))))))))))))))))))))))))))))))))))))))))))))))))))))))))))))))))))))))))))))))))))))))))))))))))))))))))))))))))))))))))))))))))))))
theorem ok__law_heavy (T : Tx K mg) : FnOk P w K mg base (L2.CX P w) 1 T.f__law_heavy T.d__law_heavy p__law_heavy (liftSp K mg z__law_heavy) :=
  z_ok false (k := 0) (zb := zb__law_heavy) T.F__law_heavy sc__law_heavy (n := 0) rfl (fun ds M R RE h => by
    unfold z__law_heavy at h
    split at h
    · exact ⟨rfl, h⟩
    · exact h.elim)
  fun cdv A outer s H E F0 zE hr wk => (zss_one (zs_ret (ze_tup (za_cons ze_int (za_cons ze_int (za_cons ze_int (za_cons ze_int (za_cons ze_int (za_cons ze_int (za_cons ze_int (za_cons ze_int (za_cons ze_int (za_cons ze_int (za_cons ze_int (za_cons ze_int (za_cons ze_int (za_cons ze_int (za_cons ze_int (za_cons ze_int (za_cons ze_int (za_cons ze_int (za_cons ze_int (za_cons ze_int (za_cons ze_int (za_cons ze_int (za_cons ze_int (za_cons ze_int (za_cons ze_int (za_cons ze_int (za_cons ze_int (za_cons ze_int (za_cons ze_int (za_cons ze_int (za_cons ze_int (za_cons ze_int (za_cons ze_int (za_cons ze_int (za_cons ze_int (za_cons ze_int (za_cons ze_int (za_cons ze_int (za_cons ze_int (za_cons ze_int (za_cons ze_int (za_cons ze_int (za_cons ze_int (za_cons ze_int (za_cons ze_int (za_cons ze_int (za_cons ze_int (za_cons ze_int (za_cons ze_int (za_cons ze_int (za_cons ze_int (za_cons ze_int (za_cons ze_int (za_cons ze_int (za_cons ze_int (za_cons ze_int (za_cons ze_int (za_cons ze_int (za_cons ze_int (za_cons ze_int (za_cons ze_int (za_cons ze_int (za_cons ze_int (za_cons ze_int (za_cons ze_int (za_cons ze_int (za_cons ze_int (za_cons ze_int (za_cons ze_int (za_cons ze_int (za_cons ze_int (za_cons ze_int (za_cons ze_int (za_cons ze_int (za_cons ze_int (za_cons ze_int (za_cons ze_int (za_cons ze_int (za_cons ze_int (za_cons ze_int (za_cons ze_int (za_cons ze_int (za_cons ze_int (za_cons ze_int (za_cons ze_int (za_cons ze_int (za_cons ze_int (za_cons ze_int (za_cons ze_int (za_cons ze_int (za_cons ze_int (za_cons ze_int (za_cons ze_int (za_cons ze_int (za_cons ze_int (za_cons ze_int (za_cons ze_int (za_cons ze_int (za_cons ze_int (za_cons ze_int (za_cons ze_int (za_cons ze_int (za_cons ze_int (za_cons ze_int (za_cons ze_int (za_cons ze_int (za_cons ze_int (za_cons ze_int (za_cons ze_int (za_cons ze_int (za_cons ze_int (za_cons ze_int (za_cons ze_int (za_cons ze_int (za_cons ze_int (za_cons ze_int (za_cons ze_int (za_cons ze_int (za_cons ze_int (za_cons ze_int (za_cons ze_int (za_cons ze_int (za_cons ze_int (za_cons ze_int za_nil)))))))))))))))))))))))))))))))))))))))))))))))))))))))))))))))))))))))))))))))))))))))))))))))))))))))))))))))))))))))))))))))
theorem ok__law_has_pair (T : Tx K mg) : FnOk P w K mg base (L2.CX P w) 1 T.f__law_has_pair T.d__law_has_pair p__law_has_pair (liftSp K mg z__law_has_pair) :=
  z_ok false (k := 0) (zb := zb__law_has_pair) T.F__law_has_pair sc__law_has_pair (n := 0) rfl (fun ds M R RE h => by
    unfold z__law_has_pair at h
    split at h
    · exact ⟨rfl, h⟩
    · exact h.elim)
  fun cdv A outer s H E F0 zE hr wk => (zss_one (zs_ret (ze_or (ze_isi (T := "str") (ze_var 0) T.n_isinstance T.n_str (by decide +kernel)) (ze_one (ze_cmp op_ge (sndB0 (g := pGe)) (ze_var 0) ze_int (by first | exact nobehind _ (by decide) (by decide) | rfl))))))
theorem ok__law_put (T : Tx K mg) : FnOk P w K mg base (L2.CX P w) 2 T.f__law_put T.d__law_put p__law_put (liftSp K mg z__law_put) :=
  z_ok false (k := 1) (zb := zb__law_put) T.F__law_put sc__law_put (n := 1) rfl (fun ds M R RE h => by
    unfold z__law_put at h
    split at h
    · exact ⟨rfl, h⟩
    · exact h.elim)
  fun cdv A outer s H E F0 zE hr wk => (zss_cons (zs_if (zt_not (zt_val (ze_call (ok__law_has_pair T) (hr.mono (by decide)) T.g__law_has_pair T.F__law_has_pair.kp T.b__law_has_pair (takes_of rfl rfl rfl rfl) wk (za_cons (ze_var 0) za_nil)))) (zss_one (zs_ret (ze_tup (za_cons (ze_ix (ze_call0 (zE := zNoX) (ok__law_even T) (hr.mono (by decide)) T.g__law_even T.F__law_even.kp T.b__law_even) (ze_var 0) (fun _ _ => rfl)) (za_cons (ze_var 1) za_nil)))))
  zss_nil)
  (zss_cons (zs_set (i := 2) sc__law_put.nd ze_int)
  (zss_cons (zs_if (zt_cmp (op_neZ hr.units) snd_ne (ze_var 0) ze_str (by first | exact nobehind _ (by decide) (by decide) | rfl)) (zss_one (zs_set (i := 2) sc__law_put.nd (ze_ix (ze_call0 (zE := zNoX) (ok__law_heavy T) (hr.mono (by decide)) T.g__law_heavy T.F__law_heavy.kp T.b__law_heavy) (ze_if (zt_val (ze_isi (T := "str") (ze_var 0) T.n_isinstance T.n_str (by decide +kernel))) (ze_add false ze_int (ze_mL PySem.F.plainAttrs_list PySem.F.slot_list_index PySem.F.type_list_index mt_index snd_index (ze_lst false (za_cons ze_str (za_cons ze_str (za_cons ze_str za_nil)))) (za_cons (ze_var 0) za_nil))) (ze_sub (ze_var 0) ze_int)) (fun _ _ => rfl))))
  zss_nil)
  (zss_one (zs_ret (ze_if (zt_cmp op_lt (sndB0 (g := pLt)) (ze_var 1) ze_int (by first | exact nobehind _ (by decide) (by decide) | rfl)) (ze_tup (za_cons (ze_var 2) (za_cons ze_int za_nil))) (ze_tup (za_cons (ze_sub ze_int (ze_var 2)) (za_cons (ze_sub ze_int ze_int) za_nil)))))))))
theorem ok__law_sent (T : Tx K mg) : FnOk P w K mg base (L2.CX P w) 3 T.f__law_sent T.d__law_sent p__law_sent (liftSp K mg z__law_sent) :=
  z_ok false (k := 2) (zb := zb__law_sent) T.F__law_sent sc__law_sent (n := 3) rfl (fun ds M R RE h => by
    unfold z__law_sent at h
    split at h
    · exact ⟨rfl, h⟩
    · exact h.elim)
  fun cdv A outer s H E F0 zE hr wk => (zss_cons (zs_set (i := 2) sc__law_sent.nd (ze_lst false za_nil))
  (zss_cons (zs_for (passes_of rfl) rfl (zi_list (ze_var 0)) (zg_name (i := 3) sc__law_sent.nd) (zss_cons (zs_asg (ze_call (ok__law_put T) (hr.mono (by decide)) T.g__law_put T.F__law_put.kp T.b__law_put (takes_of rfl rfl rfl rfl) wk (za_cons (ze_var 3) (za_cons (ze_var 1) za_nil))) (zg_tup rfl (zgs_cons (zg_name (i := 4) sc__law_sent.nd) (zgs_cons (zg_name (i := 1) sc__law_sent.nd) zgs_nil))))
  (zss_one (zs_set (i := 2) sc__law_sent.nd (ze_add false (ze_var 2) (ze_call (ok__law_ten T) (hr.mono (by decide)) T.g__law_ten T.F__law_ten.kp T.b__law_ten (takes_of rfl rfl rfl rfl) wk (za_cons (ze_var 4) za_nil)))))))
  (zss_one (zs_ret (ze_tup (za_cons (ze_var 2) (za_cons (ze_var 1) za_nil)))))))
theorem ok__law_byte (T : Tx K mg) : FnOk P w K mg base (L2.CX P w) 3 T.f__law_byte T.d__law_byte p__law_byte (liftSp K mg z__law_byte) :=
  z_ok false (k := 2) (zb := zb__law_byte) T.F__law_byte sc__law_byte (n := 1) rfl (fun ds M R RE h => by
    unfold z__law_byte at h
    split at h
    · exact ⟨rfl, h⟩
    · exact h.elim)
  fun cdv A outer s H E F0 zE hr wk => (zss_cons (zs_set (i := 1) sc__law_byte.nd (ze_call (ok__law_draw T) (hr.mono (by decide)) T.g__law_draw T.F__law_draw.kp T.b__law_draw (takes_of rfl rfl rfl rfl) wk (za_cons (ze_var 0) (za_cons ze_int za_nil))))
  (zss_cons (zs_if (zt_cmp (op_eqZ hr.units) snd_eq (ze_var 1) ze_int (by first | exact nobehind _ (by decide) (by decide) | rfl)) (zss_one (zs_ret (ze_call (ok__law_pick T) (hr.mono (by decide)) T.g__law_pick T.F__law_pick.kp T.b__law_pick (takes_of rfl rfl rfl rfl) wk (za_cons (ze_var 0) (za_cons (ze_lst false (za_cons ze_int (za_cons ze_int (za_cons ze_int (za_cons ze_int (za_cons ze_int (za_cons ze_int (za_cons ze_int (za_cons ze_int za_nil))))))))) za_nil)))))
  zss_nil)
  (zss_one (zs_ret (ze_if (zt_cmp op_lt (sndB0 (g := pLt)) (ze_var 1) ze_int (by first | exact nobehind _ (by decide) (by decide) | rfl)) (ze_add false ze_int (ze_call (ok__law_draw T) (hr.mono (by decide)) T.g__law_draw T.F__law_draw.kp T.b__law_draw (takes_of rfl rfl rfl rfl) wk (za_cons (ze_var 0) (za_cons ze_int za_nil)))) (ze_call (ok__law_draw T) (hr.mono (by decide)) T.g__law_draw T.F__law_draw.kp T.b__law_draw (takes_of rfl rfl rfl rfl) wk (za_cons (ze_var 0) (za_cons ze_int za_nil))))))))
theorem ok__law_row (T : Tx K mg) : FnOk P w K mg base (L2.CX P w) 4 T.f__law_row T.d__law_row p__law_row (liftSp K mg z__law_row) :=
  z_ok false (k := 3) (zb := zb__law_row) T.F__law_row sc__law_row (n := 2) rfl (fun ds M R RE h => by
    unfold z__law_row at h
    split at h
    · exact ⟨rfl, h⟩
    · exact h.elim)
  fun cdv A outer s H E F0 zE hr wk => (zss_cons (zs_set (i := 2) sc__law_row.nd (ze_call (ok__law_pick T) (hr.mono (by decide)) T.g__law_pick T.F__law_pick.kp T.b__law_pick (takes_of rfl rfl rfl rfl) wk (za_cons (ze_var 0) (za_cons (ze_lst false (za_cons ze_int (za_cons ze_int (za_cons ze_int (za_cons ze_int (za_cons (ze_call (ok__law_draw T) (hr.mono (by decide)) T.g__law_draw T.F__law_draw.kp T.b__law_draw (takes_of rfl rfl rfl rfl) wk (za_cons (ze_var 0) (za_cons (ze_add false (ze_var 1) ze_int) za_nil))) za_nil)))))) za_nil))))
  (zss_one (zs_ret (ze_lc (own := [("k", 3)]) false rfl sc__law_row.nd (zi_range1 T.n_range (za_cons (ze_cb (CallR.or (call_min2 rfl) (cr_min rfl)) snd_min T.n_min (by decide +kernel) (za_cons (ze_var 2) (za_cons (ze_var 1) za_nil))) za_nil)) (blkOk_by (N := N__law_row) (sc := defScope s__law_row) (by decide +kernel)) (tg_name (by decide)) (fun _ _ _ _ _ => (pg_name (i := 3) sc__law_row.nd rfl (by first | exact Or.inl rfl | exact Or.inr rfl))) (fun _ _ _ _ _ => zts_nil) (fun _ _ _ _ _ => (ze_call (ok__law_byte T) (hr.mono (by decide)) T.g__law_byte T.F__law_byte.kp T.b__law_byte takes0 wok0 (za_cons (ze_var 0) za_nil)))))))
theorem ok__law_check (T : Tx K mg) : FnOk P w K mg base (L2.CX P w) 1 T.f__law_check T.d__law_check p__law_check (liftSp K mg z__law_check) :=
  z_ok false (k := 0) (zb := zb__law_check) T.F__law_check sc__law_check (n := 2) rfl (fun ds M R RE h => by
    unfold z__law_check at h
    split at h
    · exact ⟨rfl, h⟩
    · exact h.elim)
  fun cdv A outer s H E F0 zE hr wk => (zss_cons (zs_set (i := 1) sc__law_check.nd ze_int)
  (zss_cons (zs_for (passes_of rfl) rfl (zi_range1 T.n_range (za_cons (ze_cb call_len snd_len T.n_len (by decide +kernel) (za_cons (ze_var 0) za_nil)) za_nil)) (zg_name (i := 2) sc__law_check.nd) (zss_one (zs_set (i := 1) sc__law_check.nd (ze_add false (ze_var 1) (ze_mul false (ze_add false (ze_var 2) ze_int) (ze_add false (ze_ix (ze_var 0) (ze_var 2) (fun _ _ => rfl)) ze_int))))))
  (zss_one (zs_ret (ze_lst false (za_cons (ze_div (ze_mod (ze_var 1) ze_int) ze_int) (za_cons (ze_mod (ze_mod (ze_var 1) ze_int) ze_int) za_nil)))))))
theorem ok__law_frame (T : Tx K mg) : FnOk P w K mg base (L2.CX P w) 2 T.f__law_frame T.d__law_frame p__law_frame (liftSp K mg z__law_frame) :=
  z_ok false (k := 1) (zb := zb__law_frame) T.F__law_frame sc__law_frame (n := 0) rfl (fun ds M R RE h => by
    unfold z__law_frame at h
    split at h
    · exact ⟨rfl, h⟩
    · exact h.elim)
  fun cdv A outer s H E F0 zE hr wk => (zss_one (zs_ret (ze_add false (ze_add false (ze_add false (ze_lst false (za_cons ze_str (za_cons (ze_cb call_len snd_len T.n_len (by decide +kernel) (za_cons (ze_var 0) za_nil)) za_nil))) (ze_var 0)) (ze_call (ok__law_check T) (hr.mono (by decide)) T.g__law_check T.F__law_check.kp T.b__law_check (takes_of rfl rfl rfl rfl) wk (za_cons (ze_var 0) za_nil))) (ze_lst false (za_cons ze_str za_nil)))))
theorem ok__law_gap (T : Tx K mg) : FnOk P w K mg base (L2.CX P w) 3 T.f__law_gap T.d__law_gap p__law_gap (liftSp K mg z__law_gap) :=
  z_ok false (k := 2) (zb := zb__law_gap) T.F__law_gap sc__law_gap (n := 1) rfl (fun ds M R RE h => by
    unfold z__law_gap at h
    split at h
    · exact ⟨rfl, h⟩
    · exact h.elim)
  fun cdv A outer s H E F0 zE hr wk => (zss_one (zs_ret (ze_lc (own := [("k", 1)]) false rfl sc__law_gap.nd (zi_range1 T.n_range (za_cons (ze_call (ok__law_pick T) (hr.mono (by decide)) T.g__law_pick T.F__law_pick.kp T.b__law_pick (takes_of rfl rfl rfl rfl) wk (za_cons (ze_var 0) (za_cons (ze_lst false (za_cons ze_int (za_cons ze_int (za_cons ze_int (za_cons ze_int za_nil))))) za_nil))) za_nil)) (blkOk_by (N := N__law_gap) (sc := defScope s__law_gap) (by decide +kernel)) (tg_name (by decide)) (fun _ _ _ _ _ => (pg_name (i := 1) sc__law_gap.nd rfl (by first | exact Or.inl rfl | exact Or.inr rfl))) (fun _ _ _ _ _ => zts_nil) (fun _ _ _ _ _ => (ze_call (ok__law_pick T) (hr.mono (by decide)) T.g__law_pick T.F__law_pick.kp T.b__law_pick takes0 wok0 (za_cons (ze_var 0) (za_cons (ze_lst false (za_cons ze_str (za_cons ze_str (za_cons ze_str za_nil)))) za_nil)))))))
theorem ok0__law_cuts (T : Tx K mg) : FnOk P w K mg base (L2.CX P w) 3 T.f__law_cuts T.d__law_cuts p__law_cuts (liftSp K mg z0__law_cuts) :=
  z_ok true (k := 2) (zb := zb__law_cuts) T.F__law_cuts sc__law_cuts (n := 2) rfl (fun ds M R RE h => by
    unfold z0__law_cuts at h
    split at h
    · exact ⟨rfl, h⟩
    · exact h.elim)
  fun cdv A outer s H E F0 zE hr wk => (zss_cons (zs_set (i := 2) sc__law_cuts.nd (ze_lst true za_nil))
  (zss_cons (zs_while (passes_of rfl) (zt_cmp (op_neZ hr.units) snd_ne (ze_var 1) (ze_lst false za_nil) (by first | exact nobehind _ (by decide) (by decide) | rfl)) (zss_cons (zs_set (i := 3) sc__law_cuts.nd (ze_call (ok1__law_pick T) (hr.mono (by decide)) T.g__law_pick T.F__law_pick.kp T.b__law_pick (takes_of rfl rfl rfl rfl) wk (za_cons (ze_var 0) (za_cons (ze_lst false (za_cons ze_int (za_cons ze_int (za_cons ze_int (za_cons ze_int (za_cons ze_int (za_cons ze_int (za_cons ze_int (za_cons ze_int za_nil))))))))) za_nil))))
  (zss_cons (zs_expr (ze_mL PySem.F.plainAttrs_list PySem.F.slot_list_append PySem.F.type_list_append mt_append snd_app (ze_var 2) (za_cons (ze_sl false (ze_var 1) zo_none (zo_some (ze_var 3))) za_nil)))
  (zss_one (zs_set (i := 1) sc__law_cuts.nd (ze_sl false (ze_var 1) (zo_some (ze_var 3)) zo_none))))))
  (zss_one (zs_ret (ze_add false (ze_var 2) (ze_lst false (za_cons (ze_lst false za_nil) za_nil)))))))
theorem ok__law_cuts (T : Tx K mg) : FnOk P w K mg base (L2.CX P w) 3 T.f__law_cuts T.d__law_cuts p__law_cuts (liftSp K mg z__law_cuts) := by
  refine FnOk.imp (ok0__law_cuts T) fun vs H Q E h => ?_
  obtain ⟨F, M, ds, R, RE, w, rl, h, kq, kx⟩ := h
  unfold z__law_cuts at h
  split at h
  · obtain ⟨h1, h2, h3, h4⟩ := h
    obtain ⟨c, n, cells, T, w2⟩ := w.town_out h1
    refine ⟨F, _, _, fun d M' => ∃ n' cells', cells' ≠ [] ∧ cellsOk cells' ∧ M' = tOpen M _ c n' cells' ∧ R d M, fun _ _ _ => False, w2, rl, cuts0 T h2 h3 fun ps m cs hf hc hl => ⟨m, cs, hc, hl, rfl, h4 ps hf⟩, fun d M' hd F' H' v s1 w3 r1 => ?_, fun _ _ _ z => z.elim⟩
    obtain ⟨n', cells', ne, ln, rfl, hR⟩ := hd
    exact kq d M hR F' H' v s1 (w3.town_in T ne ln) r1
  · exact h.elim
theorem ok_Reader_found (T : Tx K mg) : FnOk P w K mg base (L2.CX P w) 4 T.f_Reader_found T.d_Reader_found p_Reader_found (liftSp K mg z_Reader_found) :=
  z_ok true (k := 3) (zb := zb_Reader_found) T.F_Reader_found sc_Reader_found (n := 2) rfl (fun ds M R RE h => by
    unfold z_Reader_found at h
    split at h
    · exact ⟨rfl, h⟩
    · exact h.elim)
  fun cdv A outer s H E F0 zE hr wk => (zss_cons (zs_set (i := 1) sc_Reader_found.nd (ze_lst true za_nil))
  (zss_cons (zs_if (zt_w (zw_and (zt_cmp (op_inT (units65 hr)) snd_inT (ze_ct call_tuple_of snd_tuple T.n_tuple (by decide +kernel) (za_cons (ze_fld T.g_Reader T.l_Reader (naB_ok T.a_Reader (by decide +kernel)) (ze_var 0)) za_nil)) (ze_glob (v := .ref T.a_SIGNS) rfl T.g_SIGNS rfl (ktup_rep T.k_SIGNS (fun F => (.cons (ktup_rep T.k0_SIGNS (fun _ => RepL.ints _) F) (.cons (ktup_rep T.k1_SIGNS (fun _ => RepL.ints _) F) .nil))))) (by first | exact nobehind _ (by decide) (by decide) | rfl)) (zw_and1 (zt_w (zw_or (zt_cmp (OpR.or op_isN op_isBl) snd_is (ze_fld T.g_Reader T.l_Reader (naB_ok T.a_Reader (by decide +kernel)) (ze_var 0)) ze_non (by first | exact nobehind _ (by decide) (by decide) | rfl)) (zw_or1 (zt_cmp (op_neZ hr.units) snd_ne (ze_cb call_len snd_len T.n_len (by decide +kernel) (za_cons (ze_fld T.g_Reader T.l_Reader (naB_ok T.a_Reader (by decide +kernel)) (ze_var 0)) za_nil)) (ze_cb call_len snd_len T.n_len (by decide +kernel) (za_cons (ze_fld T.g_Reader T.l_Reader (naB_ok T.a_Reader (by decide +kernel)) (ze_var 0)) za_nil)) (by first | exact nobehind _ (by decide) (by decide) | rfl)))))))) (zss_cons (zs_if (zt_cmp (OpR.or op_notN op_notBl) snd_isNot (ze_fld T.g_Reader T.l_Reader (naB_ok T.a_Reader (by decide +kernel)) (ze_var 0)) ze_non (by first | exact nobehind _ (by decide) (by decide) | rfl)) (zss_one (zs_expr (ze_mL PySem.F.plainAttrs_list PySem.F.slot_list_append PySem.F.type_list_append mt_append snd_app (ze_var 1) (za_cons (ze_glob (v := .str "lost") rfl T.g_LOST.2 ⟨_, rfl⟩ (fun _ => .str (by decide +kernel) (by decide +kernel))) za_nil))))
  zss_nil)
  (zss_cons (zs_setA T.g_Reader T.l_Reader (naB_ok T.a_Reader (by decide +kernel)) (ze_var 0) (ze_ct call_list_of (snd_list true) T.n_list (by decide +kernel) (za_cons (ze_fld T.g_Reader T.l_Reader (naB_ok T.a_Reader (by decide +kernel)) (ze_var 0)) za_nil)))
  (zss_one (zs_setA T.g_Reader T.l_Reader (naB_ok T.a_Reader (by decide +kernel)) (ze_var 0) ze_non))))
  zss_nil)
  (zss_cons (zs_if (zt_w (zw_and (zt_cmp (OpR.or op_notN op_notBl) snd_isNot (ze_fld T.g_Reader T.l_Reader (naB_ok T.a_Reader (by decide +kernel)) (ze_var 0)) ze_non (by first | exact nobehind _ (by decide) (by decide) | rfl)) (zw_and1 (zt_cmp (op_eqZ hr.units) snd_eq (ze_cb call_len snd_len T.n_len (by decide +kernel) (za_cons (ze_fld T.g_Reader T.l_Reader (naB_ok T.a_Reader (by decide +kernel)) (ze_var 0)) za_nil)) (ze_glob (v := .int 10) rfl T.g_LONG.2 ⟨_, rfl⟩ (fun _ => .int _)) (by first | exact nobehind _ (by decide) (by decide) | rfl))))) (zss_cons (zs_set (i := 2) sc_Reader_found.nd (ze_call (ok_word_of T) (hr.mono (by decide)) T.g_word_of T.F_word_of.kp T.b_word_of (takes_of rfl rfl rfl rfl) wk (za_cons (ze_fld T.g_Reader T.l_Reader (naB_ok T.a_Reader (by decide +kernel)) (ze_var 0)) za_nil)))
  (zss_cons (zs_setA T.g_Reader T.l_Reader (naB_ok T.a_Reader (by decide +kernel)) (ze_var 0) (ze_lst true za_nil))
  (zss_one (zs_expr (ze_mL PySem.F.plainAttrs_list PySem.F.slot_list_extend PySem.F.type_list_extend mt_extend snd_ext (ze_var 1) (za_cons (ze_meth T.g_Reader T.l_Reader T.m_Reader_heard (ok_Reader_heard T) (hr.mono (by decide)) T.b_Reader_heard (takes_of rfl rfl rfl rfl) wk (ze_var 0) (za_cons (ze_var 2) za_nil)) za_nil))))))
  zss_nil)
  (zss_one (zs_ret (ze_var 1))))))
theorem ok_Taker_take (T : Tx K mg) : FnOk P w K mg base (L2.CX P w) 7 T.f_Taker_take T.d_Taker_take p_Taker_take (liftSp K mg z_Taker_take) :=
  z_ok true (k := 6) (zb := zb_Taker_take) T.F_Taker_take sc_Taker_take (n := 2) rfl (fun ds M R RE h => by
    unfold z_Taker_take at h
    split at h
    · exact ⟨rfl, h⟩
    · exact h.elim)
  fun cdv A outer s H E F0 zE hr wk => (zss_cons (zs_if (zt_w (zw_or (zt_not (zt_val (ze_isi (T := "list") (ze_var 1) T.n_isinstance T.n_list (by decide +kernel)))) (zw_or1 (zt_not (zt_val (ze_cb (cr_all rfl) snd_all T.n_all (by decide +kernel) (za_cons (ze_lc (own := [("item", 3)]) false rfl sc_Taker_take.nd (zi_list (ze_var 1)) (blkOk_by (N := N_Taker_take) (sc := defScope s_Taker_take) (by decide +kernel)) (tg_name (by decide)) (fun _ _ _ _ _ => (pg_name (i := 3) sc_Taker_take.nd rfl (by first | exact Or.inl rfl | exact Or.inr rfl))) (fun _ _ _ _ _ => zts_nil) (fun _ _ _ _ _ => (ze_or (ze_cmp (op_eqZ hr.units) snd_eq (ze_var 3) (ze_glob (v := .str "lost") rfl T.g_LOST.2 ⟨_, rfl⟩ (fun _ => .str (by decide +kernel) (by decide +kernel))) (by first | exact nobehind _ (by decide) (by decide) | rfl)) (ze_one (ze_call (ok_is_item T) (hr.mono (by decide)) T.g_is_item T.F_is_item.kp T.b_is_item takes0 wok0 (za_cons (ze_var 3) za_nil)))))) za_nil))))))) (zss_one (zs_raise rfl (takes_of rfl rfl rfl rfl) wk PySem.F.excBase_ValueError T.x_BadItem T.g_BadItem T.k_BadItem T.r_BadItem))
  zss_nil)
  (zss_cons (zs_set (i := 2) sc_Taker_take.nd (ze_lst true za_nil))
  (zss_cons (zs_for (passes_of rfl) rfl (zi_list (ze_var 1)) (zg_name (i := 3) sc_Taker_take.nd) (zss_one (zs_expr (ze_mL PySem.F.plainAttrs_list PySem.F.slot_list_extend PySem.F.type_list_extend mt_extend snd_ext (ze_var 2) (za_cons (ze_meth T.g_Taker T.l_Taker T.m_Taker_took (ok_Taker_took T) (hr.mono (by decide)) T.b_Taker_took (takes_of rfl rfl rfl rfl) wk (ze_var 0) (za_cons (ze_var 3) za_nil)) za_nil)))))
  (zss_one (zs_ret (ze_var 2))))))
theorem ok_Reader_hear (T : Tx K mg) : FnOk P w K mg base (L2.CX P w) 5 T.f_Reader_hear T.d_Reader_hear p_Reader_hear (liftSp K mg z_Reader_hear) :=
  z_ok true (k := 4) (zb := zb_Reader_hear) T.F_Reader_hear sc_Reader_hear (n := 2) rfl (fun ds M R RE h => by
    unfold z_Reader_hear at h
    split at h
    · exact ⟨rfl, h⟩
    · exact h.elim)
  fun cdv A outer s H E F0 zE hr wk => (zss_cons (zs_expr (ze_call (ok_look_bits T) (hr.mono (by decide)) T.g_look_bits T.F_look_bits.kp T.b_look_bits (takes_of rfl rfl rfl rfl) wk (za_cons (ze_var 1) za_nil)))
  (zss_cons (zs_set (i := 2) sc_Reader_hear.nd (ze_lst true za_nil))
  (zss_cons (zs_for (passes_of rfl) rfl (zi_list (ze_var 1)) (zg_name (i := 3) sc_Reader_hear.nd) (zss_cons (zs_setA T.g_Reader T.l_Reader (naB_ok T.a_Reader (by decide +kernel)) (ze_var 0) (ze_sl false (ze_add false (ze_fld T.g_Reader T.l_Reader (naB_ok T.a_Reader (by decide +kernel)) (ze_var 0)) (ze_lst false (za_cons (ze_var 3) za_nil))) (zo_some (ze_sub ze_int (ze_cb call_len snd_len T.n_len (by decide +kernel) (za_cons (ze_ix (ze_glob (v := .ref T.a_SIGNS) rfl T.g_SIGNS rfl (ktup_rep T.k_SIGNS (fun F => (.cons (ktup_rep T.k0_SIGNS (fun _ => RepL.ints _) F) (.cons (ktup_rep T.k1_SIGNS (fun _ => RepL.ints _) F) .nil))))) ze_int (fun _ _ => rfl)) za_nil)))) zo_none))
  (zss_cons (zs_if (zt_cmp (OpR.or op_notN op_notBl) snd_isNot (ze_fld T.g_Reader T.l_Reader (naB_ok T.a_Reader (by decide +kernel)) (ze_var 0)) ze_non (by first | exact nobehind _ (by decide) (by decide) | rfl)) (zss_one (zs_expr (ze_mL PySem.F.plainAttrs_list PySem.F.slot_list_append PySem.F.type_list_append mt_append snd_app (ze_fld T.g_Reader T.l_Reader (naB_ok T.a_Reader (by decide +kernel)) (ze_var 0)) (za_cons (ze_var 3) za_nil))))
  zss_nil)
  (zss_one (zs_expr (ze_mL PySem.F.plainAttrs_list PySem.F.slot_list_extend PySem.F.type_list_extend mt_extend snd_ext (ze_var 2) (za_cons (ze_meth0 T.g_Reader T.l_Reader T.m_Reader_found (ok_Reader_found T) (hr.mono (by decide)) T.b_Reader_found (takes_of rfl rfl rfl rfl) wk (ze_var 0)) za_nil)))))))
  (zss_one (zs_ret (ze_var 2))))))
theorem ok_Ear_hear (T : Tx K mg) : FnOk P w K mg base (L2.CX P w) 8 T.f_Ear_hear T.d_Ear_hear p_Ear_hear (liftSp K mg z_Ear_hear) :=
  z_ok false (k := 7) (zb := zb_Ear_hear) T.F_Ear_hear sc_Ear_hear (n := 0) rfl (fun ds M R RE h => by
    unfold z_Ear_hear at h
    split at h
    · exact ⟨rfl, h⟩
    · exact h.elim)
  fun cdv A outer s H E F0 zE hr wk => (zss_one (zs_ret (ze_meth T.g_Taker T.l_Taker T.m_Taker_take (ok_Taker_take T) (hr.mono (by decide)) T.b_Taker_take (takes_of rfl rfl rfl rfl) wk (ze_fld T.g_Ear T.l_Ear (naB_ok T.a_Ear (by decide +kernel)) (ze_var 0)) (za_cons (ze_meth T.g_Reader T.l_Reader T.m_Reader_hear (ok_Reader_hear T) (hr.mono (by decide)) T.b_Reader_hear (takes_of rfl rfl rfl rfl) wk (ze_fld T.g_Ear T.l_Ear (naB_ok T.a_Ear (by decide +kernel)) (ze_var 0)) (za_cons (ze_var 1) za_nil)) za_nil))))
theorem ok_law (T : Tx K mg) : FnOk P w K mg base (L2.CX P w) 9 T.f_law T.d_law p_law (liftSp K mg z_law) :=
  z_ok true (k := 8) (zb := zb_law) T.F_law sc_law (n := 14) rfl (fun ds M R RE h => by
    unfold z_law at h
    split at h
    · exact ⟨rfl, h⟩
    · exact h.elim)
  fun cdv A outer s H E F0 zE hr wk => (zss_cons (zs_set (i := 1) sc_law.nd (ze_call (ok__law_town T) (hr.mono (by decide)) T.g__law_town T.F__law_town.kp T.b__law_town (takes_of rfl rfl rfl rfl) wk (za_cons (ze_var 0) za_nil)))
  (zss_cons (zs_set (i := 2) sc_law.nd (ze_call (ok__law_gap T) (hr.mono (by decide)) T.g__law_gap T.F__law_gap.kp T.b__law_gap (takes_of rfl rfl rfl rfl) wk (za_cons (ze_var 1) za_nil)))
  (zss_cons (zs_set (i := 3) sc_law.nd (ze_lst true za_nil))
  (zss_cons (zs_for (passes_of rfl) rfl (zi_range1 T.n_range (za_cons (ze_add false ze_int (ze_call (ok__law_draw T) (hr.mono (by decide)) T.g__law_draw T.F__law_draw.kp T.b__law_draw (takes_of rfl rfl rfl rfl) wk (za_cons (ze_var 1) (za_cons ze_int za_nil)))) za_nil)) (zg_name (i := 4) sc_law.nd) (zss_cons (zs_expr (ze_mL PySem.F.plainAttrs_list PySem.F.slot_list_append PySem.F.type_list_append mt_append snd_app (ze_var 3) (za_cons (ze_call (ok__law_row T) (hr.mono (by decide)) T.g__law_row T.F__law_row.kp T.b__law_row (takes_of rfl rfl rfl rfl) wk (za_cons (ze_var 1) (za_cons ze_int za_nil))) za_nil)))
  (zss_cons (zs_set (i := 5) sc_law.nd (ze_call (ok__law_frame T) (hr.mono (by decide)) T.g__law_frame T.F__law_frame.kp T.b__law_frame (takes_of rfl rfl rfl rfl) wk (za_cons (ze_ix (ze_var 3) (ze_neg ze_int) (fun _ _ => rfl)) za_nil)))
  (zss_cons (zs_set (i := 6) sc_law.nd (ze_add false ze_int (ze_call (ok__law_draw T) (hr.mono (by decide)) T.g__law_draw T.F__law_draw.kp T.b__law_draw (takes_of rfl rfl rfl rfl) wk (za_cons (ze_var 1) (za_cons (ze_sub (ze_cb call_len snd_len T.n_len (by decide +kernel) (za_cons (ze_var 5) za_nil)) ze_int) za_nil)))))
  (zss_one (zs_set (i := 2) sc_law.nd (ze_add false (ze_add false (ze_add false (ze_add false (ze_var 2) (ze_sl false (ze_var 5) zo_none (zo_some (ze_var 6)))) (ze_mul false (ze_lst false (za_cons ze_str za_nil)) (ze_call (ok__law_pick T) (hr.mono (by decide)) T.g__law_pick T.F__law_pick.kp T.b__law_pick (takes_of rfl rfl rfl rfl) wk (za_cons (ze_var 1) (za_cons (ze_lst false (za_cons ze_int (za_cons ze_int (za_cons ze_int (za_cons ze_int za_nil))))) za_nil))))) (ze_sl false (ze_var 5) (zo_some (ze_var 6)) zo_none)) (ze_call (ok__law_gap T) (hr.mono (by decide)) T.g__law_gap T.F__law_gap.kp T.b__law_gap (takes_of rfl rfl rfl rfl) wk (za_cons (ze_var 1) za_nil)))))))))
  (zss_cons (zs_set (i := 7) sc_law.nd (ze_ix (ze_call (ok__law_sent T) (hr.mono (by decide)) T.g__law_sent T.F__law_sent.kp T.b__law_sent (takes_of rfl rfl rfl rfl) wk (za_cons (ze_var 2) (za_cons (ze_call (ok__law_pick T) (hr.mono (by decide)) T.g__law_pick T.F__law_pick.kp T.b__law_pick (takes_of rfl rfl rfl rfl) wk (za_cons (ze_var 1) (za_cons (ze_lst false (za_cons ze_int (za_cons (ze_sub ze_int ze_int) za_nil))) za_nil))) za_nil))) ze_int (fun _ _ => rfl)))
  (zss_cons (zs_set (i := 8) sc_law.nd (ze_make0 T.g_Ear T.k_Ear (ok_Ear___init__ T) (hr.mono (by decide)) T.b_Ear___init__ (takes_of rfl rfl rfl rfl) wk))
  (zss_cons (zs_set (i := 9) sc_law.nd (ze_lst false za_nil))
  (zss_cons (zs_for (passes_of rfl) rfl (zi_list (ze_call (ok__law_cuts T) (hr.mono (by decide)) T.g__law_cuts T.F__law_cuts.kp T.b__law_cuts (takes_of rfl rfl rfl rfl) wk (za_cons (ze_var 1) (za_cons (ze_var 7) za_nil)))) (zg_name (i := 10) sc_law.nd) (zss_cons (zs_set (i := 11) sc_law.nd (ze_meth T.g_Ear T.l_Ear T.m_Ear_hear (ok_Ear_hear T) (hr.mono (by decide)) T.b_Ear_hear (takes_of rfl rfl rfl rfl) wk (ze_var 8) (za_cons (ze_var 10) za_nil)))
  (zss_cons (zs_set (i := 9) sc_law.nd (ze_add false (ze_var 9) (ze_var 11)))
  (zss_one (zs_expr (ze_mL PySem.F.plainAttrs_list PySem.F.slot_list_append PySem.F.type_list_append mt_append snd_app (ze_var 11) (za_cons ze_str za_nil)))))))
  (zss_cons (zs_if (zt_w (zw_or (zt_cmp (OpR.or op_notN op_notBl) snd_isNot (ze_meth0 T.g_Ear T.l_Ear T.m_Ear_in_step (ok_Ear_in_step T) (hr.mono (by decide)) T.b_Ear_in_step (takes_of rfl rfl rfl rfl) wk (ze_var 8)) ze_bl (by first | exact nobehind _ (by decide) (by decide) | rfl)) (zw_or1 (zt_cmp (op_neZ hr.units) snd_ne (ze_lc (own := [("event", 14)]) false rfl sc_law.nd (zi_list (ze_var 9)) (blkOk_by (N := N_law) (sc := defScope s_law) (by decide +kernel)) (tg_name (by decide)) (fun _ _ _ _ _ => (pg_name (i := 14) sc_law.nd rfl (by first | exact Or.inl rfl | exact Or.inr rfl))) (fun _ _ _ _ _ => (zts_one (zt_not (zt_val (ze_isi (T := "tuple") (ze_var 14) T.n_isinstance T.n_tuple (by decide +kernel)))))) (fun _ _ _ _ _ => (ze_var 14))) (ze_lst false za_nil) (by first | exact nobehind _ (by decide) (by decide) | rfl))))) (zss_one (zs_ret ze_bl))
  zss_nil)
  (zss_cons (zs_if (zt_cmp (op_neZ hr.units) snd_ne (ze_var 9) (ze_lc (own := [("row", 13)]) false rfl sc_law.nd (zi_list (ze_var 3)) (blkOk_by (N := N_law) (sc := defScope s_law) (by decide +kernel)) (tg_name (by decide)) (fun _ _ _ _ _ => (pg_name (i := 13) sc_law.nd rfl (by first | exact Or.inl rfl | exact Or.inr rfl))) (fun _ _ _ _ _ => zts_nil) (fun _ _ _ _ _ => (ze_tup (za_cons ze_str (za_cons (ze_var 13) za_nil))))) (by first | exact nobehind _ (by decide) (by decide) | rfl)) (zss_one (zs_ret ze_bl))
  zss_nil)
  (zss_cons (zs_for (passes_of rfl) rfl (zi_list (ze_var 9)) (zg_tup rfl (zgs_cons (zg_name (i := 12) sc_law.nd) (zgs_cons (zg_name (i := 13) sc_law.nd) zgs_nil))) (zss_one (zs_expr (ze_mL PySem.F.plainAttrs_list PySem.F.slot_list_append PySem.F.type_list_append mt_append snd_app (ze_var 13) (za_cons ze_int za_nil)))))
  (zss_one (zs_ret (ze_cmp (op_eqZ hr.units) snd_eq (ze_meth T.g_Ear T.l_Ear T.m_Ear_hear (ok_Ear_hear T) (hr.mono (by decide)) T.b_Ear_hear (takes_of rfl rfl rfl rfl) wk (ze_make0 T.g_Ear T.k_Ear (ok_Ear___init__ T) (hr.mono (by decide)) T.b_Ear___init__ (takes_of rfl rfl rfl rfl) wk) (za_cons (ze_var 7) za_nil)) (ze_lc (own := [("row", 13)]) false rfl sc_law.nd (zi_list (ze_var 3)) (blkOk_by (N := N_law) (sc := defScope s_law) (by decide +kernel)) (tg_name (by decide)) (fun _ _ _ _ _ => (pg_name (i := 13) sc_law.nd rfl (by first | exact Or.inl rfl | exact Or.inr rfl))) (fun _ _ _ _ _ => zts_nil) (fun _ _ _ _ _ => (ze_tup (za_cons ze_str (za_cons (ze_var 13) za_nil))))) (by first | exact nobehind _ (by decide) (by decide) | rfl)))))))))))))))
end
def spLaw (K : PySem.W.Frag) : Sp := fun vs H Q _ => ∃ (a : Addr) (ns : List Int), vs = [.ref a] ∧ SqL K H a (ns.map V.int) ∧ cellsOk ns ∧ ∀ H', Q (.bl true) H'
theorem all_mk (HL : ∀ ns : List Int, ns.length ≤ 63 → z_law [.scr ns] (fun _ => none) (fun d _ => d = .bl true) fun _ _ _ => False) {l : PySem.W.OpenLaw} {w : World} {K : PySem.W.Frag} {h : Heap} {mg : Str → Option Value} {fa : Addr} (X : K.In h) (G : h.Ns mainGlobals mg) (hfa : mg "law" = some (.ref fa))
    {cc_Ear : Addr}
    {cc_Reader : Addr}
    {cc_Taker : Addr}
    {f__wall : Addr} {od__wall an__wall : Option Addr} {sl__wall : Array (Option Value)} {oc__wall kV__wall dc__wall pm__wall cd__wall ct__wall : Value}
    {f_is_whole : Addr} {od_is_whole an_is_whole : Option Addr} {sl_is_whole : Array (Option Value)} {oc_is_whole kV_is_whole dc_is_whole pm_is_whole cd_is_whole ct_is_whole : Value}
    {f_look_bits : Addr} {od_look_bits an_look_bits : Option Addr} {sl_look_bits : Array (Option Value)} {oc_look_bits kV_look_bits dc_look_bits pm_look_bits cd_look_bits ct_look_bits : Value}
    {f_word_of : Addr} {od_word_of an_word_of : Option Addr} {sl_word_of : Array (Option Value)} {oc_word_of kV_word_of dc_word_of pm_word_of cd_word_of ct_word_of : Value}
    {f_is_item : Addr} {od_is_item an_is_item : Option Addr} {sl_is_item : Array (Option Value)} {oc_is_item kV_is_item dc_is_item pm_is_item cd_is_item ct_is_item : Value}
    {f_pair_item : Addr} {od_pair_item an_pair_item : Option Addr} {sl_pair_item : Array (Option Value)} {oc_pair_item kV_pair_item dc_pair_item pm_pair_item cd_pair_item ct_pair_item : Value}
    {f_item_at : Addr} {od_item_at an_item_at : Option Addr} {sl_item_at : Array (Option Value)} {oc_item_at kV_item_at dc_item_at pm_item_at cd_item_at ct_item_at : Value}
    {f_is_row : Addr} {od_is_row an_is_row : Option Addr} {sl_is_row : Array (Option Value)} {oc_is_row kV_is_row dc_is_row pm_is_row cd_is_row ct_is_row : Value}
    {f_look_row : Addr} {od_look_row an_look_row : Option Addr} {sl_look_row : Array (Option Value)} {oc_look_row kV_look_row dc_look_row pm_look_row cd_look_row ct_look_row : Value}
    {f_sum_of : Addr} {od_sum_of an_sum_of : Option Addr} {sl_sum_of : Array (Option Value)} {oc_sum_of kV_sum_of dc_sum_of pm_sum_of cd_sum_of ct_sum_of : Value}
    {f_check_of : Addr} {od_check_of an_check_of : Option Addr} {sl_check_of : Array (Option Value)} {oc_check_of kV_check_of dc_check_of pm_check_of cd_check_of ct_check_of : Value}
    {f_row_within : Addr} {od_row_within an_row_within : Option Addr} {sl_row_within : Array (Option Value)} {oc_row_within kV_row_within dc_row_within pm_row_within cd_row_within ct_row_within : Value}
    {f_Reader___init__ : Addr} {od_Reader___init__ an_Reader___init__ : Option Addr} {sl_Reader___init__ : Array (Option Value)} {oc_Reader___init__ kV_Reader___init__ dc_Reader___init__ pm_Reader___init__ cd_Reader___init__ ct_Reader___init__ : Value}
    {f_Reader_heard : Addr} {od_Reader_heard an_Reader_heard : Option Addr} {sl_Reader_heard : Array (Option Value)} {oc_Reader_heard kV_Reader_heard dc_Reader_heard pm_Reader_heard cd_Reader_heard ct_Reader_heard : Value}
    {f_Reader_in_step : Addr} {od_Reader_in_step an_Reader_in_step : Option Addr} {sl_Reader_in_step : Array (Option Value)} {oc_Reader_in_step kV_Reader_in_step dc_Reader_in_step pm_Reader_in_step cd_Reader_in_step ct_Reader_in_step : Value}
    {f_Reader_poise_now : Addr} {od_Reader_poise_now an_Reader_poise_now : Option Addr} {sl_Reader_poise_now : Array (Option Value)} {oc_Reader_poise_now kV_Reader_poise_now dc_Reader_poise_now pm_Reader_poise_now cd_Reader_poise_now ct_Reader_poise_now : Value}
    {f_Reader_waiting : Addr} {od_Reader_waiting an_Reader_waiting : Option Addr} {sl_Reader_waiting : Array (Option Value)} {oc_Reader_waiting kV_Reader_waiting dc_Reader_waiting pm_Reader_waiting cd_Reader_waiting ct_Reader_waiting : Value}
    {f_Taker___init__ : Addr} {od_Taker___init__ an_Taker___init__ : Option Addr} {sl_Taker___init__ : Array (Option Value)} {oc_Taker___init__ kV_Taker___init__ dc_Taker___init__ pm_Taker___init__ cd_Taker___init__ ct_Taker___init__ : Value}
    {f_Taker_took : Addr} {od_Taker_took an_Taker_took : Option Addr} {sl_Taker_took : Array (Option Value)} {oc_Taker_took kV_Taker_took dc_Taker_took pm_Taker_took cd_Taker_took ct_Taker_took : Value}
    {f_Taker_within : Addr} {od_Taker_within an_Taker_within : Option Addr} {sl_Taker_within : Array (Option Value)} {oc_Taker_within kV_Taker_within dc_Taker_within pm_Taker_within cd_Taker_within ct_Taker_within : Value}
    {f_Ear___init__ : Addr} {od_Ear___init__ an_Ear___init__ : Option Addr} {sl_Ear___init__ : Array (Option Value)} {oc_Ear___init__ kV_Ear___init__ dc_Ear___init__ pm_Ear___init__ cd_Ear___init__ ct_Ear___init__ : Value}
    {f_Ear_in_step : Addr} {od_Ear_in_step an_Ear_in_step : Option Addr} {sl_Ear_in_step : Array (Option Value)} {oc_Ear_in_step kV_Ear_in_step dc_Ear_in_step pm_Ear_in_step cd_Ear_in_step ct_Ear_in_step : Value}
    {f__law_town : Addr} {od__law_town an__law_town : Option Addr} {sl__law_town : Array (Option Value)} {oc__law_town kV__law_town dc__law_town pm__law_town cd__law_town ct__law_town : Value}
    {f__law_draw : Addr} {od__law_draw an__law_draw : Option Addr} {sl__law_draw : Array (Option Value)} {oc__law_draw kV__law_draw dc__law_draw pm__law_draw cd__law_draw ct__law_draw : Value}
    {f__law_pick : Addr} {od__law_pick an__law_pick : Option Addr} {sl__law_pick : Array (Option Value)} {oc__law_pick kV__law_pick dc__law_pick pm__law_pick cd__law_pick ct__law_pick : Value}
    {f__law_ten : Addr} {od__law_ten an__law_ten : Option Addr} {sl__law_ten : Array (Option Value)} {oc__law_ten kV__law_ten dc__law_ten pm__law_ten cd__law_ten ct__law_ten : Value}
    {f__law_even : Addr} {od__law_even an__law_even : Option Addr} {sl__law_even : Array (Option Value)} {oc__law_even kV__law_even dc__law_even pm__law_even cd__law_even ct__law_even : Value}
    {f__law_heavy : Addr} {od__law_heavy an__law_heavy : Option Addr} {sl__law_heavy : Array (Option Value)} {oc__law_heavy kV__law_heavy dc__law_heavy pm__law_heavy cd__law_heavy ct__law_heavy : Value}
    {f__law_has_pair : Addr} {od__law_has_pair an__law_has_pair : Option Addr} {sl__law_has_pair : Array (Option Value)} {oc__law_has_pair kV__law_has_pair dc__law_has_pair pm__law_has_pair cd__law_has_pair ct__law_has_pair : Value}
    {f__law_put : Addr} {od__law_put an__law_put : Option Addr} {sl__law_put : Array (Option Value)} {oc__law_put kV__law_put dc__law_put pm__law_put cd__law_put ct__law_put : Value}
    {f__law_sent : Addr} {od__law_sent an__law_sent : Option Addr} {sl__law_sent : Array (Option Value)} {oc__law_sent kV__law_sent dc__law_sent pm__law_sent cd__law_sent ct__law_sent : Value}
    {f__law_byte : Addr} {od__law_byte an__law_byte : Option Addr} {sl__law_byte : Array (Option Value)} {oc__law_byte kV__law_byte dc__law_byte pm__law_byte cd__law_byte ct__law_byte : Value}
    {f__law_row : Addr} {od__law_row an__law_row : Option Addr} {sl__law_row : Array (Option Value)} {oc__law_row kV__law_row dc__law_row pm__law_row cd__law_row ct__law_row : Value}
    {f__law_check : Addr} {od__law_check an__law_check : Option Addr} {sl__law_check : Array (Option Value)} {oc__law_check kV__law_check dc__law_check pm__law_check cd__law_check ct__law_check : Value}
    {f__law_frame : Addr} {od__law_frame an__law_frame : Option Addr} {sl__law_frame : Array (Option Value)} {oc__law_frame kV__law_frame dc__law_frame pm__law_frame cd__law_frame ct__law_frame : Value}
    {f__law_gap : Addr} {od__law_gap an__law_gap : Option Addr} {sl__law_gap : Array (Option Value)} {oc__law_gap kV__law_gap dc__law_gap pm__law_gap cd__law_gap ct__law_gap : Value}
    {f__law_cuts : Addr} {od__law_cuts an__law_cuts : Option Addr} {sl__law_cuts : Array (Option Value)} {oc__law_cuts kV__law_cuts dc__law_cuts pm__law_cuts cd__law_cuts ct__law_cuts : Value}
    {f_Reader_found : Addr} {od_Reader_found an_Reader_found : Option Addr} {sl_Reader_found : Array (Option Value)} {oc_Reader_found kV_Reader_found dc_Reader_found pm_Reader_found cd_Reader_found ct_Reader_found : Value}
    {f_Taker_take : Addr} {od_Taker_take an_Taker_take : Option Addr} {sl_Taker_take : Array (Option Value)} {oc_Taker_take kV_Taker_take dc_Taker_take pm_Taker_take cd_Taker_take ct_Taker_take : Value}
    {f_Reader_hear : Addr} {od_Reader_hear an_Reader_hear : Option Addr} {sl_Reader_hear : Array (Option Value)} {oc_Reader_hear kV_Reader_hear dc_Reader_hear pm_Reader_hear cd_Reader_hear ct_Reader_hear : Value}
    {f_Ear_hear : Addr} {od_Ear_hear an_Ear_hear : Option Addr} {sl_Ear_hear : Array (Option Value)} {oc_Ear_hear kV_Ear_hear dc_Ear_hear pm_Ear_hear cd_Ear_hear ct_Ear_hear : Value}
    {f_law : Addr} {od_law an_law : Option Addr} {sl_law : Array (Option Value)} {oc_law kV_law dc_law pm_law cd_law ct_law : Value}
    {t_BEGIN : Tok}
    {ca_CONTROLS : Addr} {cn_CONTROLS : Nat} {ci_CONTROLS : List Value} {cs_CONTROLS : Array (Option Value)}
    {ca_EVEN : Addr} {cn_EVEN : Nat} {ci_EVEN : List Value} {cs_EVEN : Array (Option Value)}
    {ca_HEAVY : Addr} {cn_HEAVY : Nat} {ci_HEAVY : List Value} {cs_HEAVY : Array (Option Value)}
    {t_LONG : Tok}
    {t_LOST : Tok}
    {t_MARK : Tok}
    {t_MODULUS : Tok}
    {t_MOST : Tok}
    {t_MOST_ROW : Tok}
    {t_PAIRS : Tok}
    {ca_SIGNS : Addr} {cn_SIGNS : Nat} {ci_SIGNS : List Value} {cs_SIGNS : Array (Option Value)}
    {cb0_SIGNS : Addr} {cbn0_SIGNS : Nat} {cbi0_SIGNS : List Value} {cbs0_SIGNS : Array (Option Value)}
    {cb1_SIGNS : Addr} {cbn1_SIGNS : Nat} {cbi1_SIGNS : List Value} {cbs1_SIGNS : Array (Option Value)}
    {xc_BadBits : Addr}
    {xc_BadItem : Addr}
    {xc_BadRow : Addr}
    (cg_Ear : PySem.W.nsIn K mainGlobals "Ear" = some (some (.ref cc_Ear)))
    (cl_Ear : clB K cc_Ear = true)
    (cf_Ear : naB K cc_Ear ["reader", "taker"] = true)
    (cg_Reader : PySem.W.nsIn K mainGlobals "Reader" = some (some (.ref cc_Reader)))
    (cl_Reader : clB K cc_Reader = true)
    (cf_Reader : naB K cc_Reader ["last", "part", "poise"] = true)
    (cg_Taker : PySem.W.nsIn K mainGlobals "Taker" = some (some (.ref cc_Taker)))
    (cl_Taker : clB K cc_Taker = true)
    (cf_Taker : naB K cc_Taker ["some"] = true)
    (a__wall : PySem.W.nsIn K mainGlobals "_wall" = some (some (.ref f__wall)))
    (l__wall : K.lookup f__wall = some ⟨oc__wall, od__wall, .func (PySem.W.fnOf "_wall" "_wall" (defArgs s__wall) (defBody s__wall) (defScope s__wall) .none kV__wall dc__wall pm__wall an__wall cd__wall ct__wall), sl__wall⟩)
    (c__wall : PySem.W.codeIn K cd__wall "_wall" = true)
    (k__wall : PySem.W.keepIn K (.ref f__wall) = true)
    (a_is_whole : PySem.W.nsIn K mainGlobals "is_whole" = some (some (.ref f_is_whole)))
    (l_is_whole : K.lookup f_is_whole = some ⟨oc_is_whole, od_is_whole, .func (PySem.W.fnOf "is_whole" "is_whole" (defArgs s_is_whole) (defBody s_is_whole) (defScope s_is_whole) .none kV_is_whole dc_is_whole pm_is_whole an_is_whole cd_is_whole ct_is_whole), sl_is_whole⟩)
    (c_is_whole : PySem.W.codeIn K cd_is_whole "is_whole" = true)
    (k_is_whole : PySem.W.keepIn K (.ref f_is_whole) = true)
    (a_look_bits : PySem.W.nsIn K mainGlobals "look_bits" = some (some (.ref f_look_bits)))
    (l_look_bits : K.lookup f_look_bits = some ⟨oc_look_bits, od_look_bits, .func (PySem.W.fnOf "look_bits" "look_bits" (defArgs s_look_bits) (defBody s_look_bits) (defScope s_look_bits) .none kV_look_bits dc_look_bits pm_look_bits an_look_bits cd_look_bits ct_look_bits), sl_look_bits⟩)
    (c_look_bits : PySem.W.codeIn K cd_look_bits "look_bits" = true)
    (k_look_bits : PySem.W.keepIn K (.ref f_look_bits) = true)
    (a_word_of : PySem.W.nsIn K mainGlobals "word_of" = some (some (.ref f_word_of)))
    (l_word_of : K.lookup f_word_of = some ⟨oc_word_of, od_word_of, .func (PySem.W.fnOf "word_of" "word_of" (defArgs s_word_of) (defBody s_word_of) (defScope s_word_of) .none kV_word_of dc_word_of pm_word_of an_word_of cd_word_of ct_word_of), sl_word_of⟩)
    (c_word_of : PySem.W.codeIn K cd_word_of "word_of" = true)
    (k_word_of : PySem.W.keepIn K (.ref f_word_of) = true)
    (a_is_item : PySem.W.nsIn K mainGlobals "is_item" = some (some (.ref f_is_item)))
    (l_is_item : K.lookup f_is_item = some ⟨oc_is_item, od_is_item, .func (PySem.W.fnOf "is_item" "is_item" (defArgs s_is_item) (defBody s_is_item) (defScope s_is_item) .none kV_is_item dc_is_item pm_is_item an_is_item cd_is_item ct_is_item), sl_is_item⟩)
    (c_is_item : PySem.W.codeIn K cd_is_item "is_item" = true)
    (k_is_item : PySem.W.keepIn K (.ref f_is_item) = true)
    (a_pair_item : PySem.W.nsIn K mainGlobals "pair_item" = some (some (.ref f_pair_item)))
    (l_pair_item : K.lookup f_pair_item = some ⟨oc_pair_item, od_pair_item, .func (PySem.W.fnOf "pair_item" "pair_item" (defArgs s_pair_item) (defBody s_pair_item) (defScope s_pair_item) .none kV_pair_item dc_pair_item pm_pair_item an_pair_item cd_pair_item ct_pair_item), sl_pair_item⟩)
    (c_pair_item : PySem.W.codeIn K cd_pair_item "pair_item" = true)
    (k_pair_item : PySem.W.keepIn K (.ref f_pair_item) = true)
    (a_item_at : PySem.W.nsIn K mainGlobals "item_at" = some (some (.ref f_item_at)))
    (l_item_at : K.lookup f_item_at = some ⟨oc_item_at, od_item_at, .func (PySem.W.fnOf "item_at" "item_at" (defArgs s_item_at) (defBody s_item_at) (defScope s_item_at) .none kV_item_at dc_item_at pm_item_at an_item_at cd_item_at ct_item_at), sl_item_at⟩)
    (c_item_at : PySem.W.codeIn K cd_item_at "item_at" = true)
    (k_item_at : PySem.W.keepIn K (.ref f_item_at) = true)
    (a_is_row : PySem.W.nsIn K mainGlobals "is_row" = some (some (.ref f_is_row)))
    (l_is_row : K.lookup f_is_row = some ⟨oc_is_row, od_is_row, .func (PySem.W.fnOf "is_row" "is_row" (defArgs s_is_row) (defBody s_is_row) (defScope s_is_row) .none kV_is_row dc_is_row pm_is_row an_is_row cd_is_row ct_is_row), sl_is_row⟩)
    (c_is_row : PySem.W.codeIn K cd_is_row "is_row" = true)
    (k_is_row : PySem.W.keepIn K (.ref f_is_row) = true)
    (a_look_row : PySem.W.nsIn K mainGlobals "look_row" = some (some (.ref f_look_row)))
    (l_look_row : K.lookup f_look_row = some ⟨oc_look_row, od_look_row, .func (PySem.W.fnOf "look_row" "look_row" (defArgs s_look_row) (defBody s_look_row) (defScope s_look_row) .none kV_look_row dc_look_row pm_look_row an_look_row cd_look_row ct_look_row), sl_look_row⟩)
    (c_look_row : PySem.W.codeIn K cd_look_row "look_row" = true)
    (k_look_row : PySem.W.keepIn K (.ref f_look_row) = true)
    (a_sum_of : PySem.W.nsIn K mainGlobals "sum_of" = some (some (.ref f_sum_of)))
    (l_sum_of : K.lookup f_sum_of = some ⟨oc_sum_of, od_sum_of, .func (PySem.W.fnOf "sum_of" "sum_of" (defArgs s_sum_of) (defBody s_sum_of) (defScope s_sum_of) .none kV_sum_of dc_sum_of pm_sum_of an_sum_of cd_sum_of ct_sum_of), sl_sum_of⟩)
    (c_sum_of : PySem.W.codeIn K cd_sum_of "sum_of" = true)
    (k_sum_of : PySem.W.keepIn K (.ref f_sum_of) = true)
    (a_check_of : PySem.W.nsIn K mainGlobals "check_of" = some (some (.ref f_check_of)))
    (l_check_of : K.lookup f_check_of = some ⟨oc_check_of, od_check_of, .func (PySem.W.fnOf "check_of" "check_of" (defArgs s_check_of) (defBody s_check_of) (defScope s_check_of) .none kV_check_of dc_check_of pm_check_of an_check_of cd_check_of ct_check_of), sl_check_of⟩)
    (c_check_of : PySem.W.codeIn K cd_check_of "check_of" = true)
    (k_check_of : PySem.W.keepIn K (.ref f_check_of) = true)
    (a_row_within : PySem.W.nsIn K mainGlobals "row_within" = some (some (.ref f_row_within)))
    (l_row_within : K.lookup f_row_within = some ⟨oc_row_within, od_row_within, .func (PySem.W.fnOf "row_within" "row_within" (defArgs s_row_within) (defBody s_row_within) (defScope s_row_within) .none kV_row_within dc_row_within pm_row_within an_row_within cd_row_within ct_row_within), sl_row_within⟩)
    (c_row_within : PySem.W.codeIn K cd_row_within "row_within" = true)
    (k_row_within : PySem.W.keepIn K (.ref f_row_within) = true)
    (mk_Reader : mkB K cc_Reader f_Reader___init__ = true)
    (a_Reader___init__ : PySem.W.findIn K (.ref cc_Reader) "__init__" = some (some (.ref f_Reader___init__)))
    (fn_Reader___init__ : PySem.W.isFn K (.ref f_Reader___init__) = true)
    (l_Reader___init__ : K.lookup f_Reader___init__ = some ⟨oc_Reader___init__, od_Reader___init__, .func (PySem.W.fnOf "__init__" "Reader.__init__" (defArgs s_Reader___init__) (defBody s_Reader___init__) (defScope s_Reader___init__) .none kV_Reader___init__ dc_Reader___init__ pm_Reader___init__ an_Reader___init__ cd_Reader___init__ ct_Reader___init__), sl_Reader___init__⟩)
    (c_Reader___init__ : PySem.W.codeIn K cd_Reader___init__ "Reader.__init__" = true)
    (k_Reader___init__ : PySem.W.keepIn K (.ref f_Reader___init__) = true)
    (a_Reader_heard : PySem.W.findIn K (.ref cc_Reader) "heard" = some (some (.ref f_Reader_heard)))
    (fn_Reader_heard : PySem.W.isFn K (.ref f_Reader_heard) = true)
    (l_Reader_heard : K.lookup f_Reader_heard = some ⟨oc_Reader_heard, od_Reader_heard, .func (PySem.W.fnOf "heard" "Reader.heard" (defArgs s_Reader_heard) (defBody s_Reader_heard) (defScope s_Reader_heard) .none kV_Reader_heard dc_Reader_heard pm_Reader_heard an_Reader_heard cd_Reader_heard ct_Reader_heard), sl_Reader_heard⟩)
    (c_Reader_heard : PySem.W.codeIn K cd_Reader_heard "Reader.heard" = true)
    (k_Reader_heard : PySem.W.keepIn K (.ref f_Reader_heard) = true)
    (a_Reader_in_step : PySem.W.findIn K (.ref cc_Reader) "in_step" = some (some (.ref f_Reader_in_step)))
    (fn_Reader_in_step : PySem.W.isFn K (.ref f_Reader_in_step) = true)
    (l_Reader_in_step : K.lookup f_Reader_in_step = some ⟨oc_Reader_in_step, od_Reader_in_step, .func (PySem.W.fnOf "in_step" "Reader.in_step" (defArgs s_Reader_in_step) (defBody s_Reader_in_step) (defScope s_Reader_in_step) .none kV_Reader_in_step dc_Reader_in_step pm_Reader_in_step an_Reader_in_step cd_Reader_in_step ct_Reader_in_step), sl_Reader_in_step⟩)
    (c_Reader_in_step : PySem.W.codeIn K cd_Reader_in_step "Reader.in_step" = true)
    (k_Reader_in_step : PySem.W.keepIn K (.ref f_Reader_in_step) = true)
    (a_Reader_poise_now : PySem.W.findIn K (.ref cc_Reader) "poise_now" = some (some (.ref f_Reader_poise_now)))
    (fn_Reader_poise_now : PySem.W.isFn K (.ref f_Reader_poise_now) = true)
    (l_Reader_poise_now : K.lookup f_Reader_poise_now = some ⟨oc_Reader_poise_now, od_Reader_poise_now, .func (PySem.W.fnOf "poise_now" "Reader.poise_now" (defArgs s_Reader_poise_now) (defBody s_Reader_poise_now) (defScope s_Reader_poise_now) .none kV_Reader_poise_now dc_Reader_poise_now pm_Reader_poise_now an_Reader_poise_now cd_Reader_poise_now ct_Reader_poise_now), sl_Reader_poise_now⟩)
    (c_Reader_poise_now : PySem.W.codeIn K cd_Reader_poise_now "Reader.poise_now" = true)
    (k_Reader_poise_now : PySem.W.keepIn K (.ref f_Reader_poise_now) = true)
    (a_Reader_waiting : PySem.W.findIn K (.ref cc_Reader) "waiting" = some (some (.ref f_Reader_waiting)))
    (fn_Reader_waiting : PySem.W.isFn K (.ref f_Reader_waiting) = true)
    (l_Reader_waiting : K.lookup f_Reader_waiting = some ⟨oc_Reader_waiting, od_Reader_waiting, .func (PySem.W.fnOf "waiting" "Reader.waiting" (defArgs s_Reader_waiting) (defBody s_Reader_waiting) (defScope s_Reader_waiting) .none kV_Reader_waiting dc_Reader_waiting pm_Reader_waiting an_Reader_waiting cd_Reader_waiting ct_Reader_waiting), sl_Reader_waiting⟩)
    (c_Reader_waiting : PySem.W.codeIn K cd_Reader_waiting "Reader.waiting" = true)
    (k_Reader_waiting : PySem.W.keepIn K (.ref f_Reader_waiting) = true)
    (mk_Taker : mkB K cc_Taker f_Taker___init__ = true)
    (a_Taker___init__ : PySem.W.findIn K (.ref cc_Taker) "__init__" = some (some (.ref f_Taker___init__)))
    (fn_Taker___init__ : PySem.W.isFn K (.ref f_Taker___init__) = true)
    (l_Taker___init__ : K.lookup f_Taker___init__ = some ⟨oc_Taker___init__, od_Taker___init__, .func (PySem.W.fnOf "__init__" "Taker.__init__" (defArgs s_Taker___init__) (defBody s_Taker___init__) (defScope s_Taker___init__) .none kV_Taker___init__ dc_Taker___init__ pm_Taker___init__ an_Taker___init__ cd_Taker___init__ ct_Taker___init__), sl_Taker___init__⟩)
    (c_Taker___init__ : PySem.W.codeIn K cd_Taker___init__ "Taker.__init__" = true)
    (k_Taker___init__ : PySem.W.keepIn K (.ref f_Taker___init__) = true)
    (a_Taker_took : PySem.W.findIn K (.ref cc_Taker) "took" = some (some (.ref f_Taker_took)))
    (fn_Taker_took : PySem.W.isFn K (.ref f_Taker_took) = true)
    (l_Taker_took : K.lookup f_Taker_took = some ⟨oc_Taker_took, od_Taker_took, .func (PySem.W.fnOf "took" "Taker.took" (defArgs s_Taker_took) (defBody s_Taker_took) (defScope s_Taker_took) .none kV_Taker_took dc_Taker_took pm_Taker_took an_Taker_took cd_Taker_took ct_Taker_took), sl_Taker_took⟩)
    (c_Taker_took : PySem.W.codeIn K cd_Taker_took "Taker.took" = true)
    (k_Taker_took : PySem.W.keepIn K (.ref f_Taker_took) = true)
    (a_Taker_within : PySem.W.findIn K (.ref cc_Taker) "within" = some (some (.ref f_Taker_within)))
    (fn_Taker_within : PySem.W.isFn K (.ref f_Taker_within) = true)
    (l_Taker_within : K.lookup f_Taker_within = some ⟨oc_Taker_within, od_Taker_within, .func (PySem.W.fnOf "within" "Taker.within" (defArgs s_Taker_within) (defBody s_Taker_within) (defScope s_Taker_within) .none kV_Taker_within dc_Taker_within pm_Taker_within an_Taker_within cd_Taker_within ct_Taker_within), sl_Taker_within⟩)
    (c_Taker_within : PySem.W.codeIn K cd_Taker_within "Taker.within" = true)
    (k_Taker_within : PySem.W.keepIn K (.ref f_Taker_within) = true)
    (mk_Ear : mkB K cc_Ear f_Ear___init__ = true)
    (a_Ear___init__ : PySem.W.findIn K (.ref cc_Ear) "__init__" = some (some (.ref f_Ear___init__)))
    (fn_Ear___init__ : PySem.W.isFn K (.ref f_Ear___init__) = true)
    (l_Ear___init__ : K.lookup f_Ear___init__ = some ⟨oc_Ear___init__, od_Ear___init__, .func (PySem.W.fnOf "__init__" "Ear.__init__" (defArgs s_Ear___init__) (defBody s_Ear___init__) (defScope s_Ear___init__) .none kV_Ear___init__ dc_Ear___init__ pm_Ear___init__ an_Ear___init__ cd_Ear___init__ ct_Ear___init__), sl_Ear___init__⟩)
    (c_Ear___init__ : PySem.W.codeIn K cd_Ear___init__ "Ear.__init__" = true)
    (k_Ear___init__ : PySem.W.keepIn K (.ref f_Ear___init__) = true)
    (a_Ear_in_step : PySem.W.findIn K (.ref cc_Ear) "in_step" = some (some (.ref f_Ear_in_step)))
    (fn_Ear_in_step : PySem.W.isFn K (.ref f_Ear_in_step) = true)
    (l_Ear_in_step : K.lookup f_Ear_in_step = some ⟨oc_Ear_in_step, od_Ear_in_step, .func (PySem.W.fnOf "in_step" "Ear.in_step" (defArgs s_Ear_in_step) (defBody s_Ear_in_step) (defScope s_Ear_in_step) .none kV_Ear_in_step dc_Ear_in_step pm_Ear_in_step an_Ear_in_step cd_Ear_in_step ct_Ear_in_step), sl_Ear_in_step⟩)
    (c_Ear_in_step : PySem.W.codeIn K cd_Ear_in_step "Ear.in_step" = true)
    (k_Ear_in_step : PySem.W.keepIn K (.ref f_Ear_in_step) = true)
    (a__law_town : PySem.W.nsIn K mainGlobals "_law_town" = some (some (.ref f__law_town)))
    (l__law_town : K.lookup f__law_town = some ⟨oc__law_town, od__law_town, .func (PySem.W.fnOf "_law_town" "_law_town" (defArgs s__law_town) (defBody s__law_town) (defScope s__law_town) .none kV__law_town dc__law_town pm__law_town an__law_town cd__law_town ct__law_town), sl__law_town⟩)
    (c__law_town : PySem.W.codeIn K cd__law_town "_law_town" = true)
    (k__law_town : PySem.W.keepIn K (.ref f__law_town) = true)
    (a__law_draw : PySem.W.nsIn K mainGlobals "_law_draw" = some (some (.ref f__law_draw)))
    (l__law_draw : K.lookup f__law_draw = some ⟨oc__law_draw, od__law_draw, .func (PySem.W.fnOf "_law_draw" "_law_draw" (defArgs s__law_draw) (defBody s__law_draw) (defScope s__law_draw) .none kV__law_draw dc__law_draw pm__law_draw an__law_draw cd__law_draw ct__law_draw), sl__law_draw⟩)
    (c__law_draw : PySem.W.codeIn K cd__law_draw "_law_draw" = true)
    (k__law_draw : PySem.W.keepIn K (.ref f__law_draw) = true)
    (a__law_pick : PySem.W.nsIn K mainGlobals "_law_pick" = some (some (.ref f__law_pick)))
    (l__law_pick : K.lookup f__law_pick = some ⟨oc__law_pick, od__law_pick, .func (PySem.W.fnOf "_law_pick" "_law_pick" (defArgs s__law_pick) (defBody s__law_pick) (defScope s__law_pick) .none kV__law_pick dc__law_pick pm__law_pick an__law_pick cd__law_pick ct__law_pick), sl__law_pick⟩)
    (c__law_pick : PySem.W.codeIn K cd__law_pick "_law_pick" = true)
    (k__law_pick : PySem.W.keepIn K (.ref f__law_pick) = true)
    (a__law_ten : PySem.W.nsIn K mainGlobals "_law_ten" = some (some (.ref f__law_ten)))
    (l__law_ten : K.lookup f__law_ten = some ⟨oc__law_ten, od__law_ten, .func (PySem.W.fnOf "_law_ten" "_law_ten" (defArgs s__law_ten) (defBody s__law_ten) (defScope s__law_ten) .none kV__law_ten dc__law_ten pm__law_ten an__law_ten cd__law_ten ct__law_ten), sl__law_ten⟩)
    (c__law_ten : PySem.W.codeIn K cd__law_ten "_law_ten" = true)
    (k__law_ten : PySem.W.keepIn K (.ref f__law_ten) = true)
    (a__law_even : PySem.W.nsIn K mainGlobals "_law_even" = some (some (.ref f__law_even)))
    (l__law_even : K.lookup f__law_even = some ⟨oc__law_even, od__law_even, .func (PySem.W.fnOf "_law_even" "_law_even" (defArgs s__law_even) (defBody s__law_even) (defScope s__law_even) .none kV__law_even dc__law_even pm__law_even an__law_even cd__law_even ct__law_even), sl__law_even⟩)
    (c__law_even : PySem.W.codeIn K cd__law_even "_law_even" = true)
    (k__law_even : PySem.W.keepIn K (.ref f__law_even) = true)
    (a__law_heavy : PySem.W.nsIn K mainGlobals "_law_heavy" = some (some (.ref f__law_heavy)))
    (l__law_heavy : K.lookup f__law_heavy = some ⟨oc__law_heavy, od__law_heavy, .func (PySem.W.fnOf "_law_heavy" "_law_heavy" (defArgs s__law_heavy) (defBody s__law_heavy) (defScope s__law_heavy) .none kV__law_heavy dc__law_heavy pm__law_heavy an__law_heavy cd__law_heavy ct__law_heavy), sl__law_heavy⟩)
    (c__law_heavy : PySem.W.codeIn K cd__law_heavy "_law_heavy" = true)
    (k__law_heavy : PySem.W.keepIn K (.ref f__law_heavy) = true)
    (a__law_has_pair : PySem.W.nsIn K mainGlobals "_law_has_pair" = some (some (.ref f__law_has_pair)))
    (l__law_has_pair : K.lookup f__law_has_pair = some ⟨oc__law_has_pair, od__law_has_pair, .func (PySem.W.fnOf "_law_has_pair" "_law_has_pair" (defArgs s__law_has_pair) (defBody s__law_has_pair) (defScope s__law_has_pair) .none kV__law_has_pair dc__law_has_pair pm__law_has_pair an__law_has_pair cd__law_has_pair ct__law_has_pair), sl__law_has_pair⟩)
    (c__law_has_pair : PySem.W.codeIn K cd__law_has_pair "_law_has_pair" = true)
    (k__law_has_pair : PySem.W.keepIn K (.ref f__law_has_pair) = true)
    (a__law_put : PySem.W.nsIn K mainGlobals "_law_put" = some (some (.ref f__law_put)))
    (l__law_put : K.lookup f__law_put = some ⟨oc__law_put, od__law_put, .func (PySem.W.fnOf "_law_put" "_law_put" (defArgs s__law_put) (defBody s__law_put) (defScope s__law_put) .none kV__law_put dc__law_put pm__law_put an__law_put cd__law_put ct__law_put), sl__law_put⟩)
    (c__law_put : PySem.W.codeIn K cd__law_put "_law_put" = true)
    (k__law_put : PySem.W.keepIn K (.ref f__law_put) = true)
    (a__law_sent : PySem.W.nsIn K mainGlobals "_law_sent" = some (some (.ref f__law_sent)))
    (l__law_sent : K.lookup f__law_sent = some ⟨oc__law_sent, od__law_sent, .func (PySem.W.fnOf "_law_sent" "_law_sent" (defArgs s__law_sent) (defBody s__law_sent) (defScope s__law_sent) .none kV__law_sent dc__law_sent pm__law_sent an__law_sent cd__law_sent ct__law_sent), sl__law_sent⟩)
    (c__law_sent : PySem.W.codeIn K cd__law_sent "_law_sent" = true)
    (k__law_sent : PySem.W.keepIn K (.ref f__law_sent) = true)
    (a__law_byte : PySem.W.nsIn K mainGlobals "_law_byte" = some (some (.ref f__law_byte)))
    (l__law_byte : K.lookup f__law_byte = some ⟨oc__law_byte, od__law_byte, .func (PySem.W.fnOf "_law_byte" "_law_byte" (defArgs s__law_byte) (defBody s__law_byte) (defScope s__law_byte) .none kV__law_byte dc__law_byte pm__law_byte an__law_byte cd__law_byte ct__law_byte), sl__law_byte⟩)
    (c__law_byte : PySem.W.codeIn K cd__law_byte "_law_byte" = true)
    (k__law_byte : PySem.W.keepIn K (.ref f__law_byte) = true)
    (a__law_row : PySem.W.nsIn K mainGlobals "_law_row" = some (some (.ref f__law_row)))
    (l__law_row : K.lookup f__law_row = some ⟨oc__law_row, od__law_row, .func (PySem.W.fnOf "_law_row" "_law_row" (defArgs s__law_row) (defBody s__law_row) (defScope s__law_row) .none kV__law_row dc__law_row pm__law_row an__law_row cd__law_row ct__law_row), sl__law_row⟩)
    (c__law_row : PySem.W.codeIn K cd__law_row "_law_row" = true)
    (k__law_row : PySem.W.keepIn K (.ref f__law_row) = true)
    (a__law_check : PySem.W.nsIn K mainGlobals "_law_check" = some (some (.ref f__law_check)))
    (l__law_check : K.lookup f__law_check = some ⟨oc__law_check, od__law_check, .func (PySem.W.fnOf "_law_check" "_law_check" (defArgs s__law_check) (defBody s__law_check) (defScope s__law_check) .none kV__law_check dc__law_check pm__law_check an__law_check cd__law_check ct__law_check), sl__law_check⟩)
    (c__law_check : PySem.W.codeIn K cd__law_check "_law_check" = true)
    (k__law_check : PySem.W.keepIn K (.ref f__law_check) = true)
    (a__law_frame : PySem.W.nsIn K mainGlobals "_law_frame" = some (some (.ref f__law_frame)))
    (l__law_frame : K.lookup f__law_frame = some ⟨oc__law_frame, od__law_frame, .func (PySem.W.fnOf "_law_frame" "_law_frame" (defArgs s__law_frame) (defBody s__law_frame) (defScope s__law_frame) .none kV__law_frame dc__law_frame pm__law_frame an__law_frame cd__law_frame ct__law_frame), sl__law_frame⟩)
    (c__law_frame : PySem.W.codeIn K cd__law_frame "_law_frame" = true)
    (k__law_frame : PySem.W.keepIn K (.ref f__law_frame) = true)
    (a__law_gap : PySem.W.nsIn K mainGlobals "_law_gap" = some (some (.ref f__law_gap)))
    (l__law_gap : K.lookup f__law_gap = some ⟨oc__law_gap, od__law_gap, .func (PySem.W.fnOf "_law_gap" "_law_gap" (defArgs s__law_gap) (defBody s__law_gap) (defScope s__law_gap) .none kV__law_gap dc__law_gap pm__law_gap an__law_gap cd__law_gap ct__law_gap), sl__law_gap⟩)
    (c__law_gap : PySem.W.codeIn K cd__law_gap "_law_gap" = true)
    (k__law_gap : PySem.W.keepIn K (.ref f__law_gap) = true)
    (a__law_cuts : PySem.W.nsIn K mainGlobals "_law_cuts" = some (some (.ref f__law_cuts)))
    (l__law_cuts : K.lookup f__law_cuts = some ⟨oc__law_cuts, od__law_cuts, .func (PySem.W.fnOf "_law_cuts" "_law_cuts" (defArgs s__law_cuts) (defBody s__law_cuts) (defScope s__law_cuts) .none kV__law_cuts dc__law_cuts pm__law_cuts an__law_cuts cd__law_cuts ct__law_cuts), sl__law_cuts⟩)
    (c__law_cuts : PySem.W.codeIn K cd__law_cuts "_law_cuts" = true)
    (k__law_cuts : PySem.W.keepIn K (.ref f__law_cuts) = true)
    (a_Reader_found : PySem.W.findIn K (.ref cc_Reader) "found" = some (some (.ref f_Reader_found)))
    (fn_Reader_found : PySem.W.isFn K (.ref f_Reader_found) = true)
    (l_Reader_found : K.lookup f_Reader_found = some ⟨oc_Reader_found, od_Reader_found, .func (PySem.W.fnOf "found" "Reader.found" (defArgs s_Reader_found) (defBody s_Reader_found) (defScope s_Reader_found) .none kV_Reader_found dc_Reader_found pm_Reader_found an_Reader_found cd_Reader_found ct_Reader_found), sl_Reader_found⟩)
    (c_Reader_found : PySem.W.codeIn K cd_Reader_found "Reader.found" = true)
    (k_Reader_found : PySem.W.keepIn K (.ref f_Reader_found) = true)
    (a_Taker_take : PySem.W.findIn K (.ref cc_Taker) "take" = some (some (.ref f_Taker_take)))
    (fn_Taker_take : PySem.W.isFn K (.ref f_Taker_take) = true)
    (l_Taker_take : K.lookup f_Taker_take = some ⟨oc_Taker_take, od_Taker_take, .func (PySem.W.fnOf "take" "Taker.take" (defArgs s_Taker_take) (defBody s_Taker_take) (defScope s_Taker_take) .none kV_Taker_take dc_Taker_take pm_Taker_take an_Taker_take cd_Taker_take ct_Taker_take), sl_Taker_take⟩)
    (c_Taker_take : PySem.W.codeIn K cd_Taker_take "Taker.take" = true)
    (k_Taker_take : PySem.W.keepIn K (.ref f_Taker_take) = true)
    (a_Reader_hear : PySem.W.findIn K (.ref cc_Reader) "hear" = some (some (.ref f_Reader_hear)))
    (fn_Reader_hear : PySem.W.isFn K (.ref f_Reader_hear) = true)
    (l_Reader_hear : K.lookup f_Reader_hear = some ⟨oc_Reader_hear, od_Reader_hear, .func (PySem.W.fnOf "hear" "Reader.hear" (defArgs s_Reader_hear) (defBody s_Reader_hear) (defScope s_Reader_hear) .none kV_Reader_hear dc_Reader_hear pm_Reader_hear an_Reader_hear cd_Reader_hear ct_Reader_hear), sl_Reader_hear⟩)
    (c_Reader_hear : PySem.W.codeIn K cd_Reader_hear "Reader.hear" = true)
    (k_Reader_hear : PySem.W.keepIn K (.ref f_Reader_hear) = true)
    (a_Ear_hear : PySem.W.findIn K (.ref cc_Ear) "hear" = some (some (.ref f_Ear_hear)))
    (fn_Ear_hear : PySem.W.isFn K (.ref f_Ear_hear) = true)
    (l_Ear_hear : K.lookup f_Ear_hear = some ⟨oc_Ear_hear, od_Ear_hear, .func (PySem.W.fnOf "hear" "Ear.hear" (defArgs s_Ear_hear) (defBody s_Ear_hear) (defScope s_Ear_hear) .none kV_Ear_hear dc_Ear_hear pm_Ear_hear an_Ear_hear cd_Ear_hear ct_Ear_hear), sl_Ear_hear⟩)
    (c_Ear_hear : PySem.W.codeIn K cd_Ear_hear "Ear.hear" = true)
    (k_Ear_hear : PySem.W.keepIn K (.ref f_Ear_hear) = true)
    (a_law : PySem.W.nsIn K mainGlobals "law" = some (some (.ref f_law)))
    (l_law : K.lookup f_law = some ⟨oc_law, od_law, .func (PySem.W.fnOf "law" "law" (defArgs s_law) (defBody s_law) (defScope s_law) .none kV_law dc_law pm_law an_law cd_law ct_law), sl_law⟩)
    (c_law : PySem.W.codeIn K cd_law "law" = true)
    (k_law : PySem.W.keepIn K (.ref f_law) = true)
    (cn_BEGIN : PySem.W.nsIn K mainGlobals "BEGIN" = some (some (.str "begin" t_BEGIN)))
    (ga_CONTROLS : PySem.W.nsIn K mainGlobals "CONTROLS" = some (some (.ref ca_CONTROLS)))
    (gl_CONTROLS : K.lookup ca_CONTROLS = some ⟨.type "tuple", none, .seq ci_CONTROLS.toArray cn_CONTROLS, cs_CONTROLS⟩)
    (gv_CONTROLS : ci_CONTROLS.map absV = cv_CONTROLS.map some)
    (ga_EVEN : PySem.W.nsIn K mainGlobals "EVEN" = some (some (.ref ca_EVEN)))
    (gl_EVEN : K.lookup ca_EVEN = some ⟨.type "tuple", none, .seq ci_EVEN.toArray cn_EVEN, cs_EVEN⟩)
    (gv_EVEN : ci_EVEN.map absV = cv_EVEN.map some)
    (ga_HEAVY : PySem.W.nsIn K mainGlobals "HEAVY" = some (some (.ref ca_HEAVY)))
    (gl_HEAVY : K.lookup ca_HEAVY = some ⟨.type "tuple", none, .seq ci_HEAVY.toArray cn_HEAVY, cs_HEAVY⟩)
    (gv_HEAVY : ci_HEAVY.map absV = cv_HEAVY.map some)
    (cn_LONG : PySem.W.nsIn K mainGlobals "LONG" = some (some (.int 10 t_LONG)))
    (cn_LOST : PySem.W.nsIn K mainGlobals "LOST" = some (some (.str "lost" t_LOST)))
    (cn_MARK : PySem.W.nsIn K mainGlobals "MARK" = some (some (.int 250 t_MARK)))
    (cn_MODULUS : PySem.W.nsIn K mainGlobals "MODULUS" = some (some (.int 65521 t_MODULUS)))
    (cn_MOST : PySem.W.nsIn K mainGlobals "MOST" = some (some (.int 1023 t_MOST)))
    (cn_MOST_ROW : PySem.W.nsIn K mainGlobals "MOST_ROW" = some (some (.int 64 t_MOST_ROW)))
    (cn_PAIRS : PySem.W.nsIn K mainGlobals "PAIRS" = some (some (.int 76 t_PAIRS)))
    (ga_SIGNS : PySem.W.nsIn K mainGlobals "SIGNS" = some (some (.ref ca_SIGNS)))
    (gl_SIGNS : K.lookup ca_SIGNS = some ⟨.type "tuple", none, .seq ci_SIGNS.toArray cn_SIGNS, cs_SIGNS⟩)
    (gv_SIGNS : ci_SIGNS.map absV = [some (V.ref cb0_SIGNS), some (V.ref cb1_SIGNS)])
    (gl0_SIGNS : K.lookup cb0_SIGNS = some ⟨.type "tuple", none, .seq cbi0_SIGNS.toArray cbn0_SIGNS, cbs0_SIGNS⟩)
    (gv0_SIGNS : cbi0_SIGNS.map absV = (n0_SIGNS.map V.int).map some)
    (gl1_SIGNS : K.lookup cb1_SIGNS = some ⟨.type "tuple", none, .seq cbi1_SIGNS.toArray cbn1_SIGNS, cbs1_SIGNS⟩)
    (gv1_SIGNS : cbi1_SIGNS.map absV = (n1_SIGNS.map V.int).map some)
    (n_all : PySem.W.nsIn K mainGlobals "all" = some none)
    (n_bool : PySem.W.nsIn K mainGlobals "bool" = some none)
    (n_divmod : PySem.W.nsIn K mainGlobals "divmod" = some none)
    (n_enumerate : PySem.W.nsIn K mainGlobals "enumerate" = some none)
    (n_int : PySem.W.nsIn K mainGlobals "int" = some none)
    (n_isinstance : PySem.W.nsIn K mainGlobals "isinstance" = some none)
    (n_len : PySem.W.nsIn K mainGlobals "len" = some none)
    (n_list : PySem.W.nsIn K mainGlobals "list" = some none)
    (n_min : PySem.W.nsIn K mainGlobals "min" = some none)
    (n_range : PySem.W.nsIn K mainGlobals "range" = some none)
    (n_str : PySem.W.nsIn K mainGlobals "str" = some none)
    (n_sum : PySem.W.nsIn K mainGlobals "sum" = some none)
    (n_tuple : PySem.W.nsIn K mainGlobals "tuple" = some none)
    (xa_BadBits : PySem.W.nsIn K mainGlobals "BadBits" = some (some (.ref xc_BadBits)))
    (xx_BadBits : PySem.W.excIn K xc_BadBits [.type "ValueError", .type "Exception", .type "BaseException", .type "object"] "ValueError.__new__" = true)
    (xk_BadBits : PySem.W.keepIn K (.ref xc_BadBits) = true)
    (xb_BadBits : PySem.W.subIn K (.ref xc_BadBits) (.type "BaseException") = some true)
    (xt_BadBits : PySem.W.typeIn K (.ref xc_BadBits) = some (.type "type"))
    (xa_BadItem : PySem.W.nsIn K mainGlobals "BadItem" = some (some (.ref xc_BadItem)))
    (xx_BadItem : PySem.W.excIn K xc_BadItem [.type "ValueError", .type "Exception", .type "BaseException", .type "object"] "ValueError.__new__" = true)
    (xk_BadItem : PySem.W.keepIn K (.ref xc_BadItem) = true)
    (xb_BadItem : PySem.W.subIn K (.ref xc_BadItem) (.type "BaseException") = some true)
    (xt_BadItem : PySem.W.typeIn K (.ref xc_BadItem) = some (.type "type"))
    (xa_BadRow : PySem.W.nsIn K mainGlobals "BadRow" = some (some (.ref xc_BadRow)))
    (xx_BadRow : PySem.W.excIn K xc_BadRow [.type "ValueError", .type "Exception", .type "BaseException", .type "object"] "ValueError.__new__" = true)
    (xk_BadRow : PySem.W.keepIn K (.ref xc_BadRow) = true)
    (xb_BadRow : PySem.W.subIn K (.ref xc_BadRow) (.type "BaseException") = some true)
    (xt_BadRow : PySem.W.typeIn K (.ref xc_BadRow) = some (.type "type")) :
    ∃ fd : FuncData, (∀ (s : Shared) (v : Value), BindsTo s fd ⟨[v], []⟩ [("script", v)]) ∧ ∀ base : Heap, K.In base → base.Ns mainGlobals mg → FnOk l.prog w K mg base (L2.CX l.prog w) 9 fa fd ["script"] (spLaw K) := by
  have e := hfa.symm.trans (PySem.W.mg_of X G a_law)
  cases e
  have F__wall := fun_mk (st := s__wall) l__wall c__wall k__wall
  have b__wall := F__wall.binds (ps := p__wall) fun _ _ _ _ _ _ us hl => match us, hl with | [_], _ => rfl
  have F_is_whole := fun_mk (st := s_is_whole) l_is_whole c_is_whole k_is_whole
  have b_is_whole := F_is_whole.binds (ps := p_is_whole) fun _ _ _ _ _ _ us hl => match us, hl with | [_, _, _], _ => rfl
  have F_look_bits := fun_mk (st := s_look_bits) l_look_bits c_look_bits k_look_bits
  have b_look_bits := F_look_bits.binds (ps := p_look_bits) fun _ _ _ _ _ _ us hl => match us, hl with | [_], _ => rfl
  have F_word_of := fun_mk (st := s_word_of) l_word_of c_word_of k_word_of
  have b_word_of := F_word_of.binds (ps := p_word_of) fun _ _ _ _ _ _ us hl => match us, hl with | [_], _ => rfl
  have F_is_item := fun_mk (st := s_is_item) l_is_item c_is_item k_is_item
  have b_is_item := F_is_item.binds (ps := p_is_item) fun _ _ _ _ _ _ us hl => match us, hl with | [_], _ => rfl
  have F_pair_item := fun_mk (st := s_pair_item) l_pair_item c_pair_item k_pair_item
  have b_pair_item := F_pair_item.binds (ps := p_pair_item) fun _ _ _ _ _ _ us hl => match us, hl with | [_], _ => rfl
  have F_item_at := fun_mk (st := s_item_at) l_item_at c_item_at k_item_at
  have b_item_at := F_item_at.binds (ps := p_item_at) fun _ _ _ _ _ _ us hl => match us, hl with | [_], _ => rfl
  have F_is_row := fun_mk (st := s_is_row) l_is_row c_is_row k_is_row
  have b_is_row := F_is_row.binds (ps := p_is_row) fun _ _ _ _ _ _ us hl => match us, hl with | [_, _], _ => rfl
  have F_look_row := fun_mk (st := s_look_row) l_look_row c_look_row k_look_row
  have b_look_row := F_look_row.binds (ps := p_look_row) fun _ _ _ _ _ _ us hl => match us, hl with | [_, _], _ => rfl
  have F_sum_of := fun_mk (st := s_sum_of) l_sum_of c_sum_of k_sum_of
  have b_sum_of := F_sum_of.binds (ps := p_sum_of) fun _ _ _ _ _ _ us hl => match us, hl with | [_], _ => rfl
  have F_check_of := fun_mk (st := s_check_of) l_check_of c_check_of k_check_of
  have b_check_of := F_check_of.binds (ps := p_check_of) fun _ _ _ _ _ _ us hl => match us, hl with | [_], _ => rfl
  have F_row_within := fun_mk (st := s_row_within) l_row_within c_row_within k_row_within
  have b_row_within := F_row_within.binds (ps := p_row_within) fun _ _ _ _ _ _ us hl => match us, hl with | [_], _ => rfl
  have F_Reader___init__ := fun_mk (st := s_Reader___init__) l_Reader___init__ c_Reader___init__ k_Reader___init__
  have b_Reader___init__ := F_Reader___init__.binds (ps := p_Reader___init__) fun _ _ _ _ _ _ us hl => match us, hl with | [_], _ => rfl
  have F_Reader_heard := fun_mk (st := s_Reader_heard) l_Reader_heard c_Reader_heard k_Reader_heard
  have b_Reader_heard := F_Reader_heard.binds (ps := p_Reader_heard) fun _ _ _ _ _ _ us hl => match us, hl with | [_, _], _ => rfl
  have F_Reader_in_step := fun_mk (st := s_Reader_in_step) l_Reader_in_step c_Reader_in_step k_Reader_in_step
  have b_Reader_in_step := F_Reader_in_step.binds (ps := p_Reader_in_step) fun _ _ _ _ _ _ us hl => match us, hl with | [_], _ => rfl
  have F_Reader_poise_now := fun_mk (st := s_Reader_poise_now) l_Reader_poise_now c_Reader_poise_now k_Reader_poise_now
  have b_Reader_poise_now := F_Reader_poise_now.binds (ps := p_Reader_poise_now) fun _ _ _ _ _ _ us hl => match us, hl with | [_], _ => rfl
  have F_Reader_waiting := fun_mk (st := s_Reader_waiting) l_Reader_waiting c_Reader_waiting k_Reader_waiting
  have b_Reader_waiting := F_Reader_waiting.binds (ps := p_Reader_waiting) fun _ _ _ _ _ _ us hl => match us, hl with | [_], _ => rfl
  have F_Taker___init__ := fun_mk (st := s_Taker___init__) l_Taker___init__ c_Taker___init__ k_Taker___init__
  have b_Taker___init__ := F_Taker___init__.binds (ps := p_Taker___init__) fun _ _ _ _ _ _ us hl => match us, hl with | [_], _ => rfl
  have F_Taker_took := fun_mk (st := s_Taker_took) l_Taker_took c_Taker_took k_Taker_took
  have b_Taker_took := F_Taker_took.binds (ps := p_Taker_took) fun _ _ _ _ _ _ us hl => match us, hl with | [_, _], _ => rfl
  have F_Taker_within := fun_mk (st := s_Taker_within) l_Taker_within c_Taker_within k_Taker_within
  have b_Taker_within := F_Taker_within.binds (ps := p_Taker_within) fun _ _ _ _ _ _ us hl => match us, hl with | [_], _ => rfl
  have F_Ear___init__ := fun_mk (st := s_Ear___init__) l_Ear___init__ c_Ear___init__ k_Ear___init__
  have b_Ear___init__ := F_Ear___init__.binds (ps := p_Ear___init__) fun _ _ _ _ _ _ us hl => match us, hl with | [_], _ => rfl
  have F_Ear_in_step := fun_mk (st := s_Ear_in_step) l_Ear_in_step c_Ear_in_step k_Ear_in_step
  have b_Ear_in_step := F_Ear_in_step.binds (ps := p_Ear_in_step) fun _ _ _ _ _ _ us hl => match us, hl with | [_], _ => rfl
  have F__law_town := fun_mk (st := s__law_town) l__law_town c__law_town k__law_town
  have b__law_town := F__law_town.binds (ps := p__law_town) fun _ _ _ _ _ _ us hl => match us, hl with | [_], _ => rfl
  have F__law_draw := fun_mk (st := s__law_draw) l__law_draw c__law_draw k__law_draw
  have b__law_draw := F__law_draw.binds (ps := p__law_draw) fun _ _ _ _ _ _ us hl => match us, hl with | [_, _], _ => rfl
  have F__law_pick := fun_mk (st := s__law_pick) l__law_pick c__law_pick k__law_pick
  have b__law_pick := F__law_pick.binds (ps := p__law_pick) fun _ _ _ _ _ _ us hl => match us, hl with | [_, _], _ => rfl
  have F__law_ten := fun_mk (st := s__law_ten) l__law_ten c__law_ten k__law_ten
  have b__law_ten := F__law_ten.binds (ps := p__law_ten) fun _ _ _ _ _ _ us hl => match us, hl with | [_], _ => rfl
  have F__law_even := fun_mk (st := s__law_even) l__law_even c__law_even k__law_even
  have b__law_even := F__law_even.binds (ps := p__law_even) fun _ _ _ _ _ _ us hl => match us, hl with | [], _ => rfl
  have F__law_heavy := fun_mk (st := s__law_heavy) l__law_heavy c__law_heavy k__law_heavy
  have b__law_heavy := F__law_heavy.binds (ps := p__law_heavy) fun _ _ _ _ _ _ us hl => match us, hl with | [], _ => rfl
  have F__law_has_pair := fun_mk (st := s__law_has_pair) l__law_has_pair c__law_has_pair k__law_has_pair
  have b__law_has_pair := F__law_has_pair.binds (ps := p__law_has_pair) fun _ _ _ _ _ _ us hl => match us, hl with | [_], _ => rfl
  have F__law_put := fun_mk (st := s__law_put) l__law_put c__law_put k__law_put
  have b__law_put := F__law_put.binds (ps := p__law_put) fun _ _ _ _ _ _ us hl => match us, hl with | [_, _], _ => rfl
  have F__law_sent := fun_mk (st := s__law_sent) l__law_sent c__law_sent k__law_sent
  have b__law_sent := F__law_sent.binds (ps := p__law_sent) fun _ _ _ _ _ _ us hl => match us, hl with | [_, _], _ => rfl
  have F__law_byte := fun_mk (st := s__law_byte) l__law_byte c__law_byte k__law_byte
  have b__law_byte := F__law_byte.binds (ps := p__law_byte) fun _ _ _ _ _ _ us hl => match us, hl with | [_], _ => rfl
  have F__law_row := fun_mk (st := s__law_row) l__law_row c__law_row k__law_row
  have b__law_row := F__law_row.binds (ps := p__law_row) fun _ _ _ _ _ _ us hl => match us, hl with | [_, _], _ => rfl
  have F__law_check := fun_mk (st := s__law_check) l__law_check c__law_check k__law_check
  have b__law_check := F__law_check.binds (ps := p__law_check) fun _ _ _ _ _ _ us hl => match us, hl with | [_], _ => rfl
  have F__law_frame := fun_mk (st := s__law_frame) l__law_frame c__law_frame k__law_frame
  have b__law_frame := F__law_frame.binds (ps := p__law_frame) fun _ _ _ _ _ _ us hl => match us, hl with | [_], _ => rfl
  have F__law_gap := fun_mk (st := s__law_gap) l__law_gap c__law_gap k__law_gap
  have b__law_gap := F__law_gap.binds (ps := p__law_gap) fun _ _ _ _ _ _ us hl => match us, hl with | [_], _ => rfl
  have F__law_cuts := fun_mk (st := s__law_cuts) l__law_cuts c__law_cuts k__law_cuts
  have b__law_cuts := F__law_cuts.binds (ps := p__law_cuts) fun _ _ _ _ _ _ us hl => match us, hl with | [_, _], _ => rfl
  have F_Reader_found := fun_mk (st := s_Reader_found) l_Reader_found c_Reader_found k_Reader_found
  have b_Reader_found := F_Reader_found.binds (ps := p_Reader_found) fun _ _ _ _ _ _ us hl => match us, hl with | [_], _ => rfl
  have F_Taker_take := fun_mk (st := s_Taker_take) l_Taker_take c_Taker_take k_Taker_take
  have b_Taker_take := F_Taker_take.binds (ps := p_Taker_take) fun _ _ _ _ _ _ us hl => match us, hl with | [_, _], _ => rfl
  have F_Reader_hear := fun_mk (st := s_Reader_hear) l_Reader_hear c_Reader_hear k_Reader_hear
  have b_Reader_hear := F_Reader_hear.binds (ps := p_Reader_hear) fun _ _ _ _ _ _ us hl => match us, hl with | [_, _], _ => rfl
  have F_Ear_hear := fun_mk (st := s_Ear_hear) l_Ear_hear c_Ear_hear k_Ear_hear
  have b_Ear_hear := F_Ear_hear.binds (ps := p_Ear_hear) fun _ _ _ _ _ _ us hl => match us, hl with | [_, _], _ => rfl
  have F_law := fun_mk (st := s_law) l_law c_law k_law
  have b_law := F_law.binds (ps := p_law) fun _ _ _ _ _ _ us hl => match us, hl with | [_], _ => rfl
  let T : Tx K mg := { f__wall := f__wall, d__wall := _, F__wall := F__wall, b__wall := b__wall, g__wall := PySem.W.mg_of X G a__wall, f_is_whole := f_is_whole, d_is_whole := _, F_is_whole := F_is_whole, b_is_whole := b_is_whole, g_is_whole := PySem.W.mg_of X G a_is_whole, f_look_bits := f_look_bits, d_look_bits := _, F_look_bits := F_look_bits, b_look_bits := b_look_bits, g_look_bits := PySem.W.mg_of X G a_look_bits, f_word_of := f_word_of, d_word_of := _, F_word_of := F_word_of, b_word_of := b_word_of, g_word_of := PySem.W.mg_of X G a_word_of, f_is_item := f_is_item, d_is_item := _, F_is_item := F_is_item, b_is_item := b_is_item, g_is_item := PySem.W.mg_of X G a_is_item, f_pair_item := f_pair_item, d_pair_item := _, F_pair_item := F_pair_item, b_pair_item := b_pair_item, g_pair_item := PySem.W.mg_of X G a_pair_item, f_item_at := f_item_at, d_item_at := _, F_item_at := F_item_at, b_item_at := b_item_at, g_item_at := PySem.W.mg_of X G a_item_at, f_is_row := f_is_row, d_is_row := _, F_is_row := F_is_row, b_is_row := b_is_row, g_is_row := PySem.W.mg_of X G a_is_row, f_look_row := f_look_row, d_look_row := _, F_look_row := F_look_row, b_look_row := b_look_row, g_look_row := PySem.W.mg_of X G a_look_row, f_sum_of := f_sum_of, d_sum_of := _, F_sum_of := F_sum_of, b_sum_of := b_sum_of, g_sum_of := PySem.W.mg_of X G a_sum_of, f_check_of := f_check_of, d_check_of := _, F_check_of := F_check_of, b_check_of := b_check_of, g_check_of := PySem.W.mg_of X G a_check_of, f_row_within := f_row_within, d_row_within := _, F_row_within := F_row_within, b_row_within := b_row_within, g_row_within := PySem.W.mg_of X G a_row_within, f_Reader___init__ := f_Reader___init__, d_Reader___init__ := _, F_Reader___init__ := F_Reader___init__, b_Reader___init__ := b_Reader___init__, f_Reader_heard := f_Reader_heard, d_Reader_heard := _, F_Reader_heard := F_Reader_heard, b_Reader_heard := b_Reader_heard, f_Reader_in_step := f_Reader_in_step, d_Reader_in_step := _, F_Reader_in_step := F_Reader_in_step, b_Reader_in_step := b_Reader_in_step, f_Reader_poise_now := f_Reader_poise_now, d_Reader_poise_now := _, F_Reader_poise_now := F_Reader_poise_now, b_Reader_poise_now := b_Reader_poise_now, f_Reader_waiting := f_Reader_waiting, d_Reader_waiting := _, F_Reader_waiting := F_Reader_waiting, b_Reader_waiting := b_Reader_waiting, f_Taker___init__ := f_Taker___init__, d_Taker___init__ := _, F_Taker___init__ := F_Taker___init__, b_Taker___init__ := b_Taker___init__, f_Taker_took := f_Taker_took, d_Taker_took := _, F_Taker_took := F_Taker_took, b_Taker_took := b_Taker_took, f_Taker_within := f_Taker_within, d_Taker_within := _, F_Taker_within := F_Taker_within, b_Taker_within := b_Taker_within, f_Ear___init__ := f_Ear___init__, d_Ear___init__ := _, F_Ear___init__ := F_Ear___init__, b_Ear___init__ := b_Ear___init__, f_Ear_in_step := f_Ear_in_step, d_Ear_in_step := _, F_Ear_in_step := F_Ear_in_step, b_Ear_in_step := b_Ear_in_step, f__law_town := f__law_town, d__law_town := _, F__law_town := F__law_town, b__law_town := b__law_town, g__law_town := PySem.W.mg_of X G a__law_town, f__law_draw := f__law_draw, d__law_draw := _, F__law_draw := F__law_draw, b__law_draw := b__law_draw, g__law_draw := PySem.W.mg_of X G a__law_draw, f__law_pick := f__law_pick, d__law_pick := _, F__law_pick := F__law_pick, b__law_pick := b__law_pick, g__law_pick := PySem.W.mg_of X G a__law_pick, f__law_ten := f__law_ten, d__law_ten := _, F__law_ten := F__law_ten, b__law_ten := b__law_ten, g__law_ten := PySem.W.mg_of X G a__law_ten, f__law_even := f__law_even, d__law_even := _, F__law_even := F__law_even, b__law_even := b__law_even, g__law_even := PySem.W.mg_of X G a__law_even, f__law_heavy := f__law_heavy, d__law_heavy := _, F__law_heavy := F__law_heavy, b__law_heavy := b__law_heavy, g__law_heavy := PySem.W.mg_of X G a__law_heavy, f__law_has_pair := f__law_has_pair, d__law_has_pair := _, F__law_has_pair := F__law_has_pair, b__law_has_pair := b__law_has_pair, g__law_has_pair := PySem.W.mg_of X G a__law_has_pair, f__law_put := f__law_put, d__law_put := _, F__law_put := F__law_put, b__law_put := b__law_put, g__law_put := PySem.W.mg_of X G a__law_put, f__law_sent := f__law_sent, d__law_sent := _, F__law_sent := F__law_sent, b__law_sent := b__law_sent, g__law_sent := PySem.W.mg_of X G a__law_sent, f__law_byte := f__law_byte, d__law_byte := _, F__law_byte := F__law_byte, b__law_byte := b__law_byte, g__law_byte := PySem.W.mg_of X G a__law_byte, f__law_row := f__law_row, d__law_row := _, F__law_row := F__law_row, b__law_row := b__law_row, g__law_row := PySem.W.mg_of X G a__law_row, f__law_check := f__law_check, d__law_check := _, F__law_check := F__law_check, b__law_check := b__law_check, g__law_check := PySem.W.mg_of X G a__law_check, f__law_frame := f__law_frame, d__law_frame := _, F__law_frame := F__law_frame, b__law_frame := b__law_frame, g__law_frame := PySem.W.mg_of X G a__law_frame, f__law_gap := f__law_gap, d__law_gap := _, F__law_gap := F__law_gap, b__law_gap := b__law_gap, g__law_gap := PySem.W.mg_of X G a__law_gap, f__law_cuts := f__law_cuts, d__law_cuts := _, F__law_cuts := F__law_cuts, b__law_cuts := b__law_cuts, g__law_cuts := PySem.W.mg_of X G a__law_cuts, f_Reader_found := f_Reader_found, d_Reader_found := _, F_Reader_found := F_Reader_found, b_Reader_found := b_Reader_found, f_Taker_take := f_Taker_take, d_Taker_take := _, F_Taker_take := F_Taker_take, b_Taker_take := b_Taker_take, f_Reader_hear := f_Reader_hear, d_Reader_hear := _, F_Reader_hear := F_Reader_hear, b_Reader_hear := b_Reader_hear, f_Ear_hear := f_Ear_hear, d_Ear_hear := _, F_Ear_hear := F_Ear_hear, b_Ear_hear := b_Ear_hear, f_law := fa, d_law := _, F_law := F_law, b_law := b_law, g_law := PySem.W.mg_of X G a_law, g_BEGIN := ⟨_, PySem.W.mg_of X G cn_BEGIN⟩, a_CONTROLS := ca_CONTROLS, g_CONTROLS := PySem.W.mg_of X G ga_CONTROLS, k_CONTROLS := ktup_mk gl_CONTROLS gv_CONTROLS (by rw [← List.length_map (f := absV), gv_CONTROLS]; decide +kernel), a_EVEN := ca_EVEN, g_EVEN := PySem.W.mg_of X G ga_EVEN, k_EVEN := ktup_mk gl_EVEN gv_EVEN (by rw [← List.length_map (f := absV), gv_EVEN]; decide +kernel), a_HEAVY := ca_HEAVY, g_HEAVY := PySem.W.mg_of X G ga_HEAVY, k_HEAVY := ktup_mk gl_HEAVY gv_HEAVY (by rw [← List.length_map (f := absV), gv_HEAVY]; decide +kernel), g_LONG := ⟨_, PySem.W.mg_of X G cn_LONG⟩, g_LOST := ⟨_, PySem.W.mg_of X G cn_LOST⟩, g_MARK := ⟨_, PySem.W.mg_of X G cn_MARK⟩, g_MODULUS := ⟨_, PySem.W.mg_of X G cn_MODULUS⟩, g_MOST := ⟨_, PySem.W.mg_of X G cn_MOST⟩, g_MOST_ROW := ⟨_, PySem.W.mg_of X G cn_MOST_ROW⟩, g_PAIRS := ⟨_, PySem.W.mg_of X G cn_PAIRS⟩, a_SIGNS := ca_SIGNS, g_SIGNS := PySem.W.mg_of X G ga_SIGNS, k_SIGNS := ktup_mk gl_SIGNS gv_SIGNS (by rw [← List.length_map (f := absV), gv_SIGNS]; exact (show 2 ≤ sizeLine by decide)), b0_SIGNS := cb0_SIGNS, k0_SIGNS := ktup_mk gl0_SIGNS gv0_SIGNS (by rw [← List.length_map (f := absV), gv0_SIGNS]; decide +kernel), b1_SIGNS := cb1_SIGNS, k1_SIGNS := ktup_mk gl1_SIGNS gv1_SIGNS (by rw [← List.length_map (f := absV), gv1_SIGNS]; decide +kernel), n_all := PySem.W.mg_none_of X G n_all, n_bool := PySem.W.mg_none_of X G n_bool, n_divmod := PySem.W.mg_none_of X G n_divmod, n_enumerate := PySem.W.mg_none_of X G n_enumerate, n_int := PySem.W.mg_none_of X G n_int, n_isinstance := PySem.W.mg_none_of X G n_isinstance, n_len := PySem.W.mg_none_of X G n_len, n_list := PySem.W.mg_none_of X G n_list, n_min := PySem.W.mg_none_of X G n_min, n_range := PySem.W.mg_none_of X G n_range, n_str := PySem.W.mg_none_of X G n_str, n_sum := PySem.W.mg_none_of X G n_sum, n_tuple := PySem.W.mg_none_of X G n_tuple, c_BadBits := xc_BadBits, g_BadBits := PySem.W.mg_of X G xa_BadBits, x_BadBits := xx_BadBits, k_BadBits := xk_BadBits, b_BadBits := xb_BadBits, t_BadBits := xt_BadBits, c_BadItem := xc_BadItem, g_BadItem := PySem.W.mg_of X G xa_BadItem, x_BadItem := xx_BadItem, k_BadItem := xk_BadItem, b_BadItem := xb_BadItem, t_BadItem := xt_BadItem, c_BadRow := xc_BadRow, g_BadRow := PySem.W.mg_of X G xa_BadRow, x_BadRow := xx_BadRow, k_BadRow := xk_BadRow, b_BadRow := xb_BadRow, t_BadRow := xt_BadRow, c_Ear := cc_Ear, g_Ear := PySem.W.mg_of X G cg_Ear, l_Ear := clB_ok cl_Ear, a_Ear := cf_Ear, k_Ear := mkB_ok mk_Ear, m_Ear_in_step := ⟨a_Ear_in_step, fn_Ear_in_step, k_Ear_in_step⟩, m_Ear_hear := ⟨a_Ear_hear, fn_Ear_hear, k_Ear_hear⟩, c_Reader := cc_Reader, g_Reader := PySem.W.mg_of X G cg_Reader, l_Reader := clB_ok cl_Reader, a_Reader := cf_Reader, k_Reader := mkB_ok mk_Reader, m_Reader_heard := ⟨a_Reader_heard, fn_Reader_heard, k_Reader_heard⟩, m_Reader_in_step := ⟨a_Reader_in_step, fn_Reader_in_step, k_Reader_in_step⟩, m_Reader_poise_now := ⟨a_Reader_poise_now, fn_Reader_poise_now, k_Reader_poise_now⟩, m_Reader_waiting := ⟨a_Reader_waiting, fn_Reader_waiting, k_Reader_waiting⟩, m_Reader_found := ⟨a_Reader_found, fn_Reader_found, k_Reader_found⟩, m_Reader_hear := ⟨a_Reader_hear, fn_Reader_hear, k_Reader_hear⟩, c_Taker := cc_Taker, g_Taker := PySem.W.mg_of X G cg_Taker, l_Taker := clB_ok cl_Taker, a_Taker := cf_Taker, k_Taker := mkB_ok mk_Taker, m_Taker_took := ⟨a_Taker_took, fn_Taker_took, k_Taker_took⟩, m_Taker_within := ⟨a_Taker_within, fn_Taker_within, k_Taker_within⟩, m_Taker_take := ⟨a_Taker_take, fn_Taker_take, k_Taker_take⟩ }
  refine ⟨PySem.W.fnOf "law" "law" (defArgs s_law) (defBody s_law) (defScope s_law) .none kV_law dc_law pm_law an_law cd_law ct_law, fun s v => .of_eq rfl, fun base _ _ => FnOk.imp (ok_law (P := l.prog) (w := w) (base := base) T) fun vs H Q E h => ?_⟩
  obtain ⟨a, ns, rfl, sq, hl, q⟩ := h
  refine ⟨⟨H, fun _ => none⟩, fun _ => none, [.scr ns], fun d _ => d = .bl true, fun _ _ _ => False, ⟨fun _ _ e => e, (fun _ _ e => nomatch e), (fun _ _ e => nomatch e)⟩, .cons (.scr sq hl) .nil, HL ns hl.1, fun d M' hd F' H' v s w r => ?_, fun _ _ _ z => z.elim⟩
  subst hd
  cases r
  exact q H'
end Zp
open PySem PySem.W PyProof.Rows
set_option maxRecDepth 100000 in
set_option maxHeartbeats 0 in
theorem PySem.Challenge.cw_evenline_k23_whole_ears_holds : PySem.Challenge.rw_evenline_k23_whole_ears.Holds := by
  w_on; o_law; k_head; (case hw => w_witness2)
  k_fill
  refine Zl.walk_cells (l := PySem.Challenge.rw_evenline_k23_whole_ears) (k := 9) (x := "script") (CX := fun w => L2.CX PySem.Challenge.rw_evenline_k23_whole_ears.prog w) (sp := fun w => Zp.spLaw _) rfl rfl ⟨rfl, by decide, by decide⟩ (fun w h Y => PySem.W.kIn_of Y) ?F (fun _ _ a ns hc hS => ⟨a, ns, rfl, hS, hc, fun _ => rfl⟩) (fun _ _ _ _ _ h => Zl.cx_no h)
  case F =>
    intro w mg fa h KX G hmg
    refine' Zp.all_mk Zp.law_holds KX G hmg ?cg_Ear ?cl_Ear ?cf_Ear ?cg_Reader ?cl_Reader ?cf_Reader ?cg_Taker ?cl_Taker ?cf_Taker ?a__wall ?l__wall ?c__wall ?k__wall ?a_is_whole ?l_is_whole ?c_is_whole ?k_is_whole ?a_look_bits ?l_look_bits ?c_look_bits ?k_look_bits ?a_word_of ?l_word_of ?c_word_of ?k_word_of ?a_is_item ?l_is_item ?c_is_item ?k_is_item ?a_pair_item ?l_pair_item ?c_pair_item ?k_pair_item ?a_item_at ?l_item_at ?c_item_at ?k_item_at ?a_is_row ?l_is_row ?c_is_row ?k_is_row ?a_look_row ?l_look_row ?c_look_row ?k_look_row ?a_sum_of ?l_sum_of ?c_sum_of ?k_sum_of ?a_check_of ?l_check_of ?c_check_of ?k_check_of ?a_row_within ?l_row_within ?c_row_within ?k_row_within ?mk_Reader ?a_Reader___init__ ?fn_Reader___init__ ?l_Reader___init__ ?c_Reader___init__ ?k_Reader___init__ ?a_Reader_heard ?fn_Reader_heard ?l_Reader_heard ?c_Reader_heard ?k_Reader_heard ?a_Reader_in_step ?fn_Reader_in_step ?l_Reader_in_step ?c_Reader_in_step ?k_Reader_in_step ?a_Reader_poise_now ?fn_Reader_poise_now ?l_Reader_poise_now ?c_Reader_poise_now ?k_Reader_poise_now ?a_Reader_waiting ?fn_Reader_waiting ?l_Reader_waiting ?c_Reader_waiting ?k_Reader_waiting ?mk_Taker ?a_Taker___init__ ?fn_Taker___init__ ?l_Taker___init__ ?c_Taker___init__ ?k_Taker___init__ ?a_Taker_took ?fn_Taker_took ?l_Taker_took ?c_Taker_took ?k_Taker_took ?a_Taker_within ?fn_Taker_within ?l_Taker_within ?c_Taker_within ?k_Taker_within ?mk_Ear ?a_Ear___init__ ?fn_Ear___init__ ?l_Ear___init__ ?c_Ear___init__ ?k_Ear___init__ ?a_Ear_in_step ?fn_Ear_in_step ?l_Ear_in_step ?c_Ear_in_step ?k_Ear_in_step ?a__law_town ?l__law_town ?c__law_town ?k__law_town ?a__law_draw ?l__law_draw ?c__law_draw ?k__law_draw ?a__law_pick ?l__law_pick ?c__law_pick ?k__law_pick ?a__law_ten ?l__law_ten ?c__law_ten ?k__law_ten ?a__law_even ?l__law_even ?c__law_even ?k__law_even ?a__law_heavy ?l__law_heavy ?c__law_heavy ?k__law_heavy ?a__law_has_pair ?l__law_has_pair ?c__law_has_pair ?k__law_has_pair ?a__law_put ?l__law_put ?c__law_put ?k__law_put ?a__law_sent ?l__law_sent ?c__law_sent ?k__law_sent ?a__law_byte ?l__law_byte ?c__law_byte ?k__law_byte ?a__law_row ?l__law_row ?c__law_row ?k__law_row ?a__law_check ?l__law_check ?c__law_check ?k__law_check ?a__law_frame ?l__law_frame ?c__law_frame ?k__law_frame ?a__law_gap ?l__law_gap ?c__law_gap ?k__law_gap ?a__law_cuts ?l__law_cuts ?c__law_cuts ?k__law_cuts ?a_Reader_found ?fn_Reader_found ?l_Reader_found ?c_Reader_found ?k_Reader_found ?a_Taker_take ?fn_Taker_take ?l_Taker_take ?c_Taker_take ?k_Taker_take ?a_Reader_hear ?fn_Reader_hear ?l_Reader_hear ?c_Reader_hear ?k_Reader_hear ?a_Ear_hear ?fn_Ear_hear ?l_Ear_hear ?c_Ear_hear ?k_Ear_hear ?a_law ?l_law ?c_law ?k_law ?cn_BEGIN ?ga_CONTROLS ?gl_CONTROLS ?gv_CONTROLS ?ga_EVEN ?gl_EVEN ?gv_EVEN ?ga_HEAVY ?gl_HEAVY ?gv_HEAVY ?cn_LONG ?cn_LOST ?cn_MARK ?cn_MODULUS ?cn_MOST ?cn_MOST_ROW ?cn_PAIRS ?ga_SIGNS ?gl_SIGNS ?gv_SIGNS ?gl0_SIGNS ?gv0_SIGNS ?gl1_SIGNS ?gv1_SIGNS ?n_all ?n_bool ?n_divmod ?n_enumerate ?n_int ?n_isinstance ?n_len ?n_list ?n_min ?n_range ?n_str ?n_sum ?n_tuple ?xa_BadBits ?xx_BadBits ?xk_BadBits ?xb_BadBits ?xt_BadBits ?xa_BadItem ?xx_BadItem ?xk_BadItem ?xb_BadItem ?xt_BadItem ?xa_BadRow ?xx_BadRow ?xk_BadRow ?xb_BadRow ?xt_BadRow
    (case cg_Ear => k_is)
    (case cl_Ear => kernel_rfl)
    (case cf_Ear => kernel_rfl)
    (case cg_Reader => k_is)
    (case cl_Reader => kernel_rfl)
    (case cf_Reader => kernel_rfl)
    (case cg_Taker => k_is)
    (case cl_Taker => kernel_rfl)
    (case cf_Taker => kernel_rfl)
    (case a__wall => k_is)
    (case l__wall => k_is)
    (case c__wall => k_is)
    (case k__wall => k_is)
    (case a_is_whole => k_is)
    (case l_is_whole => k_is)
    (case c_is_whole => k_is)
    (case k_is_whole => k_is)
    (case a_look_bits => k_is)
    (case l_look_bits => k_is)
    (case c_look_bits => k_is)
    (case k_look_bits => k_is)
    (case a_word_of => k_is)
    (case l_word_of => k_is)
    (case c_word_of => k_is)
    (case k_word_of => k_is)
    (case a_is_item => k_is)
    (case l_is_item => k_is)
    (case c_is_item => k_is)
    (case k_is_item => k_is)
    (case a_pair_item => k_is)
    (case l_pair_item => k_is)
    (case c_pair_item => k_is)
    (case k_pair_item => k_is)
    (case a_item_at => k_is)
    (case l_item_at => k_is)
    (case c_item_at => k_is)
    (case k_item_at => k_is)
    (case a_is_row => k_is)
    (case l_is_row => k_is)
    (case c_is_row => k_is)
    (case k_is_row => k_is)
    (case a_look_row => k_is)
    (case l_look_row => k_is)
    (case c_look_row => k_is)
    (case k_look_row => k_is)
    (case a_sum_of => k_is)
    (case l_sum_of => k_is)
    (case c_sum_of => k_is)
    (case k_sum_of => k_is)
    (case a_check_of => k_is)
    (case l_check_of => k_is)
    (case c_check_of => k_is)
    (case k_check_of => k_is)
    (case a_row_within => k_is)
    (case l_row_within => k_is)
    (case c_row_within => k_is)
    (case k_row_within => k_is)
    (case mk_Reader => kernel_rfl)
    (case a_Reader___init__ => k_is)
    (case fn_Reader___init__ => k_is)
    (case l_Reader___init__ => k_is)
    (case c_Reader___init__ => k_is)
    (case k_Reader___init__ => k_is)
    (case a_Reader_heard => k_is)
    (case fn_Reader_heard => k_is)
    (case l_Reader_heard => k_is)
    (case c_Reader_heard => k_is)
    (case k_Reader_heard => k_is)
    (case a_Reader_in_step => k_is)
    (case fn_Reader_in_step => k_is)
    (case l_Reader_in_step => k_is)
    (case c_Reader_in_step => k_is)
    (case k_Reader_in_step => k_is)
    (case a_Reader_poise_now => k_is)
    (case fn_Reader_poise_now => k_is)
    (case l_Reader_poise_now => k_is)
    (case c_Reader_poise_now => k_is)
    (case k_Reader_poise_now => k_is)
    (case a_Reader_waiting => k_is)
    (case fn_Reader_waiting => k_is)
    (case l_Reader_waiting => k_is)
    (case c_Reader_waiting => k_is)
    (case k_Reader_waiting => k_is)
    (case mk_Taker => kernel_rfl)
    (case a_Taker___init__ => k_is)
    (case fn_Taker___init__ => k_is)
    (case l_Taker___init__ => k_is)
    (case c_Taker___init__ => k_is)
    (case k_Taker___init__ => k_is)
    (case a_Taker_took => k_is)
    (case fn_Taker_took => k_is)
    (case l_Taker_took => k_is)
    (case c_Taker_took => k_is)
    (case k_Taker_took => k_is)
    (case a_Taker_within => k_is)
    (case fn_Taker_within => k_is)
    (case l_Taker_within => k_is)
    (case c_Taker_within => k_is)
    (case k_Taker_within => k_is)
    (case mk_Ear => kernel_rfl)
    (case a_Ear___init__ => k_is)
    (case fn_Ear___init__ => k_is)
    (case l_Ear___init__ => k_is)
    (case c_Ear___init__ => k_is)
    (case k_Ear___init__ => k_is)
    (case a_Ear_in_step => k_is)
    (case fn_Ear_in_step => k_is)
    (case l_Ear_in_step => k_is)
    (case c_Ear_in_step => k_is)
    (case k_Ear_in_step => k_is)
    (case a__law_town => k_is)
    (case l__law_town => k_is)
    (case c__law_town => k_is)
    (case k__law_town => k_is)
    (case a__law_draw => k_is)
    (case l__law_draw => k_is)
    (case c__law_draw => k_is)
    (case k__law_draw => k_is)
    (case a__law_pick => k_is)
    (case l__law_pick => k_is)
    (case c__law_pick => k_is)
    (case k__law_pick => k_is)
    (case a__law_ten => k_is)
    (case l__law_ten => k_is)
    (case c__law_ten => k_is)
    (case k__law_ten => k_is)
    (case a__law_even => k_is)
    (case l__law_even => k_is)
    (case c__law_even => k_is)
    (case k__law_even => k_is)
    (case a__law_heavy => k_is)
    (case l__law_heavy => k_is)
    (case c__law_heavy => k_is)
    (case k__law_heavy => k_is)
    (case a__law_has_pair => k_is)
    (case l__law_has_pair => k_is)
    (case c__law_has_pair => k_is)
    (case k__law_has_pair => k_is)
    (case a__law_put => k_is)
    (case l__law_put => k_is)
    (case c__law_put => k_is)
    (case k__law_put => k_is)
    (case a__law_sent => k_is)
    (case l__law_sent => k_is)
    (case c__law_sent => k_is)
    (case k__law_sent => k_is)
    (case a__law_byte => k_is)
    (case l__law_byte => k_is)
    (case c__law_byte => k_is)
    (case k__law_byte => k_is)
    (case a__law_row => k_is)
    (case l__law_row => k_is)
    (case c__law_row => k_is)
    (case k__law_row => k_is)
    (case a__law_check => k_is)
    (case l__law_check => k_is)
    (case c__law_check => k_is)
    (case k__law_check => k_is)
    (case a__law_frame => k_is)
    (case l__law_frame => k_is)
    (case c__law_frame => k_is)
    (case k__law_frame => k_is)
    (case a__law_gap => k_is)
    (case l__law_gap => k_is)
    (case c__law_gap => k_is)
    (case k__law_gap => k_is)
    (case a__law_cuts => k_is)
    (case l__law_cuts => k_is)
    (case c__law_cuts => k_is)
    (case k__law_cuts => k_is)
    (case a_Reader_found => k_is)
    (case fn_Reader_found => k_is)
    (case l_Reader_found => k_is)
    (case c_Reader_found => k_is)
    (case k_Reader_found => k_is)
    (case a_Taker_take => k_is)
    (case fn_Taker_take => k_is)
    (case l_Taker_take => k_is)
    (case c_Taker_take => k_is)
    (case k_Taker_take => k_is)
    (case a_Reader_hear => k_is)
    (case fn_Reader_hear => k_is)
    (case l_Reader_hear => k_is)
    (case c_Reader_hear => k_is)
    (case k_Reader_hear => k_is)
    (case a_Ear_hear => k_is)
    (case fn_Ear_hear => k_is)
    (case l_Ear_hear => k_is)
    (case c_Ear_hear => k_is)
    (case k_Ear_hear => k_is)
    (case a_law => k_is)
    (case l_law => k_is)
    (case c_law => k_is)
    (case k_law => k_is)
    (case cn_BEGIN => k_is)
    (case ga_CONTROLS => k_is)
    (case gl_CONTROLS => k_is)
    (case gv_CONTROLS => first | rfl | decide +kernel | k_is)
    (case ga_EVEN => k_is)
    (case gl_EVEN => k_is)
    (case gv_EVEN => first | rfl | decide +kernel | k_is)
    (case ga_HEAVY => k_is)
    (case gl_HEAVY => k_is)
    (case gv_HEAVY => first | rfl | decide +kernel | k_is)
    (case cn_LONG => k_is)
    (case cn_LOST => k_is)
    (case cn_MARK => k_is)
    (case cn_MODULUS => k_is)
    (case cn_MOST => k_is)
    (case cn_MOST_ROW => k_is)
    (case cn_PAIRS => k_is)
    (case ga_SIGNS => k_is)
    (case gl_SIGNS => k_is)
    (case gv_SIGNS => first | rfl | decide +kernel | k_is)
    (case gl0_SIGNS => k_is)
    (case gv0_SIGNS => first | rfl | decide +kernel | k_is)
    (case gl1_SIGNS => k_is)
    (case gv1_SIGNS => first | rfl | decide +kernel | k_is)
    (case n_all => k_is)
    (case n_bool => k_is)
    (case n_divmod => k_is)
    (case n_enumerate => k_is)
    (case n_int => k_is)
    (case n_isinstance => k_is)
    (case n_len => k_is)
    (case n_list => k_is)
    (case n_min => k_is)
    (case n_range => k_is)
    (case n_str => k_is)
    (case n_sum => k_is)
    (case n_tuple => k_is)
    (case xa_BadBits => k_is)
    (case xx_BadBits => k_exc)
    (case xk_BadBits => k_is)
    (case xb_BadBits => k_is)
    (case xt_BadBits => k_is)
    (case xa_BadItem => k_is)
    (case xx_BadItem => k_exc)
    (case xk_BadItem => k_is)
    (case xb_BadItem => k_is)
    (case xt_BadItem => k_is)
    (case xa_BadRow => k_is)
    (case xx_BadRow => k_exc)
    (case xk_BadRow => k_is)
    (case xb_BadRow => k_is)
    (case xt_BadRow => k_is)
