import PyProof.Rows.All
import Wide.All
import OpenK.AllK
import Wide.FinOn
import HandS.ForMost
import HandS.Exc
import HandS.TryOnly
import HandS.ExcOwn
import HandS.WordsExc
import HandS.IsInst
import HandS.EndBits
import HandS.Style
import HandS.CallSlots
import HandS.SortInts
import HandS.RaiseMore
import HandS.Strs
import HandS.SetFor
import HandS.Wide
import HandS.ExcIs
import KE.KExcIs
import HandS.Deep
import HandS.Defaults
import HandS.Conv
import HandS.SortKw
import HandS.MakeKw
import HandS.MakeKwOnly
import HandS.OwnEq
import HandS.NamedTupGet
import HandS.Text
import PySem.Challenge.RW_evenline_k47_texts_refused
set_option Elab.async false
set_option linter.all false
set_option maxRecDepth 100000
set_option maxHeartbeats 4000000
set_option autoImplicit false
/-! Zl1: deep data, the small mutable heap, heap-free readings, their lifting to HandS -/
namespace Zl
open PySem L2

/-- a script's numbers: not too many, not too great -/
def cellsOk (cs : List Int) : Prop := cs.length ≤ 63 ∧ (cs.map fun x : Int => x.natAbs.log2).sum ≤ 1048576
/-- deep data: what a Python value is worth; ref: a thing that may change, or is not looked into -/
inductive D where
  | non | bl (b : Bool) | int (i : Int) | str (x : Str) | lst (ds : List D) | tup (ds : List D) | dct | exc (c : Str) | scr (ns : List Int) | ref (a : Addr)
/-- what may change -/
inductive MO where
  | lst (ds : List D) | ins (c : Str) (fs : List (Str × D)) | town
abbrev Mh := Addr → Option MO
def mup (M : Mh) (a : Addr) (o : MO) : Mh := fun b => if b = a then some o else M b
def mdel (M : Mh) (a : Addr) : Mh := fun b => if b = a then none else M b
@[simp] theorem mup_same {M : Mh} {a : Addr} {o : MO} : mup M a o a = some o := by unfold mup; rw [if_pos rfl]
theorem mup_ne {M : Mh} {a b : Addr} {o : MO} (h : b ≠ a) : mup M a o b = M b := by unfold mup; rw [if_neg h]
@[simp] theorem mdel_same {M : Mh} {a : Addr} : mdel M a a = none := by unfold mdel; rw [if_pos rfl]
theorem mdel_ne {M : Mh} {a b : Addr} (h : b ≠ a) : mdel M a b = M b := by unfold mdel; rw [if_neg h]
theorem mup_mup {M : Mh} {a : Addr} {o p : MO} : mup (mup M a o) a p = mup M a p := by
  funext b; unfold mup; split <;> rfl
theorem mdel_mup {M : Mh} {a : Addr} {o : MO} (h : M a = none) : mdel (mup M a o) a = M := by
  funext b; unfold mdel mup
  by_cases e : b = a
  · rw [if_pos e, e, h]
  · rw [if_neg e, if_neg e]
theorem ne_of_m {M : Mh} {a b : Addr} {o : MO} (h : M a = some o) (h' : M b = none) : a ≠ b := by
  intro e; subst e; rw [h] at h'; cases h'

abbrev Env := List (Option D)
/-- the value of a slot -/
def gt : Env → Nat → Option D
  | [], _ => none
  | d :: _, 0 => d
  | _ :: r, n + 1 => gt r n
/-- a slot stored -/
def st : Env → Nat → Option D → Env
  | [], _, _ => []
  | _ :: r, 0, x => x :: r
  | d :: r, n + 1, x => d :: st r n x
theorem st_len : ∀ (r : Env) (i : Nat) (x : Option D), (st r i x).length = r.length
  | [], _, _ => rfl
  | _ :: _, 0, _ => rfl
  | _ :: r, n + 1, x => congrArg (· + 1) (st_len r n x)
theorem gt_st_ne : ∀ (r : Env) (i j : Nat) (x : Option D), j ≠ i → gt (st r i x) j = gt r j
  | [], _, _, _, _ => rfl
  | _ :: _, 0, 0, _, h => absurd rfl h
  | _ :: _, 0, _ + 1, _, _ => rfl
  | _ :: _, _ + 1, 0, _, _ => rfl
  | _ :: r, i + 1, j + 1, x, h => gt_st_ne r i j x (fun e => h (congrArg (· + 1) e))
theorem gt_st_same : ∀ (r : Env) (i : Nat) (x : Option D) (d : D), gt (st r i x) i = some d → x = some d ∧ i < r.length
  | [], _, _, _, h => nomatch h
  | _ :: _, 0, _, _, h => ⟨h, Nat.succ_pos _⟩
  | _ :: r, i + 1, x, d, h => let ⟨a, b⟩ := gt_st_same r i x d h; ⟨a, Nat.succ_lt_succ b⟩
/-- slots forgotten -/
def zwipe (r : Env) : List Nat → Env
  | [] => r
  | v :: vs => st (zwipe r vs) v none

/-- an exception object of the class at C -/
def ExZ (C : Addr) (d : Option Addr) (a : Addr) : HO := .ext fun h => ∃ (oe : Obj) (vs : Array Value), h.get? a = some oe ∧ Zc (.ref C) d oe ∧ oe.data = .fields vs

/-- what never changes any more (f), and what others hold and nobody here touches (u) -/
structure Fz where
  f : Hp
  u : Hp
structure Le (F F' : Fz) : Prop where
  f : Same F.f F'.f
  u : F'.u = F.u
theorem Le.refl (F : Fz) : Le F F := ⟨Same.refl _, rfl⟩
theorem Le.trans {F F1 F2 : Fz} (a : Le F F1) (b : Le F1 F2) : Le F F2 := ⟨a.f.trans b.f, b.u.trans a.u⟩
structure Ge (F0 F : Fz) : Prop where
  f : Same F0.f F.f
  u : Same F0.u F.u
theorem Ge.trans {F0 F F1 : Fz} (a : Ge F0 F) (b : Le F F1) : Ge F0 F1 := ⟨a.f.trans b.f, by rw [b.u]; exact a.u⟩
theorem Ge.refl (F : Fz) : Ge F F := ⟨Same.refl _, Same.refl _⟩
def Fz.up (F : Fz) (p : Addr) (o : HO) : Fz := ⟨upd F.f p o, F.u⟩
mutual
inductive Rep (K : PySem.W.Frag) (mg : Str → Option Value) (F : Fz) : V → D → Prop
  | non : Rep K mg F .non .non
  | bl (b : Bool) : Rep K mg F (.bl b) (.bl b)
  | int (i : Int) : Rep K mg F (.int i) (.int i)
  | str {x : Str} : PyData.strOk x = true → x.length ≤ sizeLine → Rep K mg F (.str x) (.str x)
  | lst {a : Addr} {vs : List V} {ds : List D} : F.f a = some (.lst vs) → vs.length ≤ sizeLine → RepL K mg F vs ds → Rep K mg F (.ref a) (.lst ds)
  | tup {a : Addr} {vs : List V} {ds : List D} : SqT K F.f a vs → vs.length ≤ sizeLine → RepL K mg F vs ds → Rep K mg F (.ref a) (.tup ds)
  | dct {a : Addr} : F.f a = some (.dK []) → Rep K mg F (.ref a) .dct
  | exc {a C : Addr} {c : Str} {d : Option Addr} : mg c = some (.ref C) → F.f a = some (ExZ C d a) → (∀ dx, d = some dx → ∃ fs, F.f dx = some (.xd fs)) → Rep K mg F (.ref a) (.exc c)
  | scr {a : Addr} {ns : List Int} : SqL K F.f a (ns.map V.int) → cellsOk ns → Rep K mg F (.ref a) (.scr ns)
  | ref (a : Addr) : Rep K mg F (.ref a) (.ref a)
inductive RepL (K : PySem.W.Frag) (mg : Str → Option Value) (F : Fz) : List V → List D → Prop
  | nil : RepL K mg F [] []
  | cons {v : V} {vs : List V} {d : D} {ds : List D} : Rep K mg F v d → RepL K mg F vs ds → RepL K mg F (v :: vs) (d :: ds)
end

section
variable {K : PySem.W.Frag} {mg : Str → Option Value} {F F' F1 F2 : Fz} {H H' : Hp}
theorem same_sqT {f f' : Hp} {a : Addr} {xs : List V} (e : Same f f') (h : SqT K f a xs) : SqT K f' a xs := by
  rcases h with (h | ⟨o, h⟩) | h
  · exact .inl (.inl (e _ _ h))
  · exact .inl (.inr ⟨o, e _ _ h⟩)
  · exact .inr h
theorem same_upd {p : Addr} {o : HO} (h : H p = none) : Same H (upd H p o) := fun b x e => by
  rw [upd_ne (ne_of_none e h)]
  exact e
mutual
theorem Rep.monoF (e : Same F.f F'.f) : ∀ {v : V} {d : D}, Rep K mg F v d → Rep K mg F' v d
  | _, _, .non => .non
  | _, _, .bl b => .bl b
  | _, _, .int i => .int i
  | _, _, .str h h' => .str h h'
  | _, _, .lst h l r => .lst (e _ _ h) l (RepL.monoF e r)
  | _, _, .tup h l r => .tup (same_sqT e h) l (RepL.monoF e r)
  | _, _, .dct h => .dct (e _ _ h)
  | _, _, .exc h h' h2 => .exc h (e _ _ h') fun dx z => let ⟨fs, q⟩ := h2 dx z; ⟨fs, e _ _ q⟩
  | _, _, .scr h l => .scr (e.seq h) l
  | _, _, .ref a => .ref a
theorem RepL.monoF (e : Same F.f F'.f) : ∀ {vs : List V} {ds : List D}, RepL K mg F vs ds → RepL K mg F' vs ds
  | _, _, .nil => .nil
  | _, _, .cons h t => .cons (Rep.monoF e h) (RepL.monoF e t)
end
theorem Rep.mono (e : Le F F') {v : V} {d : D} (h : Rep K mg F v d) : Rep K mg F' v d := h.monoF e.f
theorem RepL.mono (e : Le F F') {vs : List V} {ds : List D} (h : RepL K mg F vs ds) : RepL K mg F' vs ds := h.monoF e.f
theorem RepL.length : ∀ {vs : List V} {ds : List D}, RepL K mg F vs ds → vs.length = ds.length
  | _, _, .nil => rfl
  | _, _, .cons _ t => congrArg (· + 1) t.length
theorem RepL.get : ∀ {vs : List V} {ds : List D} {i : Nat} {d : D}, RepL K mg F vs ds → ds[i]? = some d → ∃ v, vs[i]? = some v ∧ Rep K mg F v d
  | _, _, _, _, .nil, e => by simp at e
  | _, _, 0, _, .cons h _, e => by simp at e; subst e; exact ⟨_, rfl, h⟩
  | _, _, i + 1, d, .cons _ t, e => by
    obtain ⟨v, h1, h2⟩ := RepL.get (i := i) (d := d) t (by simpa using e)
    exact ⟨v, by simpa using h1, h2⟩
theorem RepL.getV : ∀ {vs : List V} {ds : List D} {i : Nat} {v : V}, RepL K mg F vs ds → vs[i]? = some v → ∃ d, ds[i]? = some d ∧ Rep K mg F v d
  | _, _, _, _, .nil, e => by simp at e
  | _, _, 0, _, .cons h _, e => by simp at e; subst e; exact ⟨_, rfl, h⟩
  | _, _, i + 1, v, .cons _ t, e => by
    obtain ⟨d, h1, h2⟩ := RepL.getV (i := i) (v := v) t (by simpa using e)
    exact ⟨d, by simpa using h1, h2⟩
theorem RepL.append : ∀ {vs ws : List V} {ds es : List D}, RepL K mg F vs ds → RepL K mg F ws es → RepL K mg F (vs ++ ws) (ds ++ es)
  | _, _, _, _, .nil, s => s
  | _, _, _, _, .cons h t, s => .cons h (RepL.append t s)
theorem RepL.drop : ∀ {vs : List V} {ds : List D} (n : Nat), RepL K mg F vs ds → RepL K mg F (vs.drop n) (ds.drop n)
  | _, _, 0, r => r
  | _, _, _ + 1, .nil => .nil
  | _, _, n + 1, .cons _ t => RepL.drop n t
theorem RepL.take : ∀ {vs : List V} {ds : List D} (n : Nat), RepL K mg F vs ds → RepL K mg F (vs.take n) (ds.take n)
  | _, _, 0, _ => .nil
  | _, _, _ + 1, .nil => .nil
  | _, _, n + 1, .cons r t => .cons r (RepL.take n t)
theorem RepL.set {v : V} {d : D} (r : Rep K mg F v d) : ∀ {vs : List V} {ds : List D} (i : Nat), RepL K mg F vs ds → RepL K mg F (vs.set i v) (ds.set i d)
  | _, _, _, .nil => .nil
  | _, _, 0, .cons _ t => .cons r t
  | _, _, i + 1, .cons q t => .cons q (RepL.set r i t)
theorem RepL.eraseIdx : ∀ {vs : List V} {ds : List D} (i : Nat), RepL K mg F vs ds → RepL K mg F (vs.eraseIdx i) (ds.eraseIdx i)
  | _, _, _, .nil => .nil
  | _, _, 0, .cons _ t => t
  | _, _, i + 1, .cons q t => .cons q (RepL.eraseIdx i t)
theorem RepL.reverse {vs : List V} {ds : List D} (h : RepL K mg F vs ds) : RepL K mg F vs.reverse ds.reverse := by
  induction vs generalizing ds with
  | nil => cases h; exact .nil
  | cons v vs ih =>
    cases h with
    | cons r t =>
      rw [List.reverse_cons, List.reverse_cons]
      exact (ih t).append (.cons r .nil)
theorem RepL.flat {vs : List V} {ds : List D} (h : RepL K mg F vs ds) : ∀ n : Nat, RepL K mg F (List.replicate n vs).flatten (List.replicate n ds).flatten
  | 0 => .nil
  | n + 1 => by
    rw [List.replicate_succ, List.replicate_succ, List.flatten_cons, List.flatten_cons]
    exact h.append (h.flat n)
theorem RepL.ints : ∀ (ns : List Int), RepL K mg F (ns.map V.int) (ns.map D.int)
  | [] => .nil
  | n :: r => .cons (.int n) (RepL.ints r)
theorem RepL.ints_of : ∀ {vs : List V} {ns : List Int}, RepL K mg F vs (ns.map D.int) → vs = ns.map V.int
  | _, [], h => by cases h; rfl
  | _, n :: r, h => by
    cases h with
    | cons a t => cases a; rw [RepL.ints_of (ns := r) t]; rfl
theorem RepL.strs_of : ∀ {vs : List V} {ns : List Str}, RepL K mg F vs (ns.map D.str) → vs = ns.map V.str
  | _, [], h => by cases h; rfl
  | _, n :: r, h => by
    cases h with
    | cons a t => cases a; rw [RepL.strs_of (ns := r) t]; rfl
theorem RepL.bls_of : ∀ {vs : List V} {ns : List Bool}, RepL K mg F vs (ns.map D.bl) → vs = ns.map V.bl
  | _, [], h => by cases h; rfl
  | _, n :: r, h => by
    cases h with
    | cons a t => cases a; rw [RepL.bls_of (ns := r) t]; rfl

/-- the slots -/
def RepE (K : PySem.W.Frag) (mg : Str → Option Value) (F : Fz) (s : St) (r : Env) : Prop := s.length = r.length ∧ ∀ i d, gt r i = some d → ∃ v, s[i]? = some (some v) ∧ Rep K mg F v d
theorem RepE.mono {s : St} {r : Env} (e : Le F F') (h : RepE K mg F s r) : RepE K mg F' s r := ⟨h.1, fun i d q => let ⟨v, a, b⟩ := h.2 i d q; ⟨v, a, b.mono e⟩⟩
theorem RepE.set {s : St} {r : Env} {v : V} {d : D} (i : Nat) (h : RepE K mg F s r) (q : Rep K mg F v d) : RepE K mg F (s.set i (some v)) (st r i (some d)) := by
  refine ⟨by rw [List.length_set, st_len]; exact h.1, fun j e z => ?_⟩
  by_cases hj : j = i
  · subst hj
    obtain ⟨a, b⟩ := gt_st_same _ _ _ _ z
    cases a
    exact ⟨v, List.getElem?_set_self (by rw [h.1]; exact b), q⟩
  · rw [gt_st_ne _ _ _ _ hj] at z
    obtain ⟨w, a, b⟩ := h.2 j e z
    exact ⟨w, by rw [List.getElem?_set_ne (Ne.symm hj)]; exact a, b⟩
theorem RepE.unset {s : St} {r : Env} (i : Nat) (h : RepE K mg F s r) : RepE K mg F (s.set i none) (st r i none) := by
  refine ⟨by rw [List.length_set, st_len]; exact h.1, fun j e z => ?_⟩
  by_cases hj : j = i
  · subst hj
    obtain ⟨a, b⟩ := gt_st_same _ _ _ _ z
    cases a
  · rw [gt_st_ne _ _ _ _ hj] at z
    obtain ⟨w, a, b⟩ := h.2 j e z
    exact ⟨w, by rw [List.getElem?_set_ne (Ne.symm hj)]; exact a, b⟩
theorem RepE.wipe {s : St} {r : Env} (h : RepE K mg F s r) : ∀ vs : List Nat, RepE K mg F (wipe s vs) (zwipe r vs)
  | [] => h
  | v :: vs => by
    show RepE K mg F ((L2.wipe s vs).set v none) (st (zwipe r vs) v none)
    exact (h.wipe vs).unset v

/-- what stands at a changing address -/
def RepO (K : PySem.W.Frag) (mg : Str → Option Value) (F : Fz) (H : Hp) (M : Mh) (a : Addr) : MO → Prop
  | .lst ds => ∃ vs, H a = some (.lst vs) ∧ vs.length ≤ sizeLine ∧ RepL K mg F vs ds
  | .ins c fs => ∃ C dx vs, mg c = some (.ref C) ∧ H a = some (.ins C dx (List.zip (fs.map (·.1)) vs)) ∧ RepL K mg F vs (fs.map (·.2))
  | .town => ∃ c n cells, H a = some (.lst [.ref c, .int n]) ∧ H c = some (.lst (cells.map V.int)) ∧ F.f c = none ∧ F.u c = none ∧ M c = none ∧ cells ≠ [] ∧ cellsOk cells ∧ ∀ t, M t = some .town → t = a
/-- F: what never changes any more; M: what may -/
structure Wd (K : PySem.W.Frag) (mg : Str → Option Value) (F : Fz) (H : Hp) (M : Mh) : Prop where
  sub : ∀ a o, F.f a = some o → H a = some o
  un : ∀ a o, F.u a = some o → H a = some o ∧ F.f a = none ∧ M a = none
  mu : ∀ a m, M a = some m → F.f a = none ∧ RepO K mg F H M a m
theorem Wd.tr {M : Mh} {a : Addr} {m : MO} (w : Wd K mg F H M) (h : M a = some m) : ∃ o, H a = some o := by
  obtain ⟨_, r⟩ := w.mu a m h
  cases m with
  | lst ds => obtain ⟨vs, e, _⟩ := r; exact ⟨_, e⟩
  | ins c fs => obtain ⟨C, dx, vs, _, e, _⟩ := r; exact ⟨_, e⟩
  | town => obtain ⟨c, n, cells, e, _⟩ := r; exact ⟨_, e⟩
theorem Wd.free {M : Mh} {a : Addr} (w : Wd K mg F H M) (h : H a = none) : M a = none ∧ F.f a = none ∧ F.u a = none := by
  refine ⟨?_, ?_, ?_⟩
  · cases e : M a with
    | none => rfl
    | some m => obtain ⟨o, q⟩ := w.tr e; rw [q] at h; cases h
  · cases e : F.f a with
    | none => rfl
    | some o => rw [w.sub a o e] at h; cases h
  · cases e : F.u a with
    | none => rfl
    | some o => rw [(w.un a o e).1] at h; cases h
/-- what is at b (not at p) looks the same, if p alone differs -/
theorem RepO.stay {M M' : Mh} {b : Addr} {m : MO} (e : Same F.f F'.f) (hb : H' b = H b) (hc : ∀ c, (∃ o, H c = some o) → F.f c = none → F.u c = none → M c = none → H' c = H c ∧ F'.f c = none ∧ F'.u c = none ∧ M' c = none) (ht : ∀ t, M' t = some .town → M t = some .town)
    (r : RepO K mg F H M b m) : RepO K mg F' H' M' b m := by
  cases m with
  | lst ds => obtain ⟨vs, h, l, q⟩ := r; exact ⟨vs, hb.trans h, l, q.monoF e⟩
  | ins c fs => obtain ⟨C, dx, vs, h0, h, q⟩ := r; exact ⟨C, dx, vs, h0, hb.trans h, q.monoF e⟩
  | town =>
    obtain ⟨c, n, cells, h1, h2, h3, h3', h4, h5, h6, h7⟩ := r
    obtain ⟨k1, k2, k2', k3⟩ := hc c ⟨_, h2⟩ h3 h3' h4
    exact ⟨c, n, cells, hb.trans h1, k1.trans h2, k2, k2', k3, h5, h6, fun t q => h7 t (ht t q)⟩
/-- a new thing is laid, frozen at once -/
theorem Wd.laidF {M : Mh} {p : Addr} {o : HO} (w : Wd K mg F H M) (hp : H p = none) : Le F (F.up p o) ∧ Wd K mg (F.up p o) (upd H p o) M := by
  obtain ⟨m0, f0, u0⟩ := w.free hp
  refine ⟨⟨same_upd f0, rfl⟩, fun a x e => ?_, fun a x e => ?_, fun a m e => ?_⟩
  · have e : upd F.f p o a = some x := e
    by_cases h : a = p
    · rw [h, upd_same] at e ⊢; exact e
    · rw [upd_ne h] at e ⊢; exact w.sub a x e
  · have h : a ≠ p := ne_of_none (show F.u a = some x from e) u0
    obtain ⟨q1, q2, q3⟩ := w.un a x e
    exact ⟨by rw [upd_ne h]; exact q1, (upd_ne h).trans q2, q3⟩
  · have h : a ≠ p := ne_of_m e m0
    obtain ⟨q, r⟩ := w.mu a m e
    refine ⟨(upd_ne h).trans q, r.stay (F' := F.up p o) (same_upd f0) (upd_ne h) (fun c ⟨x, hx⟩ hf hu hm => ?_) fun _ z => z⟩
    have hc : c ≠ p := ne_of_none hx hp
    exact ⟨upd_ne hc, (upd_ne hc).trans hf, hu, hm⟩
/-- a new thing is laid that may change -/
theorem Wd.laidM {M : Mh} {p : Addr} {o : HO} {m : MO} (w : Wd K mg F H M) (hp : H p = none) (hm : m ≠ .town) (r : RepO K mg F (upd H p o) (mup M p m) p m) : Wd K mg F (upd H p o) (mup M p m) := by
  obtain ⟨m0, f0, u0⟩ := w.free hp
  refine ⟨fun a x e => ?_, fun a x e => ?_, fun a m' e => ?_⟩
  · have h : a ≠ p := ne_of_none (w.sub a x e) hp
    rw [upd_ne h]; exact w.sub a x e
  · have h : a ≠ p := ne_of_none e u0
    obtain ⟨q1, q2, q3⟩ := w.un a x e
    exact ⟨by rw [upd_ne h]; exact q1, q2, by rw [mup_ne h]; exact q3⟩
  · by_cases h : a = p
    · subst h; rw [mup_same] at e; cases e; exact ⟨f0, r⟩
    · rw [mup_ne h] at e
      obtain ⟨q, r'⟩ := w.mu a m' e
      refine ⟨q, r'.stay (Same.refl _) (upd_ne h) (fun c ⟨x, hx⟩ hf hu hmc => ?_) fun t z => ?_⟩
      · have hc : c ≠ p := ne_of_none hx hp
        exact ⟨upd_ne hc, hf, hu, by rw [mup_ne hc]; exact hmc⟩
      · by_cases ht : t = p
        · subst ht; rw [mup_same] at z; cases z; exact absurd rfl hm
        · rw [mup_ne ht] at z; exact z
/-- a changing thing is changed -/
theorem Wd.write {M : Mh} {p : Addr} {o : HO} {m m0 : MO} (w : Wd K mg F H M) (hp : M p = some m0) (hm : m ≠ .town) (h0 : m0 ≠ .town) (r : RepO K mg F (upd H p o) (mup M p m) p m) : Wd K mg F (upd H p o) (mup M p m) := by
  obtain ⟨f0, _⟩ := w.mu p m0 hp
  refine ⟨fun a x e => ?_, fun a x e => ?_, fun a m' e => ?_⟩
  · have h : a ≠ p := fun z => by rw [z, f0] at e; cases e
    rw [upd_ne h]; exact w.sub a x e
  · obtain ⟨q1, q2, q3⟩ := w.un a x e
    have h : a ≠ p := fun z => by rw [z, hp] at q3; cases q3
    exact ⟨by rw [upd_ne h]; exact q1, q2, by rw [mup_ne h]; exact q3⟩
  · by_cases h : a = p
    · subst h; rw [mup_same] at e; cases e; exact ⟨f0, r⟩
    · rw [mup_ne h] at e
      obtain ⟨q, r'⟩ := w.mu a m' e
      refine ⟨q, r'.stay (Same.refl _) (upd_ne h) (fun c ⟨x, hx⟩ hf hu hmc => ?_) fun t z => ?_⟩
      · have hc : c ≠ p := fun z => by rw [z, hp] at hmc; cases hmc
        exact ⟨upd_ne hc, hf, hu, by rw [mup_ne hc]; exact hmc⟩
      · by_cases ht : t = p
        · subst ht; rw [mup_same] at z; cases z; exact absurd rfl hm
        · rw [mup_ne ht] at z; exact z
/-- a changing list is frozen -/
theorem Wd.freeze {M : Mh} {p : Addr} {ds : List D} (w : Wd K mg F H M) (hp : M p = some (.lst ds)) : ∃ F', Le F F' ∧ Wd K mg F' H (mdel M p) ∧ Rep K mg F' (.ref p) (.lst ds) := by
  obtain ⟨f0, vs, e, l, q⟩ := w.mu p _ hp
  have s : Le F (F.up p (.lst vs)) := ⟨same_upd f0, rfl⟩
  refine ⟨F.up p (.lst vs), s, ⟨fun a x z => ?_, fun a x z => ?_, fun a m z => ?_⟩, .lst upd_same l (q.mono s)⟩
  · have z : upd F.f p (.lst vs) a = some x := z
    by_cases h : a = p
    · subst h; rw [upd_same] at z; rw [← z]; exact e
    · rw [upd_ne h] at z; exact w.sub a x z
  · obtain ⟨q1, q2, q3⟩ := w.un a x z
    have h : a ≠ p := fun y => by rw [y, hp] at q3; cases q3
    exact ⟨q1, (upd_ne h).trans q2, by rw [mdel_ne h]; exact q3⟩
  · have h : a ≠ p := fun y => by rw [y, mdel_same] at z; cases z
    rw [mdel_ne h] at z
    obtain ⟨f1, r⟩ := w.mu a m z
    refine ⟨(upd_ne h).trans f1, r.stay (F' := F.up p (.lst vs)) s.f rfl (fun c _ hf hu hm => ?_) fun t y => ?_⟩
    · have hc : c ≠ p := fun y => by rw [y, hp] at hm; cases hm
      exact ⟨rfl, (upd_ne hc).trans hf, hu, by rw [mdel_ne hc]; exact hm⟩
    · have ht : t ≠ p := fun x => by rw [x, mdel_same] at y; cases y
      rw [mdel_ne ht] at y; exact y
/-- things are forgotten -/
theorem Wd.drop {M M' : Mh} (w : Wd K mg F H M) (h : ∀ a m, M' a = some m → M a = some m) : Wd K mg F H M' := by
  have nn : ∀ c, M c = none → M' c = none := fun c hm => by
    cases q : M' c with
    | none => rfl
    | some x => rw [h c x q] at hm; cases hm
  refine ⟨w.sub, fun a x e => let ⟨q1, q2, q3⟩ := w.un a x e; ⟨q1, q2, nn a q3⟩, fun a m e => ?_⟩
  obtain ⟨f, r⟩ := w.mu a m (h a m e)
  exact ⟨f, r.stay (Same.refl _) rfl (fun c _ hf hu hm => ⟨rfl, hf, hu, nn c hm⟩) fun t z => h t _ z⟩
/-- a thing of no one is put among the untouched -/
theorem Wd.hide {M : Mh} {a : Addr} {o : HO} (w : Wd K mg F H M) (h : H a = none) : Wd K mg ⟨F.f, upd F.u a o⟩ (upd H a o) M := by
  obtain ⟨m0, f0, u0⟩ := w.free h
  refine ⟨fun b x e => ?_, fun b x e => ?_, fun b m e => ?_⟩
  · have hb : b ≠ a := ne_of_none (w.sub b x e) h
    rw [upd_ne hb]; exact w.sub b x e
  · have e : upd F.u a o b = some x := e
    by_cases hb : b = a
    · subst hb; rw [upd_same] at e ⊢; exact ⟨e, f0, m0⟩
    · rw [upd_ne hb] at e ⊢; exact w.un b x e
  · have hb : b ≠ a := ne_of_m e m0
    obtain ⟨q, r⟩ := w.mu b m e
    refine ⟨q, r.stay (F := F) (F' := ⟨F.f, upd F.u a o⟩) (Same.refl _) (upd_ne hb) (fun c ⟨x, hx⟩ hf hu hm => ?_) fun _ z => z⟩
    have hc : c ≠ a := ne_of_none hx h
    exact ⟨upd_ne hc, hf, (upd_ne hc).trans hu, hm⟩
/-- .. and changed by its holder -/
theorem Wd.rehide {M : Mh} {a : Addr} {o o' : HO} (w : Wd K mg F H M) (h : F.u a = some o') : Wd K mg ⟨F.f, upd F.u a o⟩ (upd H a o) M := by
  obtain ⟨h0, f0, m0⟩ := w.un a o' h
  refine ⟨fun b x e => ?_, fun b x e => ?_, fun b m e => ?_⟩
  · have hb : b ≠ a := fun z => by rw [z, f0] at e; cases e
    rw [upd_ne hb]; exact w.sub b x e
  · have e : upd F.u a o b = some x := e
    by_cases hb : b = a
    · subst hb; rw [upd_same] at e ⊢; exact ⟨e, f0, m0⟩
    · rw [upd_ne hb] at e ⊢; exact w.un b x e
  · have hb : b ≠ a := ne_of_m e m0
    obtain ⟨q, r⟩ := w.mu b m e
    refine ⟨q, r.stay (F := F) (F' := ⟨F.f, upd F.u a o⟩) (Same.refl _) (upd_ne hb) (fun c ⟨x, hx⟩ hf hu hm => ?_) fun _ z => z⟩
    have hc : c ≠ a := fun z => by rw [z, h] at hu; cases hu
    exact ⟨upd_ne hc, hf, (upd_ne hc).trans hu, hm⟩
/-- fewer untouched ones -/
theorem Wd.less {M : Mh} {u : Hp} (w : Wd K mg F H M) (h : Same u F.u) : Wd K mg ⟨F.f, u⟩ H M := by
  refine ⟨w.sub, fun a o e => w.un a o (h a o e), fun b m e => ?_⟩
  obtain ⟨q, r⟩ := w.mu b m e
  refine ⟨q, r.stay (F := F) (F' := ⟨F.f, u⟩) (Same.refl _) rfl (fun c _ hf hu hm => ⟨rfl, hf, h.free hu, hm⟩) fun _ z => z⟩

abbrev QZ := D → Mh → Prop
abbrev ZE := Env → Mh → QZ → Prop
abbrev ZT := Env → Mh → (Bool → Mh → Prop) → Prop
abbrev ZA := Env → Mh → (List D → Mh → Prop) → Prop
structure ZEnds where
  nx : Env → Mh → Prop
  rt : QZ
  bk : Env → Mh → Prop := fun _ _ => False
  ct : Env → Mh → Prop := fun _ _ => False
abbrev ZS := ZEnds → Env → Mh → Prop
abbrev ZG := D → Env → Mh → (Env → Mh → Prop) → Prop
/-- an exception: its class's name, its fields -/
abbrev ZX := Str → List (Str × D) → Mh → Prop
abbrev ZW := Str → List (Str × D) → Env → Mh → Prop
abbrev ZSp := List D → Mh → QZ → ZX → Prop

/-- what is wanted of a value -/
def Kq (K : PySem.W.Frag) (mg : Str → Option Value) (F : Fz) (R : QZ) (Q : VK) : Prop := ∀ d M', R d M' → ∀ F' H' v, Le F F' → Wd K mg F' H' M' → Rep K mg F' v d → Q v H'
def upE (K : PySem.W.Frag) (mg : Str → Option Value) (F0 : Fz) (f : ZE) : TE := fun s H Q => ∃ (F : Fz) (r : Env) (M : Mh) (R : QZ), Ge F0 F ∧ Wd K mg F H M ∧ RepE K mg F s r ∧ f r M R ∧ Kq K mg F R Q
def upT (K : PySem.W.Frag) (mg : Str → Option Value) (F0 : Fz) (f : ZT) : TT := fun s H Q => ∃ (F : Fz) (r : Env) (M : Mh) (R : Bool → Mh → Prop), Ge F0 F ∧ Wd K mg F H M ∧ RepE K mg F s r ∧ f r M R ∧
  ∀ b M', R b M' → ∀ F' H', Le F F' → Wd K mg F' H' M' → Q b H'
def upA (K : PySem.W.Frag) (mg : Str → Option Value) (F0 : Fz) (f : ZA) : TA := fun s H Q => ∃ (F : Fz) (r : Env) (M : Mh) (R : List D → Mh → Prop), Ge F0 F ∧ Wd K mg F H M ∧ RepE K mg F s r ∧ f r M R ∧
  ∀ ds M', R ds M' → ∀ F' H' vs, Le F F' → Wd K mg F' H' M' → RepL K mg F' vs ds → Q vs H'
/-- what follows in a state -/
def Kn (K : PySem.W.Frag) (mg : Str → Option Value) (F : Fz) (R : Env → Mh → Prop) (Q : St → Hp → Prop) : Prop := ∀ r M, R r M → ∀ F' s H', Le F F' → Wd K mg F' H' M → RepE K mg F' s r → Q s H'
structure Ks (K : PySem.W.Frag) (mg : Str → Option Value) (F : Fz) (Z : ZEnds) (D : Ends) : Prop where
  nx : Kn K mg F Z.nx D.nx
  rt : Kq K mg F Z.rt D.rt
  bk : Kn K mg F Z.bk D.bk
  ct : Kn K mg F Z.ct D.ct
def upS (K : PySem.W.Frag) (mg : Str → Option Value) (F0 : Fz) (f : ZS) : TS := fun D s H => ∃ (F : Fz) (r : Env) (M : Mh) (Z : ZEnds), Ge F0 F ∧ Wd K mg F H M ∧ RepE K mg F s r ∧ f Z r M ∧ Ks K mg F Z D
def upG (K : PySem.W.Frag) (mg : Str → Option Value) (F0 : Fz) (g : ZG) : TG := fun v s H Q => ∃ (F : Fz) (r : Env) (M : Mh) (d : D) (R : Env → Mh → Prop), Ge F0 F ∧ Wd K mg F H M ∧ RepE K mg F s r ∧ Rep K mg F v d ∧ g d r M R ∧ Kn K mg F R Q
theorem Kq.mono {R : QZ} {Q : VK} (e : Le F F') (k : Kq K mg F R Q) : Kq K mg F' R Q := fun d M' h G H' v s w r => k d M' h G H' v (e.trans s) w r
theorem Kn.mono {R : Env → Mh → Prop} {Q : St → Hp → Prop} (e : Le F F') (k : Kn K mg F R Q) : Kn K mg F' R Q := fun d M' h G s' H' s w r => k d M' h G s' H' (e.trans s) w r
theorem Ks.mono {Z : ZEnds} {E : Ends} (e : Le F F') (k : Ks K mg F Z E) : Ks K mg F' Z E := ⟨k.nx.mono e, k.rt.mono e, k.bk.mono e, k.ct.mono e⟩

/-! ### judgements weakened -/
end
section
variable {X : Cx} {e : Expr}
theorem pe_imp {t t' : TE} (h : PE X e t) (i : ∀ s H Q, t' s H Q → t s H Q) : PE X e t' := ⟨fun pins s r H Q I q => h.run pins s r H Q I (i _ _ _ q)⟩
theorem pt_imp {t t' : TT} (h : PT X e t) (i : ∀ s H Q, t' s H Q → t s H Q) : PT X e t' := ⟨fun pins s r H Q I q => h.run pins s r H Q I (i _ _ _ q)⟩
theorem pw_imp {t t' : TT} (h : PW X e t) (i : ∀ s H Q, t' s H Q → t s H Q) : PW X e t' := ⟨fun w pins s r H Q I q => h.run w pins s r H Q I (i _ _ _ q)⟩
theorem pa_imp {es : List Expr} {t t' : TA} (h : PA X es t) (i : ∀ s H Q, t' s H Q → t s H Q) : PA X es t' := ⟨fun p pins s r H Q I q => h.run p pins s r H Q I (i _ _ _ q)⟩
theorem ps_imp {st : Stmt} {t t' : TS} (h : PS X st t) (i : ∀ E s H, t' E s H → t E s H) : PS X st t' := ⟨fun pins s r H E I q => h.run pins s r H E I (i _ _ _ q)⟩
theorem pss_imp {st : List Stmt} {t t' : TS} (h : PSs X st t) (i : ∀ E s H, t' E s H → t E s H) : PSs X st t' := ⟨fun pins s r H E I q => h.run pins s r H E I (i _ _ _ q)⟩
theorem pg_imp {t t' : TG} (h : PG X e t) (i : ∀ v s H Q, t' v s H Q → t v s H Q) : PG X e t' := ⟨fun pins s r H v u Q I rv q => h.run pins s r H v u Q I rv (i _ _ _ _ q)⟩
end
end Zl

/-! Zl2: expressions -/
namespace Zl
open PySem L2

/-! ### readings -/
/-- by a truth value -/
def bsel (b : Bool) (t u : Prop) : Prop := match b with | true => t | false => u
def onBl (d : D) (k : Bool → Prop) : Prop := match d with | .bl b => k b | _ => False
def onInt (d : D) (k : Int → Prop) : Prop := match d with | .int i => k i | _ => False
def zVar (i : Nat) : ZE := fun r M Q => match gt r i with | some d => Q d M | none => False
def zC (d : D) : ZE := fun _ M Q => Q d M
def z2 (f : D → D → Mh → QZ → Prop) (a b : ZE) : ZE := fun r M Q => a r M fun x M1 => b r M1 fun y M2 => f x y M2 Q
def z1 (f : D → Mh → QZ → Prop) (a : ZE) : ZE := fun r M Q => a r M fun x M1 => f x M1 Q
/-- the items of a list, frozen or changing -/
def zL (M : Mh) (d : D) (k : List D → Prop) : Prop := match d with
  | .lst ds => k ds
  | .ref p => (match M p with | some (.lst ds) => k ds | _ => False)
  | _ => False
/-- .. or of a tuple -/
def zLT (M : Mh) (d : D) (k : List D → Prop) : Prop := match d with
  | .tup ds => k ds
  | .lst ds => k ds
  | .ref p => (match M p with | some (.lst ds) => k ds | _ => False)
  | _ => False
@[simp] theorem zL_lst (M : Mh) (ds : List D) (k : List D → Prop) : zL M (.lst ds) k = k ds := rfl
theorem zL_ref {M : Mh} {p : Addr} {ds : List D} {k : List D → Prop} (h : M p = some (.lst ds)) : zL M (.ref p) k = k ds := by
  show (match M p with | some (.lst ds) => k ds | _ => False) = k ds
  rw [h]
@[simp] theorem zLT_lst (M : Mh) (ds : List D) (k : List D → Prop) : zLT M (.lst ds) k = k ds := rfl
@[simp] theorem zLT_tup (M : Mh) (ds : List D) (k : List D → Prop) : zLT M (.tup ds) k = k ds := rfl
theorem zLT_ref {M : Mh} {p : Addr} {ds : List D} {k : List D → Prop} (h : M p = some (.lst ds)) : zLT M (.ref p) k = k ds := by
  show (match M p with | some (.lst ds) => k ds | _ => False) = k ds
  rw [h]
/-- a new list: b tells whether it may change -/
def zNew (b : Bool) (ds : List D) (M : Mh) (Q : QZ) : Prop := match b with
  | true => ∀ p, M p = none → Q (.ref p) (mup M p (.lst ds))
  | false => Q (.lst ds) M
@[simp] theorem zNew_f (ds : List D) (M : Mh) (Q : QZ) : zNew false ds M Q = Q (.lst ds) M := rfl
@[simp] theorem zNew_t (ds : List D) (M : Mh) (Q : QZ) : zNew true ds M Q = ∀ p, M p = none → Q (.ref p) (mup M p (.lst ds)) := rfl

def dAdd (b : Bool) (x y : D) (M : Mh) (Q : QZ) : Prop := match x, y with
  | .int i, .int j => Q (.int (i + j)) M
  | .str s, .str t => s.length + t.length ≤ sizeLine ∧ Q (.str (s ++ t)) M
  | .lst xs, y => zL M y fun ys => xs.length + ys.length ≤ sizeLine ∧ zNew b (xs ++ ys) M Q
  | .ref p, y => zL M (.ref p) fun xs => zL M y fun ys => xs.length + ys.length ≤ sizeLine ∧ zNew b (xs ++ ys) M Q
  | _, _ => False
def dSub (x y : D) (M : Mh) (Q : QZ) : Prop := match x, y with
  | .int i, .int j => Q (.int (i - j)) M
  | _, _ => False
def dMul (b : Bool) (x y : D) (M : Mh) (Q : QZ) : Prop := match x, y with
  | .int i, .int j => CMul i j ∧ Q (.int (i * j)) M
  | .lst xs, .int k => -(2 ^ 63) ≤ k ∧ k < 2 ^ 63 ∧ xs.length * k.toNat ≤ sizeLine ∧ zNew b (List.replicate k.toNat xs).flatten M Q
  | .ref p, .int k => zL M (.ref p) fun xs => -(2 ^ 63) ≤ k ∧ k < 2 ^ 63 ∧ xs.length * k.toNat ≤ sizeLine ∧ zNew b (List.replicate k.toNat xs).flatten M Q
  | _, _ => False
def dDiv (x y : D) (M : Mh) (Q : QZ) : Prop := match x, y with
  | .int i, .int j => CDiv i j ∧ Q (.int (i / j)) M
  | _, _ => False
def dMod (x y : D) (M : Mh) (Q : QZ) : Prop := match x, y with
  | .int i, .int j => 0 < j ∧ Q (.int (i % j)) M
  | _, _ => False
def dPow (x y : D) (M : Mh) (Q : QZ) : Prop := match x, y with
  | .int i, .int j => CPow i j ∧ Q (.int (i ^ j.toNat)) M
  | _, _ => False
def dShr (x y : D) (M : Mh) (Q : QZ) : Prop := match x, y with
  | .int i, .int j => 0 ≤ j ∧ Q (.int (i / 2 ^ j.toNat)) M
  | _, _ => False
def dAnd (x y : D) (M : Mh) (Q : QZ) : Prop := match x, y with
  | .int i, .int j => Q (.int (Builtin.bitAnd i j)) M
  | _, _ => False
def dXor (x y : D) (M : Mh) (Q : QZ) : Prop := match x, y with
  | .int i, .int j => Q (.int (Builtin.bitXor i j)) M
  | _, _ => False
def dNeg (x : D) (M : Mh) (Q : QZ) : Prop := match x with
  | .int i => Q (.int (-i)) M
  | _ => False
def dCmp (p : Int → Int → Bool) (x y : D) (M : Mh) (Q : QZ) : Prop := match x, y with
  | .int i, .int j => Q (.bl (p i j)) M
  | _, _ => False
def pLt (i j : Int) : Bool := decide (i < j)
def pLe (i j : Int) : Bool := decide (i ≤ j)
def pGt (i j : Int) : Bool := decide (j < i)
def pGe (i j : Int) : Bool := decide (j ≤ i)

/-! ### equality of data -/
mutual
def toP : D → PyData
  | .non => .none
  | .bl b => .bool b
  | .int i => .int i
  | .str x => .str x
  | .lst ds => .list (toPs ds)
  | .tup ds => .tuple (toPs ds)
  | .dct => .none
  | .exc _ => .none
  | .scr _ => .none
  | .ref _ => .none
def toPs : List D → List PyData
  | [] => []
  | d :: r => toP d :: toPs r
end
mutual
/-- data through and through -/
def plain : D → Bool
  | .non | .bl _ | .int _ | .str _ => true
  | .lst ds => plains ds
  | .tup ds => plains ds
  | _ => false
def plains : List D → Bool
  | [] => true
  | d :: r => plain d && plains r
end
def eqD (x y : D) : Bool := PyData.eqv (toP x) (toP y)
def eqDs (x y : List D) : Bool := PyData.eqvAll (toPs x) (toPs y)
def dep (x : D) : Nat := (toP x).depth
mutual
/-- things as data: lists that may change, as they stand -/
inductive Rs (M : Mh) : D → D → Prop
  | refl (d : D) : Rs M d d
  | ref {p : Addr} {ds es : List D} : M p = some (.lst ds) → RsL M ds es → Rs M (.ref p) (.lst es)
  | lst {ds es : List D} : RsL M ds es → Rs M (.lst ds) (.lst es)
  | tup {ds es : List D} : RsL M ds es → Rs M (.tup ds) (.tup es)
inductive RsL (M : Mh) : List D → List D → Prop
  | nil : RsL M [] []
  | cons {d e : D} {ds es : List D} : Rs M d e → RsL M ds es → RsL M (d :: ds) (e :: es)
end
theorem RsL.refl (M : Mh) : ∀ ds : List D, RsL M ds ds
  | [] => .nil
  | d :: r => .cons (.refl d) (RsL.refl M r)
def zP (M : Mh) (d : D) (k : D → Prop) : Prop := ∃ e, Rs M d e ∧ k e
def dEq (x y : D) (M : Mh) (Q : QZ) : Prop := zP M x fun x => zP M y fun y => plain x = true ∧ plain y = true ∧ (dep x ≤ 64 ∨ dep y ≤ 64) ∧ Q (.bl (eqD x y)) M
def dNe (x y : D) (M : Mh) (Q : QZ) : Prop := zP M x fun x => zP M y fun y => plain x = true ∧ plain y = true ∧ (dep x ≤ 64 ∨ dep y ≤ 64) ∧ Q (.bl (!eqD x y)) M

section
variable {K : PySem.W.Frag} {mg : Str → Option Value} {F F0 : Fz} {H : Hp} {M : Mh}
mutual
theorem Rep.dp (w : Same F.f H) : ∀ {v : V} {d : D}, plain d = true → Rep K mg F v d → Dp K H v (toP d)
  | _, _, _, .non => .non
  | _, _, _, .bl b => .bl b
  | _, _, _, .int i => .int i
  | _, _, _, .str _ _ => .str _
  | _, _, p, .lst h _ r => .lst (SqL.of (w _ _ h)) (RepL.dp w p r)
  | _, _, p, .tup h _ r => .tup (same_sqT w h) (RepL.dp w p r)
  | _, _, p, .dct _ => absurd (show false = true from p) Bool.false_ne_true
  | _, _, p, .exc _ _ _ => absurd (show false = true from p) Bool.false_ne_true
  | _, _, p, .scr _ _ => absurd (show false = true from p) Bool.false_ne_true
  | _, _, p, .ref _ => absurd (show false = true from p) Bool.false_ne_true
theorem RepL.dp (w : Same F.f H) : ∀ {vs : List V} {ds : List D}, plains ds = true → RepL K mg F vs ds → DpAll K H vs (toPs ds)
  | _, _, _, .nil => .nil
  | _, _, p, .cons h t => by
    have q := Bool.and_eq_true_iff.mp (show (plain _ && plains _) = true from p)
    exact .cons (Rep.dp w q.1 h) (RepL.dp w q.2 t)
end
mutual
theorem Rep.lay : ∀ {v : V} {d : D}, Rep K mg F v d → (toP d).canLay0 = true
  | _, _, .non => by simp [toP, PyData.canLay0]
  | _, _, .bl b => by simp [toP, PyData.canLay0]
  | _, _, .int i => by simp [toP, PyData.canLay0]
  | _, _, .str h _ => by simpa [toP, PyData.canLay0] using h
  | _, _, .lst _ _ r => by simpa [toP, PyData.canLay0] using RepL.lay r
  | _, _, .tup _ _ r => by simpa [toP, PyData.canLay0] using RepL.lay r
  | _, _, .dct _ => by simp [toP, PyData.canLay0]
  | _, _, .exc _ _ _ => by simp [toP, PyData.canLay0]
  | _, _, .scr _ _ => by simp [toP, PyData.canLay0]
  | _, _, .ref a => by simp [toP, PyData.canLay0]
theorem RepL.lay : ∀ {vs : List V} {ds : List D}, RepL K mg F vs ds → PyData.canLayAll0 (toPs ds) = true
  | _, _, .nil => by simp [toPs, PyData.canLayAll0]
  | _, _, .cons h t => by
    have a := Rep.lay h
    have b := RepL.lay t
    simp [toPs, PyData.canLayAll0, a, b]
end
theorem Wd.same (w : Wd K mg F H M) : Same F.f H := fun a o e => w.sub a o e
mutual
theorem Rs.dp (w : Wd K mg F H M) : ∀ {v : V} {d e : D}, Rs M d e → Rep K mg F v d → (plain e = true → Dp K H v (toP e)) ∧ (toP e).canLay0 = true
  | _, _, _, .refl d, r => ⟨fun pl => r.dp w.same pl, r.lay⟩
  | _, _, _, .ref e q, r => by
    cases r
    obtain ⟨_, vs, hv, _, q2⟩ := w.mu _ _ e
    obtain ⟨h1, h2⟩ := RsL.dp w q q2
    exact ⟨fun pl => .lst (SqL.of hv) (h1 (by simpa [plain] using pl)), by simpa [toP, PyData.canLay0] using h2⟩
  | _, _, _, .lst q, r => by
    cases r with
    | lst e l q2 =>
      obtain ⟨h1, h2⟩ := RsL.dp w q q2
      exact ⟨fun pl => .lst (SqL.of (w.same _ _ e)) (h1 (by simpa [plain] using pl)), by simpa [toP, PyData.canLay0] using h2⟩
  | _, _, _, .tup q, r => by
    cases r with
    | tup e l q2 =>
      obtain ⟨h1, h2⟩ := RsL.dp w q q2
      exact ⟨fun pl => .tup (same_sqT w.same e) (h1 (by simpa [plain] using pl)), by simpa [toP, PyData.canLay0] using h2⟩
theorem RsL.dp (w : Wd K mg F H M) : ∀ {vs : List V} {ds es : List D}, RsL M ds es → RepL K mg F vs ds → (plains es = true → DpAll K H vs (toPs es)) ∧ PyData.canLayAll0 (toPs es) = true
  | _, _, _, .nil, r => by
    cases r
    exact ⟨fun _ => .nil, by simp [toPs, PyData.canLayAll0]⟩
  | _, _, _, .cons q t, r => by
    cases r with
    | cons h1 h2 =>
      obtain ⟨a1, a2⟩ := Rs.dp w q h1
      obtain ⟨b1, b2⟩ := RsL.dp w t h2
      refine ⟨fun pl => ?_, by simp [toPs, PyData.canLayAll0, a2, b2]⟩
      have pl := Bool.and_eq_true_iff.mp (show (plain _ && plains _) = true from pl)
      exact .cons (a1 pl.1) (b1 pl.2)
end
/-- from a thing to its data -/
theorem zP_out {d : D} {k : D → Prop} {v : V} (w : Wd K mg F H M) (r : Rep K mg F v d) (h : zP M d k) : ∃ d', k d' ∧ (plain d' = true → Dp K H v (toP d')) ∧ (toP d').canLay0 = true := by
  obtain ⟨e, q, h⟩ := h
  obtain ⟨h1, h2⟩ := Rs.dp w q r
  exact ⟨e, h, h1, h2⟩
/-- from a list to its items -/
theorem zL_out {d : D} {k : List D → Prop} {v : V} (w : Wd K mg F H M) (r : Rep K mg F v d) (h : zL M d k) : ∃ a vs ds, v = .ref a ∧ H a = some (.lst vs) ∧ vs.length ≤ sizeLine ∧ RepL K mg F vs ds ∧ k ds := by
  cases d with
  | lst ds =>
    cases r with
    | lst e l q => exact ⟨_, _, ds, rfl, w.sub _ _ e, l, q, h⟩
  | ref p =>
    cases r
    unfold zL at h
    cases e : M p with
    | none => simp [e] at h
    | some m =>
      cases m with
      | lst ds =>
        simp [e] at h
        obtain ⟨_, vs, hv, l, q⟩ := w.mu p _ e
        exact ⟨p, vs, ds, rfl, hv, l, q, h⟩
      | ins c fs => simp [e] at h
      | town => simp [e] at h
  | _ => exact False.elim h
theorem zLT_out {d : D} {k : List D → Prop} {v : V} (w : Wd K mg F H M) (r : Rep K mg F v d) (h : zLT M d k) : ∃ a vs ds, v = .ref a ∧ (SqL K H a vs ∨ SqT K H a vs) ∧ vs.length ≤ sizeLine ∧ RepL K mg F vs ds ∧ k ds := by
  cases d with
  | tup ds =>
    cases r with
    | tup e l q => exact ⟨_, _, ds, rfl, .inr (same_sqT w.same e), l, q, h⟩
  | lst ds =>
    obtain ⟨a, vs, es, e, h1, h2, h3, h4⟩ := zL_out (d := .lst ds) (k := k) w r h
    exact ⟨a, vs, es, e, .inl (SqL.of h1), h2, h3, h4⟩
  | ref p =>
    obtain ⟨a, vs, es, e, h1, h2, h3, h4⟩ := zL_out (d := .ref p) (k := k) w r h
    exact ⟨a, vs, es, e, .inl (SqL.of h1), h2, h3, h4⟩
  | _ => exact False.elim h
/-- a new list -/
theorem zNew_out {b : Bool} {vs : List V} {ds : List D} {R : QZ} {Q : VK} (w : Wd K mg F H M) (l : vs.length ≤ sizeLine) (q : RepL K mg F vs ds) (h : zNew b ds M R) (k : Kq K mg F R Q) : ∀ p, H p = none → Q (.ref p) (upd H p (.lst vs)) := by
  intro p hp
  obtain ⟨m0, f0, u0⟩ := w.free hp
  cases b with
  | false =>
    obtain ⟨s, w'⟩ := w.laidF (o := .lst vs) hp
    exact k _ _ h _ _ _ s w' (.lst upd_same l (q.mono s))
  | true =>
    refine k _ _ (h p m0) F _ _ (Le.refl F) (w.laidM hp (by intro z; cases z) ⟨vs, upd_same, l, q⟩) (.ref p)
theorem zTup_out {vs : List V} {ds : List D} {R : QZ} {Q : VK} (w : Wd K mg F H M) (l : vs.length ≤ sizeLine) (q : RepL K mg F vs ds) (h : R (.tup ds) M) (k : Kq K mg F R Q) : ∀ p, H p = none → Q (.ref p) (upd H p (.tup vs)) := by
  intro p hp
  obtain ⟨s, w'⟩ := w.laidF (o := .tup vs) hp
  exact k _ _ h _ _ _ s w' (.tup (SqT.of upd_same) l (q.mono s))
end

/-! ### lifting -/
/-- a two-place operation's soundness -/
def Snd2 (K : PySem.W.Frag) (mg : Str → Option Value) (r : R2) (f : D → D → Mh → QZ → Prop) : Prop := ∀ (F : Fz) (H : Hp) (M : Mh) (x y : V) (a b : D) (Q : VK) (R : QZ), Wd K mg F H M → Rep K mg F x a → Rep K mg F y b → f a b M R → Kq K mg F R Q → r x y H Q
def Snd1 (K : PySem.W.Frag) (mg : Str → Option Value) (r : V → Hp → VK → Prop) (f : D → Mh → QZ → Prop) : Prop := ∀ (F : Fz) (H : Hp) (M : Mh) (x : V) (a : D) (Q : VK) (R : QZ), Wd K mg F H M → Rep K mg F x a → f a M R → Kq K mg F R Q → r x H Q
/-- .. of a call by values -/
def SndA (K : PySem.W.Frag) (mg : Str → Option Value) (r : List V → Hp → VK → Prop) (f : List D → Mh → QZ → Prop) : Prop := ∀ (F : Fz) (H : Hp) (M : Mh) (xs : List V) (ds : List D) (Q : VK) (R : QZ), Wd K mg F H M → RepL K mg F xs ds → f ds M R → Kq K mg F R Q → r xs H Q
section
variable {X : Cx} {F0 : Fz}
abbrev UE (X : Cx) (F0 : Fz) (f : ZE) : TE := upE X.K X.mg F0 f
abbrev UT (X : Cx) (F0 : Fz) (f : ZT) : TT := upT X.K X.mg F0 f
abbrev UA (X : Cx) (F0 : Fz) (f : ZA) : TA := upA X.K X.mg F0 f
abbrev US (X : Cx) (F0 : Fz) (f : ZS) : TS := upS X.K X.mg F0 f
abbrev UG (X : Cx) (F0 : Fz) (f : ZG) : TG := upG X.K X.mg F0 f
theorem up2 {K : PySem.W.Frag} {mg : Str → Option Value} {fa fb : ZE} {r : R2} {f : D → D → Mh → QZ → Prop} (s2 : Snd2 K mg r f) {s : St} {H : Hp} {Q : VK} (h : upE K mg F0 (z2 f fa fb) s H Q) : tOp r (upE K mg F0 fa) (upE K mg F0 fb) s H Q := by
  obtain ⟨F, rr, M, R, s0, w, e, h, k⟩ := h
  refine ⟨F, rr, M, _, s0, w, e, h, fun x M1 h1 F1 H1 v s1 w1 r1 => ⟨F1, rr, M1, _, s0.trans s1, w1, e.mono s1, h1, fun y M2 h2 F2 H2 u s3 w2 r2 => ?_⟩⟩
  exact s2 F2 H2 M2 v u x y Q R w2 (r1.mono s3) r2 h2 (k.mono (s1.trans s3))
theorem ze_op {a b : Expr} {op : Operator} {pos : Pos} {fa fb : ZE} {r : R2} {f : D → D → Mh → QZ → Prop} (ho : OpR X (binaryOp op) r) (s2 : Snd2 X.K X.mg r f) (ha : PE X a (UE X F0 fa)) (hb : PE X b (UE X F0 fb)) :
    PE X (.BinOp a op b pos) (UE X F0 (z2 f fa fb)) := pe_imp (pe_op ho ha hb) fun _ _ _ h => up2 s2 h
theorem ze_un {a : Expr} {op : UnaryOp} {pos : Pos} {fa : ZE} {r : V → Hp → VK → Prop} {f : D → Mh → QZ → Prop} (ho : UnR X (unaryOp op) r) (s1 : Snd1 X.K X.mg r f) (ha : PE X a (UE X F0 fa)) : PE X (.UnaryOp op a pos) (UE X F0 (z1 f fa)) := by
  refine pe_imp (pe_un ho ha) fun s H Q h => ?_
  obtain ⟨F, rr, M, R, s0, w, e, h, k⟩ := h
  exact ⟨F, rr, M, _, s0, w, e, h, fun x M1 h1 F1 H1 v s2 w1 r1 => s1 F1 H1 M1 v x Q R w1 r1 h1 (k.mono s2)⟩
theorem ze_cmp {a b : Expr} {op : CmpOp} {pos : Pos} {fa fb : ZE} {r : R2} {f : D → D → Mh → QZ → Prop} (ho : OpR X (compareOp op) r) (s2 : Snd2 X.K X.mg r f) (ha : PE X a (UE X F0 fa)) (hb : PE X b (UE X F0 fb)) (hm : behindInMarks op b = false) :
    PE X (.Compare a [op] [b] pos) (UE X F0 (z2 f fa fb)) := pe_imp (pe_cmpR ho ha hb hm) fun _ _ _ h => up2 s2 h
/-- a bool as a test -/
def zB (t : ZE) : ZT := fun r M Q => t r M fun d M1 => onBl d fun b => Q b M1
theorem upB {K : PySem.W.Frag} {mg : Str → Option Value} {f : ZE} {s : St} {H : Hp} {Q : Bool → Hp → Prop} (h : upT K mg F0 (zB f) s H Q) : upE K mg F0 f s H fun x H' => ∃ k, x = .bl k ∧ Q k H' := by
  obtain ⟨F, rr, M, R, s0, w, e, h, k⟩ := h
  refine ⟨F, rr, M, _, s0, w, e, h, fun x M1 h1 F1 H1 v s2 w1 r1 => ?_⟩
  cases x with
  | bl b => cases r1; exact ⟨b, rfl, k b M1 h1 F1 H1 s2 w1⟩
  | _ => exact False.elim h1
theorem zt_cmp {a b : Expr} {op : CmpOp} {pos : Pos} {fa fb : ZE} {r : R2} {f : D → D → Mh → QZ → Prop} (ho : OpR X (compareOp op) r) (s2 : Snd2 X.K X.mg r f) (ha : PE X a (UE X F0 fa)) (hb : PE X b (UE X F0 fb)) (hm : behindInMarks op b = false) :
    PT X (.Compare a [op] [b] pos) (UT X F0 (zB (z2 f fa fb))) := pt_imp (pt_cmpR ho ha hb hm) fun s H Q h => by
  have q := upB h
  exact up2 s2 q
theorem zt_val {a : Expr} {fa : ZE} (ha : PE X a (UE X F0 fa)) (he : ∀ whole, isTrue a X.env whole = (do let v ← whole; standAt a.pos; holding [v] (truthy v)) := by intro _; rfl) : PT X a (UT X F0 (zB fa)) :=
  pt_imp (pt_val ha he) fun s H Q h => upB h
/-! names, constants -/
theorem ze_var (i : Nat) {x : Str} {pos : Pos} (hN : X.N[i]? = some x := by rfl) (hv : Vis X.env.scope x := by first | exact Or.inl rfl | exact Or.inr (Or.inl rfl) | exact Or.inr (Or.inr rfl)) (hd : (x == ("__debug__" : Str)) = false := by decide)
    (hcd : (x == ("__classdict__" : Str)) = false := by decide) : PE X (.Name x pos) (UE X F0 (zVar i)) := by
  refine pe_imp (pe_var hN hv hd hcd) fun s H Q h => ?_
  obtain ⟨F, rr, M, R, s0, w, e, h, k⟩ := h
  unfold zVar at h
  cases q : gt rr i with
  | none => simp [q] at h
  | some d =>
    simp [q] at h
    obtain ⟨v, h1, h2⟩ := e.2 i d q
    exact ⟨v, h1, k d M h F H v (Le.refl F) w h2⟩
theorem up_c {K : PySem.W.Frag} {mg : Str → Option Value} {v : V} {d : D} (hr : ∀ F, Rep K mg F v d) {s : St} {H : Hp} {Q : VK} (h : upE K mg F0 (zC d) s H Q) : Q v H := by
  obtain ⟨F, rr, M, R, s0, w, e, h, k⟩ := h
  exact k d M h F H v (Le.refl F) w (hr F)
theorem ze_int {i : Int} {j : Nat} {pos : Pos} : PE X (.Constant (.int i) j pos) (UE X F0 (zC (.int i))) := pe_imp pe_int fun _ _ _ h => up_c (fun _ => .int i) h
theorem ze_bl {b : Bool} {j : Nat} {pos : Pos} : PE X (.Constant (.bool b) j pos) (UE X F0 (zC (.bl b))) := pe_imp pe_bl fun _ _ _ h => up_c (fun _ => .bl b) h
theorem ze_non {j : Nat} {pos : Pos} : PE X (.Constant .none j pos) (UE X F0 (zC .non)) := pe_imp pe_non fun _ _ _ h => up_c (fun _ => .non) h
theorem ze_str {x : Str} {j : Nat} {pos : Pos} (h1 : PyData.strOk x = true := by decide +kernel) (h2 : x.length ≤ sizeLine := by decide +kernel) : PE X (.Constant (.str x) j pos) (UE X F0 (zC (.str x))) := pe_imp pe_str fun _ _ _ h => up_c (fun _ => .str h1 h2) h
theorem ze_glob {x : Str} {v : V} {u : Value} {d : D} {pos : Pos} (hg : Gl X x) (hm : X.mg x = some u) (r : RelV v u) (hr : ∀ F, Rep X.K X.mg F v d) (hd : (x == ("__debug__" : Str)) = false := by decide) : PE X (.Name x pos) (UE X F0 (zC d)) :=
  pe_imp (pe_glob hg hm r hd) fun _ _ _ h => up_c hr h
/-! and, or, not, if -/
def zAnd (t u : ZT) : ZT := fun r M Q => t r M fun b M1 => bsel b (u r M1 Q) (Q false M1)
def zOr (t u : ZT) : ZT := fun r M Q => t r M fun b M1 => bsel b (Q true M1) (u r M1 Q)
def zNot (t : ZT) : ZT := fun r M Q => t r M fun b M1 => Q (!b) M1
def zAndV (a b : ZE) : ZE := fun r M Q => a r M fun d M1 => onBl d fun c => bsel c (b r M1 Q) (Q (.bl false) M1)
def zOrV (a b : ZE) : ZE := fun r M Q => a r M fun d M1 => onBl d fun c => bsel c (Q (.bl true) M1) (b r M1 Q)
def zNotV (a : ZE) : ZE := fun r M Q => a r M fun d M1 => onBl d fun b => Q (.bl (!b)) M1
def zIfE (t : ZT) (a b : ZE) : ZE := fun r M Q => t r M fun c M1 => bsel c (a r M1 Q) (b r M1 Q)
variable {a b c : Expr} {rest : List Expr} {pos : Pos} {fa fb : ZE} {ta tb : ZT}
theorem zw_and1 (ha : PT X a (UT X F0 ta)) : PW X (.BoolOp .And [a] pos) (UT X F0 ta) := pw_and1 ha
theorem zw_or1 (ha : PT X a (UT X F0 ta)) : PW X (.BoolOp .Or [a] pos) (UT X F0 ta) := pw_or1 ha
theorem zw_and (ha : PT X a (UT X F0 ta)) (hb : PW X (.BoolOp .And (b :: rest) pos) (UT X F0 tb)) : PW X (.BoolOp .And (a :: b :: rest) pos) (UT X F0 (zAnd ta tb)) := pw_imp (pw_and ha hb) fun s H Q h => by
  obtain ⟨F, rr, M, R, s0, w, e, h, k⟩ := h
  refine ⟨F, rr, M, _, s0, w, e, h, fun d M1 h1 F1 H1 s2 w1 => ?_⟩
  cases d with
  | true => exact ⟨F1, rr, M1, R, s0.trans s2, w1, e.mono s2, h1, fun b M2 h2 F2 H2 s3 w2 => k b M2 h2 F2 H2 (s2.trans s3) w2⟩
  | false => exact k false M1 h1 F1 H1 s2 w1
theorem zw_or (ha : PT X a (UT X F0 ta)) (hb : PW X (.BoolOp .Or (b :: rest) pos) (UT X F0 tb)) : PW X (.BoolOp .Or (a :: b :: rest) pos) (UT X F0 (zOr ta tb)) := pw_imp (pw_or ha hb) fun s H Q h => by
  obtain ⟨F, rr, M, R, s0, w, e, h, k⟩ := h
  refine ⟨F, rr, M, _, s0, w, e, h, fun d M1 h1 F1 H1 s2 w1 => ?_⟩
  cases d with
  | false => exact ⟨F1, rr, M1, R, s0.trans s2, w1, e.mono s2, h1, fun b M2 h2 F2 H2 s3 w2 => k b M2 h2 F2 H2 (s2.trans s3) w2⟩
  | true => exact k true M1 h1 F1 H1 s2 w1
theorem zt_w (h : PW X a (UT X F0 ta)) : PT X a (UT X F0 ta) := h.pt
theorem zt_not (ha : PT X a (UT X F0 ta)) : PT X (.UnaryOp .Not a pos) (UT X F0 (zNot ta)) := pt_imp (pt_not ha) fun s H Q h => by
  obtain ⟨F, rr, M, R, s0, w, e, h, k⟩ := h
  exact ⟨F, rr, M, _, s0, w, e, h, fun d M1 h1 F1 H1 s2 w1 => k _ M1 h1 F1 H1 s2 w1⟩
theorem ze_one {op : BoolOp} (h : PE X a (UE X F0 fa)) : PE X (.BoolOp op [a] pos) (UE X F0 fa) := pe_one h
theorem ze_and (ha : PE X a (UE X F0 fa)) (hb : PE X (.BoolOp .And (b :: rest) pos) (UE X F0 fb)) : PE X (.BoolOp .And (a :: b :: rest) pos) (UE X F0 (zAndV fa fb)) := pe_imp (pe_and ha hb) fun s H Q h => by
  obtain ⟨F, rr, M, R, s0, w, e, h, k⟩ := h
  refine ⟨F, rr, M, _, s0, w, e, h, fun d M1 h1 F1 H1 v s2 w1 r1 => ?_⟩
  cases d with
  | bl c =>
    cases r1
    refine ⟨c, rfl, ?_⟩
    cases c with
    | true => exact ⟨F1, rr, M1, R, s0.trans s2, w1, e.mono s2, h1, k.mono s2⟩
    | false => exact k _ M1 h1 F1 H1 _ s2 w1 (.bl false)
  | _ => exact False.elim h1
theorem ze_or (ha : PE X a (UE X F0 fa)) (hb : PE X (.BoolOp .Or (b :: rest) pos) (UE X F0 fb)) : PE X (.BoolOp .Or (a :: b :: rest) pos) (UE X F0 (zOrV fa fb)) := pe_imp (pe_or ha hb) fun s H Q h => by
  obtain ⟨F, rr, M, R, s0, w, e, h, k⟩ := h
  refine ⟨F, rr, M, _, s0, w, e, h, fun d M1 h1 F1 H1 v s2 w1 r1 => ?_⟩
  cases d with
  | bl c =>
    cases r1
    refine ⟨c, rfl, ?_⟩
    cases c with
    | false => exact ⟨F1, rr, M1, R, s0.trans s2, w1, e.mono s2, h1, k.mono s2⟩
    | true => exact k _ M1 h1 F1 H1 _ s2 w1 (.bl true)
  | _ => exact False.elim h1
theorem ze_not (ha : PE X a (UE X F0 fa)) : PE X (.UnaryOp .Not a pos) (UE X F0 (zNotV fa)) := pe_imp (pe_not ha) fun s H Q h => by
  obtain ⟨F, rr, M, R, s0, w, e, h, k⟩ := h
  refine ⟨F, rr, M, _, s0, w, e, h, fun d M1 h1 F1 H1 v s2 w1 r1 => ?_⟩
  cases d with
  | bl c => cases r1; exact ⟨c, rfl, k _ M1 h1 F1 H1 _ s2 w1 (.bl _)⟩
  | _ => exact False.elim h1
theorem ze_if (hc : PT X c (UT X F0 ta)) (ha : PE X a (UE X F0 fa)) (hb : PE X b (UE X F0 fb)) : PE X (.IfExp c a b pos) (UE X F0 (zIfE ta fa fb)) := pe_imp (pe_ifExp hc ha hb) fun s H Q h => by
  obtain ⟨F, rr, M, R, s0, w, e, h, k⟩ := h
  refine ⟨F, rr, M, _, s0, w, e, h, fun d M1 h1 F1 H1 s2 w1 => ?_⟩
  cases d with
  | true => exact ⟨F1, rr, M1, R, s0.trans s2, w1, e.mono s2, h1, k.mono s2⟩
  | false => exact ⟨F1, rr, M1, R, s0.trans s2, w1, e.mono s2, h1, k.mono s2⟩
/-! a chain a < b < c -/
def zChain (f g : D → D → Mh → QZ → Prop) (a b c : ZE) : ZE := fun r M Q => a r M fun x M1 => b r M1 fun y M2 => f x y M2 fun z M3 => onBl z fun k => bsel k (c r M3 fun u M4 => g y u M4 Q) (Q (.bl false) M3)
theorem upChain {K : PySem.W.Frag} {mg : Str → Option Value} {fc : ZE} {r r' : R2} {f f' : D → D → Mh → QZ → Prop} (s2 : Snd2 K mg r f) (s2' : Snd2 K mg r' f') {s : St} {H : Hp} {Q : VK} (h : upE K mg F0 (zChain f f' fa fb fc) s H Q) :
    tChain r r' (upE K mg F0 fa) (upE K mg F0 fb) (upE K mg F0 fc) s H Q := by
  obtain ⟨F, rr, M, R, s0, w, e, h, k⟩ := h
  refine ⟨F, rr, M, _, s0, w, e, h, fun x M1 h1 F1 H1 v s1 w1 r1 => ⟨F1, rr, M1, _, s0.trans s1, w1, e.mono s1, h1, fun y M2 h2 F2 H2 u s3 w2 r2 => ?_⟩⟩
  refine s2 F2 H2 M2 v u x y _ _ w2 (r1.mono s3) r2 h2 fun z M3 h3 F3 H3 zv s4 w3 r3 => ?_
  cases z with
  | bl b =>
    cases r3
    refine ⟨b, rfl, ?_⟩
    have s5 := (s1.trans s3).trans s4
    cases b with
    | true =>
      exact ⟨F3, rr, M3, _, s0.trans s5, w3, e.mono s5, h3, fun p M4 h4 F4 H4 q s6 w4 r4 => s2' F4 H4 M4 u q y p Q R w4 (r2.mono (s4.trans s6)) r4 h4 (k.mono (s5.trans s6))⟩
    | false => exact k _ M3 h3 F3 H3 _ s5 w3 (.bl false)
  | _ => exact False.elim h3
theorem ze_chain {op op' : CmpOp} {fc : ZE} {r r' : R2} {f f' : D → D → Mh → QZ → Prop} (ho : OpR X (compareOp op) r) (s2 : Snd2 X.K X.mg r f) (ho' : OpR X (compareOp op') r') (s2' : Snd2 X.K X.mg r' f') (ha : PE X a (UE X F0 fa)) (hb : PE X b (UE X F0 fb)) (hc : PE X c (UE X F0 fc))
    (hm : lastMarks [op, op'] [b, c] = false := by with_unfolding_all rfl) :
    PE X (.Compare a [op, op'] [b, c] pos) (UE X F0 (zChain f f' fa fb fc)) := pe_imp (pe_chain ho ho' ha hb hc (hm := hm)) fun _ _ _ h => upChain s2 s2' h
theorem zt_chain {op op' : CmpOp} {fc : ZE} {r r' : R2} {f f' : D → D → Mh → QZ → Prop} (ho : OpR X (compareOp op) r) (s2 : Snd2 X.K X.mg r f) (ho' : OpR X (compareOp op') r') (s2' : Snd2 X.K X.mg r' f') (ha : PE X a (UE X F0 fa)) (hb : PE X b (UE X F0 fb)) (hc : PE X c (UE X F0 fc))
    (hm : lastMarks [op, op'] [b, c] = false := by with_unfolding_all rfl) :
    PT X (.Compare a [op, op'] [b, c] pos) (UT X F0 (zB (zChain f f' fa fb fc))) := pt_imp (pt_chain ho ho' ha hb hc (hm := hm)) fun s H Q h => by
  have q := upB h
  exact upChain s2 s2' q
/-! argument lists, displays -/
def zNil : ZA := fun _ M Q => Q [] M
def zCons (a : ZE) (t : ZA) : ZA := fun r M Q => a r M fun x M1 => t r M1 fun xs M2 => Q (x :: xs) M2
theorem za_nil : PA X [] (UA X F0 zNil) := pa_imp pa_nil fun s H Q h => by
  obtain ⟨F, rr, M, R, s0, w, e, h, k⟩ := h
  exact k [] M h F H [] (Le.refl F) w .nil
theorem za_cons {es : List Expr} {t : ZA} (ha : PE X a (UE X F0 fa)) (ht : PA X es (UA X F0 t)) (hs : starEach (a :: es) X.env = (false, eval a X.env) :: starEach es X.env := by rfl) : PA X (a :: es) (UA X F0 (zCons fa t)) := pa_imp (pa_cons ha ht hs) fun s H Q h => by
  obtain ⟨F, rr, M, R, s0, w, e, h, k⟩ := h
  refine ⟨F, rr, M, _, s0, w, e, h, fun x M1 h1 F1 H1 v s1 w1 r1 => ⟨F1, rr, M1, _, s0.trans s1, w1, e.mono s1, h1, fun xs M2 h2 F2 H2 vs s3 w2 r2 => ?_⟩⟩
  exact k _ M2 h2 F2 H2 _ (s1.trans s3) w2 (.cons (r1.mono s3) r2)
def zTup (t : ZA) : ZE := fun r M Q => t r M fun ds M1 => ds.length ≤ sizeLine ∧ Q (.tup ds) M1
def zLst (b : Bool) (t : ZA) : ZE := fun r M Q => t r M fun ds M1 => ds.length ≤ sizeLine ∧ zNew b ds M1 Q
theorem ze_tup {es : List Expr} {t : ZA} {x1 : Nat} (h : PA X es (UA X F0 t)) : PE X (.Tuple es x1 pos) (UE X F0 (zTup t)) := pe_imp (pe_tup h) fun s H Q h => by
  obtain ⟨F, rr, M, R, s0, w, e, h, k⟩ := h
  refine ⟨F, rr, M, _, s0, w, e, h, fun ds M1 h1 F1 H1 vs s1 w1 r1 => ?_⟩
  have l : vs.length ≤ sizeLine := by rw [r1.length]; exact h1.1
  exact ⟨l, zTup_out w1 l r1 h1.2 (k.mono s1)⟩
theorem ze_lst (b : Bool) {es : List Expr} {t : ZA} (h : PA X es (UA X F0 t)) : PE X (.List es pos) (UE X F0 (zLst b t)) := pe_imp (pe_lst h) fun s H Q h => by
  obtain ⟨F, rr, M, R, s0, w, e, h, k⟩ := h
  refine ⟨F, rr, M, _, s0, w, e, h, fun ds M1 h1 F1 H1 vs s1 w1 r1 => ?_⟩
  have l : vs.length ≤ sizeLine := by rw [r1.length]; exact h1.1
  exact ⟨l, zNew_out w1 l r1 h1.2 (k.mono s1)⟩
end
end Zl

/-! Zl3: operators, subscripts, statements -/
namespace Zl
open PySem L2
section
variable {K : PySem.W.Frag} {mg : Str → Option Value}
theorem strOk_app {s t : Str} (h : PyData.strOk s = true) (h' : PyData.strOk t = true) : PyData.strOk (s ++ t) = true := by
  unfold PyData.strOk at *
  show (s.cps ++ t.cps).all _ = true
  rw [Array.all_append, h, h']; rfl
theorem len_app (s t : Str) : (s ++ t).length = s.length + t.length := by
  show (s.cps ++ t.cps).size = _
  rw [Array.size_append]; rfl
/-! ### soundness of operators -/
def rAddZ : R2 := fun x y H Q => rI0 (fun i j => .int (i + j)) x y H Q ∨ ((∃ i j, x = .str i ∧ y = .str j ∧ i.length + j.length ≤ sizeLine ∧ Q (.str (i ++ j)) H) ∨ rCat x y H Q)
theorem snd_add (b : Bool) : Snd2 K mg rAddZ (dAdd b) := by
  intro F H M x y p q Q R w rx ry h k
  cases p with
  | int i =>
    cases q with
    | int j => cases rx; cases ry; exact .inl ⟨i, j, rfl, rfl, k _ _ h _ _ _ (Le.refl F) w (.int _)⟩
    | _ => exact False.elim h
  | str i =>
    cases q with
    | str j =>
      cases rx with
      | str a1 a2 =>
        cases ry with
        | str b1 b2 =>
          obtain ⟨h1, h2⟩ := h
          exact .inr (.inl ⟨i, j, rfl, rfl, h1, k _ _ h2 _ _ _ (Le.refl F) w (.str (strOk_app a1 b1) (by rw [len_app]; exact h1))⟩)
    | _ => exact False.elim h
  | lst xs =>
    have h' : zL M q fun ys => xs.length + ys.length ≤ sizeLine ∧ zNew b (xs ++ ys) M R := h
    obtain ⟨a, vs, ds, rfl, e, l, rl, e2⟩ := zL_out (d := .lst xs) (k := fun ds => ds = xs) w rx rfl
    subst e2
    obtain ⟨a', vs', ds', rfl, e', l', rl', h1, h2⟩ := zL_out w ry h'
    refine .inr (.inr ⟨a, a', vs, vs', rfl, rfl, e, e', by rw [rl.length, rl'.length]; exact h1, zNew_out w (by rw [List.length_append, rl.length, rl'.length]; exact h1) (rl.append rl') h2 k⟩)
  | ref pa =>
    have h' : zL M (.ref pa) fun xs => zL M q fun ys => xs.length + ys.length ≤ sizeLine ∧ zNew b (xs ++ ys) M R := h
    obtain ⟨a, vs, ds, rfl, e, l, rl, h'⟩ := zL_out w rx h'
    obtain ⟨a', vs', ds', rfl, e', l', rl', h1, h2⟩ := zL_out w ry h'
    refine .inr (.inr ⟨a, a', vs, vs', rfl, rfl, e, e', by rw [rl.length, rl'.length]; exact h1, zNew_out w (by rw [List.length_append, rl.length, rl'.length]; exact h1) (rl.append rl') h2 k⟩)
  | _ => exact False.elim h
theorem sndI {C : Int → Int → Prop} {g : Int → Int → Int} {f : D → D → Mh → QZ → Prop} (hf : ∀ x y M Q, f x y M Q → ∃ i j, x = .int i ∧ y = .int j ∧ C i j ∧ Q (.int (g i j)) M) : Snd2 K mg (rI C fun i j => .int (g i j)) f := by
  intro F H M x y p q Q R w rx ry h k
  obtain ⟨i, j, rfl, rfl, c, h2⟩ := hf _ _ _ _ h
  cases rx; cases ry
  exact ⟨i, j, rfl, rfl, c, k _ _ h2 _ _ _ (Le.refl F) w (.int _)⟩
theorem sndI0 {g : Int → Int → Int} {f : D → D → Mh → QZ → Prop} (hf : ∀ x y M Q, f x y M Q → ∃ i j, x = .int i ∧ y = .int j ∧ Q (.int (g i j)) M) : Snd2 K mg (rI0 fun i j => .int (g i j)) f := by
  intro F H M x y p q Q R w rx ry h k
  obtain ⟨i, j, rfl, rfl, h2⟩ := hf _ _ _ _ h
  cases rx; cases ry
  exact ⟨i, j, rfl, rfl, k _ _ h2 _ _ _ (Le.refl F) w (.int _)⟩
theorem sndB0 {g : Int → Int → Bool} : Snd2 K mg (rI0 fun i j => .bl (g i j)) (dCmp g) := by
  intro F H M x y p q Q R w rx ry h k
  cases p with
  | int i =>
    cases q with
    | int j => cases rx; cases ry; exact ⟨i, j, rfl, rfl, k _ _ h _ _ _ (Le.refl F) w (.bl _)⟩
    | _ => exact False.elim h
  | _ => exact False.elim h
theorem snd_sub : Snd2 K mg (rI0 fun i j => .int (i - j)) dSub := sndI0 fun x y M Q h => by
  unfold dSub at h; split at h
  · exact ⟨_, _, rfl, rfl, h⟩
  · exact h.elim
theorem snd_div : Snd2 K mg (rI CDiv fun i j => .int (i / j)) dDiv := sndI fun x y M Q h => by
  unfold dDiv at h; split at h
  · exact ⟨_, _, rfl, rfl, h.1, h.2⟩
  · exact h.elim
theorem snd_mod : Snd2 K mg (rI (fun _ j => 0 < j) fun i j => .int (i % j)) dMod := sndI fun x y M Q h => by
  unfold dMod at h; split at h
  · exact ⟨_, _, rfl, rfl, h.1, h.2⟩
  · exact h.elim
theorem snd_pow : Snd2 K mg (rI CPow fun i j => .int (i ^ j.toNat)) dPow := sndI fun x y M Q h => by
  unfold dPow at h; split at h
  · exact ⟨_, _, rfl, rfl, h.1, h.2⟩
  · exact h.elim
theorem snd_shr : Snd2 K mg (rI (fun _ j => 0 ≤ j) fun i j => .int (i / 2 ^ j.toNat)) dShr := sndI fun x y M Q h => by
  unfold dShr at h; split at h
  · exact ⟨_, _, rfl, rfl, h.1, h.2⟩
  · exact h.elim
theorem snd_and : Snd2 K mg (rI0 fun i j => .int (Builtin.bitAnd i j)) dAnd := sndI0 fun x y M Q h => by
  unfold dAnd at h; split at h
  · exact ⟨_, _, rfl, rfl, h⟩
  · exact h.elim
theorem snd_xor : Snd2 K mg (rI0 fun i j => .int (Builtin.bitXor i j)) dXor := sndI0 fun x y M Q h => by
  unfold dXor at h; split at h
  · exact ⟨_, _, rfl, rfl, h⟩
  · exact h.elim
theorem snd_neg : Snd1 K mg (rU fun i => .int (-i)) dNeg := by
  intro F H M x p Q R w rx h k
  cases p with
  | int i => cases rx; exact ⟨i, rfl, k _ _ h _ _ _ (Le.refl F) w (.int _)⟩
  | _ => exact False.elim h
def rMulZ : R2 := fun x y H Q => rI CMul (fun i j => .int (i * j)) x y H Q ∨ rRep x y H Q
theorem snd_mul (b : Bool) : Snd2 K mg rMulZ (dMul b) := by
  intro F H M x y p q Q R w rx ry h k
  cases p with
  | int i =>
    cases q with
    | int j => cases rx; cases ry; exact .inl ⟨i, j, rfl, rfl, h.1, k _ _ h.2 _ _ _ (Le.refl F) w (.int _)⟩
    | _ => exact False.elim h
  | lst xs =>
    cases q with
    | int j =>
      cases ry
      obtain ⟨a, vs, ds, rfl, e, l, rl, e2⟩ := zL_out (d := .lst xs) (k := fun ds => ds = xs) w rx rfl
      subst e2
      obtain ⟨h1, h2, h3, h4⟩ := (show -(2 ^ 63) ≤ j ∧ j < 2 ^ 63 ∧ ds.length * j.toNat ≤ sizeLine ∧ zNew b (List.replicate j.toNat ds).flatten M R from h)
      have h3' : vs.length * j.toNat ≤ sizeLine := by rw [rl.length]; exact h3
      refine .inr ⟨a, j, vs, rfl, rfl, e, h1, h2, h3', zNew_out w ?_ (rl.flat _) h4 k⟩
      rw [List.length_flatten, List.map_replicate, List.sum_replicate_nat, Nat.mul_comm]; exact h3'
    | _ => exact False.elim h
  | ref pa =>
    cases q with
    | int j =>
      cases ry
      have h' : zL M (.ref pa) fun xs => -(2 ^ 63) ≤ j ∧ j < 2 ^ 63 ∧ xs.length * j.toNat ≤ sizeLine ∧ zNew b (List.replicate j.toNat xs).flatten M R := h
      obtain ⟨a, vs, ds, rfl, e, l, rl, h1, h2, h3, h4⟩ := zL_out w rx h'
      have h3' : vs.length * j.toNat ≤ sizeLine := by rw [rl.length]; exact h3
      refine .inr ⟨a, j, vs, rfl, rfl, e, h1, h2, h3', zNew_out w ?_ (rl.flat _) h4 k⟩
      rw [List.length_flatten, List.map_replicate, List.sum_replicate_nat, Nat.mul_comm]; exact h3'
    | _ => exact False.elim h
  | _ => exact False.elim h
/-! equality -/
def rEqZ (K : PySem.W.Frag) : R2 := fun x y H Q => ∃ d e, Dp K H x d ∧ Dp K H y e ∧ d.canLay0 = true ∧ e.canLay0 = true ∧ (d.depth ≤ 64 ∨ e.depth ≤ 64) ∧ Q (.bl (PyData.eqv d e)) H
def rNeZ (K : PySem.W.Frag) : R2 := fun x y H Q => ∃ d e, Dp K H x d ∧ Dp K H y e ∧ d.canLay0 = true ∧ e.canLay0 = true ∧ (d.depth ≤ 64 ∨ e.depth ≤ 64) ∧ Q (.bl (!PyData.eqv d e)) H
theorem op_eqZ {X : Cx} (hu : X.A.units + 64 < cLine) : OpR X (compareOp .Eq) (rEqZ X.K) := by
  intro pins s r H x y v u Q I rx ry h
  obtain ⟨d, e, hd, he, sd, se, dp, q⟩ := h
  obtain ⟨_, r1⟩ := Dp.reads I d x v hd rx
  obtain ⟨_, r2⟩ := Dp.reads I e y u he ry
  exact SeqAt.compareEq_reads r1 r2 sd se (by omega) ⟨.bl _, H, I, rfl, q⟩
theorem op_neZ {X : Cx} (hu : X.A.units + 64 < cLine) : OpR X (compareOp .NotEq) (rNeZ X.K) := by
  intro pins s r H x y v u Q I rx ry h
  obtain ⟨d, e, hd, he, sd, se, dp, q⟩ := h
  obtain ⟨_, r1⟩ := Dp.reads I d x v hd rx
  obtain ⟨_, r2⟩ := Dp.reads I e y u he ry
  exact SeqAt.compareNe_reads r1 r2 sd se (by omega) ⟨.bl _, H, I, rfl, q⟩
theorem snd_eq : Snd2 K mg (rEqZ K) dEq := by
  intro F H M x y p q Q R w rx ry h k
  obtain ⟨d, h, hd, ld⟩ := zP_out w rx h
  obtain ⟨e, h, he, le⟩ := zP_out w ry h
  obtain ⟨h1, h2, h3, h4⟩ := h
  exact ⟨toP d, toP e, hd h1, he h2, ld, le, h3, k _ _ h4 _ _ _ (Le.refl F) w (.bl _)⟩
theorem snd_ne : Snd2 K mg (rNeZ K) dNe := by
  intro F H M x y p q Q R w rx ry h k
  obtain ⟨d, h, hd, ld⟩ := zP_out w rx h
  obtain ⟨e, h, he, le⟩ := zP_out w ry h
  obtain ⟨h1, h2, h3, h4⟩ := h
  exact ⟨toP d, toP e, hd h1, he h2, ld, le, h3, k _ _ h4 _ _ _ (Le.refl F) w (.bl _)⟩
/-! in -/
def flatD : D → Bool
  | .non | .bl _ | .int _ | .str _ => true
  | _ => false
theorem flat_of {F : Fz} {v : V} {d : D} (r : Rep K mg F v d) (h : flatD d = true) : flatV v = true := by
  cases r <;> first | rfl | exact absurd h Bool.false_ne_true
theorem eqV_of {F : Fz} {v u : V} {d e : D} (r : Rep K mg F v d) (r' : Rep K mg F u e) (h : flatD d = true) (h' : flatD e = true) : eqV v u = eqD d e := by
  unfold eqD
  cases r <;> first | exact absurd h Bool.false_ne_true | (cases r' <;> first | exact absurd h' Bool.false_ne_true | (simp [eqV, toP, PyData.eqv]))
theorem flats_of {F : Fz} : ∀ {vs : List V} {ds : List D}, RepL K mg F vs ds → ds.all flatD = true → vs.all flatV = true
  | _, _, .nil, _ => rfl
  | _, _, .cons h t, q => by
    rw [List.all_cons, Bool.and_eq_true] at q
    rw [List.all_cons, flat_of h q.1, flats_of t q.2]; rfl
def inD (x : D) (ds : List D) : Bool := ds.any fun y => eqD y x
theorem inV_of {F : Fz} {v : V} {d : D} (r : Rep K mg F v d) (f : flatD d = true) : ∀ {vs : List V} {ds : List D}, RepL K mg F vs ds → ds.all flatD = true → inV v vs = inD d ds
  | _, _, .nil, _ => rfl
  | _, _, .cons h t, q => by
    rw [List.all_cons, Bool.and_eq_true] at q
    have ih := inV_of r f t q.2
    unfold inV inD at *
    rw [List.any_cons, List.any_cons, eqV_of h r q.1 f, ih]
def dIn (neg : Bool) (x y : D) (M : Mh) (Q : QZ) : Prop := match y with
  | .str z => (match x with | .str s => (match s.cps.toList with | [c] => Q (.bl (if neg then !decide (c ∈ z.cps.toList) else decide (c ∈ z.cps.toList))) M | _ => False) | _ => False)
  | y => zLT M y fun ys => flatD x = true ∧ ys.all flatD = true ∧ Q (.bl (if neg then !inD x ys else inD x ys)) M
def rInZ (K : PySem.W.Frag) (neg : Bool) : R2 := fun x y H Q => rIn K neg x y H Q ∨ ∃ (c : Nat) (z : Str), x = .str ⟨#[c]⟩ ∧ y = .str z ∧ Q (.bl (if neg then !decide (c ∈ z.cps.toList) else decide (c ∈ z.cps.toList))) H
theorem snd_in (neg : Bool) : Snd2 K mg (rInZ K neg) (dIn neg) := by
  intro F H M x y p q Q R w rx ry h k
  have gen : (zLT M q fun ys => flatD p = true ∧ ys.all flatD = true ∧ R (.bl (if neg then !inD p ys else inD p ys)) M) → rInZ K neg x y H Q := fun h => by
    obtain ⟨a, vs, ds, rfl, e, l, rl, h1, h2, h3⟩ := zLT_out w ry h
    refine .inl ⟨a, vs, rfl, e, flat_of rx h1, flats_of rl h2, ?_⟩
    rw [inV_of rx h1 rl h2]
    exact k _ _ h3 _ _ _ (Le.refl F) w (.bl _)
  cases q with
  | str z =>
    cases ry
    cases p with
    | str s =>
      cases rx
      unfold dIn at h
      dsimp only at h
      split at h
      · rename_i c e
        refine .inr ⟨c, z, ?_, rfl, k _ _ h _ _ _ (Le.refl F) w (.bl _)⟩
        obtain ⟨cs⟩ := s
        have e2 : cs = #[c] := by
          apply Array.ext'
          simpa using e
        rw [e2]
      · exact h.elim
    | _ => exact False.elim h
  | _ => exact gen h
theorem op_inZ {X : Cx} : OpR X (compareOp .In) (rInZ X.K false) := OpR.or op_in_seq op_in_sign
theorem op_notInZ {X : Cx} : OpR X (compareOp .NotIn) (rInZ X.K true) := OpR.or op_notIn_seq op_notIn_sign
/-! is -/
def isN : D → Bool
  | .non => true
  | _ => false
theorem isN_of {F : Fz} {v : V} {d : D} (r : Rep K mg F v d) : decide (v = .non) = isN d := by
  cases r <;> first | rfl | (simp [isN])
def dIs (x y : D) (M : Mh) (Q : QZ) : Prop := match y with
  | .non => Q (.bl (isN x)) M
  | .bl b => (match x with | .bl a => Q (.bl (decide (a = b))) M | _ => False)
  | _ => False
def dIsNot (x y : D) (M : Mh) (Q : QZ) : Prop := match y with
  | .non => Q (.bl (!isN x)) M
  | .bl b => (match x with | .bl a => Q (.bl (!decide (a = b))) M | _ => False)
  | _ => False
def rIsZ : R2 := fun x y H Q => (y = .non ∧ Q (.bl (decide (x = .non))) H) ∨ rIsB x y H Q
def rIsNotZ : R2 := fun x y H Q => (y = .non ∧ Q (.bl (!decide (x = .non))) H) ∨ rNotB x y H Q
theorem snd_is : Snd2 K mg rIsZ dIs := by
  intro F H M x y p q Q R w rx ry h k
  cases q with
  | non => cases ry; refine .inl ⟨rfl, ?_⟩; rw [isN_of rx]; exact k _ _ h _ _ _ (Le.refl F) w (.bl _)
  | bl b =>
    cases ry
    cases p with
    | bl a => cases rx; exact .inr ⟨a, b, rfl, rfl, k _ _ h _ _ _ (Le.refl F) w (.bl _)⟩
    | _ => exact False.elim h
  | _ => exact False.elim h
theorem snd_isNot : Snd2 K mg rIsNotZ dIsNot := by
  intro F H M x y p q Q R w rx ry h k
  cases q with
  | non => cases ry; refine .inl ⟨rfl, ?_⟩; rw [isN_of rx]; exact k _ _ h _ _ _ (Le.refl F) w (.bl _)
  | bl b =>
    cases ry
    cases p with
    | bl a => cases rx; exact .inr ⟨a, b, rfl, rfl, k _ _ h _ _ _ (Le.refl F) w (.bl _)⟩
    | _ => exact False.elim h
  | _ => exact False.elim h
/-! subscripts -/
def dIx (x i : D) (M : Mh) (Q : QZ) : Prop := match i with
  | .int i => (match x with
    | .str s => (match atI s.cps.toList i with | some c => Q (.str ⟨#[c]⟩) M | none => False)
    | x => zLT M x fun ds => match atI ds i with | some d => Q d M | none => False)
  | _ => False
theorem atI_rep {F : Fz} {vs : List V} {ds : List D} {i : Int} {d : D} (r : RepL K mg F vs ds) (h : atI ds i = some d) : ∃ v, atI vs i = some v ∧ Rep K mg F v d := by
  unfold atI at *
  rw [r.length]
  cases e : ixN ds.length i with
  | none => rw [e] at h; cases h
  | some j =>
    rw [e] at h
    exact r.get h
theorem atI_ok {s : Str} {i : Int} {c : Nat} (h : PyData.strOk s = true) (e : atI s.cps.toList i = some c) : PyData.strOk ⟨#[c]⟩ = true := by
  obtain ⟨j, _, e2, _⟩ := atI_get e
  have hm : c ∈ s.cps.toList := List.mem_of_getElem? e2
  unfold PyData.strOk at *
  rw [← Array.all_toList] at h ⊢
  have := List.all_eq_true.mp h c hm
  simpa using this
theorem snd_ix : Snd2 K mg (rIx K) dIx := by
  intro F H M x y p q Q R w rx ry h k
  cases q with
  | int i =>
    cases ry
    have gen : (zLT M p fun ds => match atI ds i with | some d => R d M | none => False) → rIx K x (.int i) H Q := fun h => by
      obtain ⟨a, vs, ds, rfl, e, l, rl, h⟩ := zLT_out w rx h
      cases q : atI ds i with
      | none => rw [q] at h; exact h.elim
      | some d =>
        rw [q] at h
        obtain ⟨v, e2, rv⟩ := atI_rep rl q
        have z := k _ _ h _ _ _ (Le.refl F) w rv
        rcases e with e | e
        · exact .inl ⟨a, vs, i, v, rfl, rfl, e, e2, z⟩
        · exact .inr (.inl ⟨a, vs, i, v, rfl, rfl, e, e2, z⟩)
    cases p with
    | str s =>
      cases rx with
      | str o1 o2 =>
        have h' : (match atI s.cps.toList i with | some c => R (.str ⟨#[c]⟩) M | none => False) := h
        cases e : atI s.cps.toList i with
        | none => rw [e] at h'; exact h'.elim
        | some c =>
          rw [e] at h'
          exact .inr (.inr ⟨s, i, c, rfl, rfl, o2, e, k _ _ h' _ _ _ (Le.refl F) w (.str (atI_ok o1 e) (by show 1 ≤ sizeLine; decide))⟩)
    | _ => exact gen h
  | _ => exact False.elim h
/-! slices -/
def cutD (ds : List D) (lo hi : Option Int) : List D := (ds.drop (HT.sIx ds.length 0 lo)).take (HT.sIx ds.length ds.length hi - HT.sIx ds.length 0 lo)
theorem RepL.cut {F : Fz} {vs : List V} {ds : List D} (lo hi : Option Int) (r : RepL K mg F vs ds) : RepL K mg F (cutV vs lo hi) (cutD ds lo hi) := by
  unfold cutV cutD
  rw [r.length]
  exact (r.drop _).take _
def ZO := Env → Mh → (Option Int → Mh → Prop) → Prop
def zNoPart : ZO := fun _ M Q => Q none M
def zPart (a : ZE) : ZO := fun r M Q => a r M fun d M1 => onInt d fun i => Q (some i) M1
def upO (K : PySem.W.Frag) (mg : Str → Option Value) (F0 : Fz) (f : ZO) : TO := fun s H Q => ∃ (F : Fz) (r : Env) (M : Mh) (R : Option Int → Mh → Prop), Ge F0 F ∧ Wd K mg F H M ∧ RepE K mg F s r ∧ f r M R ∧
  ∀ o M', R o M' → ∀ F' H', Le F F' → Wd K mg F' H' M' → Q o H'
def zSl (b : Bool) (a : ZE) (lo hi : ZO) : ZE := fun r M Q => a r M fun x M1 => lo r M1 fun l M2 => hi r M2 fun h M3 => match x with
  | .str s => Q (.str (cutS s l h)) M3
  | x => zL M3 x fun ds => zNew b (cutD ds l h) M3 Q
end
section
variable {X : Cx} {F0 : Fz} {a b c : Expr} {pos : Pos} {fa fb : ZE}
theorem zo_none : PO X none (upO X.K X.mg F0 zNoPart) := ⟨fun pins s r H Q I h => by
  obtain ⟨F, rr, M, R, s0, w, e, h, k⟩ := h
  exact po_none.run pins s r H Q I (k none M h F H (Le.refl F) w)⟩
theorem zo_some (ha : PE X a (UE X F0 fa)) : PO X (some a) (upO X.K X.mg F0 (zPart fa)) := ⟨fun pins s r H Q I h => by
  obtain ⟨F, rr, M, R, s0, w, e, h, k⟩ := h
  refine (po_some ha).run pins s r H Q I ⟨F, rr, M, _, s0, w, e, h, fun d M1 h1 F1 H1 v s1 w1 r1 => ?_⟩
  cases d with
  | int i => cases r1; exact ⟨i, rfl, k _ M1 h1 F1 H1 s1 w1⟩
  | _ => exact False.elim h1⟩
theorem strOk_cut {s : Str} (lo hi : Option Int) (h : PyData.strOk s = true) : PyData.strOk (cutS s lo hi) = true := by
  unfold PyData.strOk at *
  rw [← Array.all_toList] at h ⊢
  refine List.all_eq_true.mpr fun c hc => List.all_eq_true.mp h c ?_
  have hc' : c ∈ (s.cps.toList.drop (HT.sIx s.length 0 lo)).take (HT.sIx s.length s.length hi - HT.sIx s.length 0 lo) := by simpa [cutS] using hc
  exact List.mem_of_mem_drop (List.mem_of_mem_take hc')
theorem len_cut (s : Str) (lo hi : Option Int) : (cutS s lo hi).length ≤ s.length := by
  show (((s.cps.toList.drop _).take _).toArray).size ≤ s.cps.size
  rw [List.size_toArray, List.length_take, List.length_drop, Array.length_toList]
  omega
theorem ze_sl (b : Bool) {lo hi : Option Expr} {fl fh : ZO} {p2 : Pos} (ha : PE X a (UE X F0 fa)) (hl : PO X lo (upO X.K X.mg F0 fl)) (hh : PO X hi (upO X.K X.mg F0 fh)) : PE X (.Subscript a (.Slice lo hi none p2) pos) (UE X F0 (zSl b fa fl fh)) := by
  refine pe_imp (pe_slice (SlR.or sl_list sl_str) ha hl hh) fun s H Q h => ?_
  obtain ⟨F, rr, M, R, s0, w, e, h, k⟩ := h
  refine ⟨F, rr, M, _, s0, w, e, h, fun x M1 h1 F1 H1 v s1 w1 r1 => ⟨F1, rr, M1, _, s0.trans s1, w1, e.mono s1, h1, fun l M2 h2 F2 H2 s2 w2 => ⟨F2, rr, M2, _, (s0.trans s1).trans s2, w2, (e.mono s1).mono s2, h2, fun u M3 h3 F3 H3 s3 w3 => ?_⟩⟩⟩
  have r3 := (r1.mono s2).mono s3
  have k3 := k.mono ((s1.trans s2).trans s3)
  have gen : (zL M3 x fun ds => zNew b (cutD ds l u) M3 R) → rSlL X.K v l u H3 Q := fun h => by
    obtain ⟨p, vs, ds, rfl, e, ll, rl, h⟩ := zL_out w3 r3 h
    exact ⟨p, vs, rfl, SqL.of e, zNew_out w3 (Nat.le_trans (cutV_length _ _ _) ll) (rl.cut l u) h k3⟩
  cases x with
  | str z =>
    cases r3 with
    | str o1 o2 => exact .inr ⟨z, rfl, o2, k3 _ _ h3 _ _ _ (Le.refl F3) w3 (.str (strOk_cut _ _ o1) (Nat.le_trans (len_cut _ _ _) o2))⟩
  | _ => exact .inl (gen h3)
/-! operators as rules -/
theorem ze_add (n : Bool) (ha : PE X a (UE X F0 fa)) (hb : PE X b (UE X F0 fb)) : PE X (.BinOp a .Add b pos) (UE X F0 (z2 (dAdd n) fa fb)) := ze_op (OpR.or op_add (OpR.or op_add_str op_cat)) (snd_add n) ha hb
theorem ze_sub (ha : PE X a (UE X F0 fa)) (hb : PE X b (UE X F0 fb)) : PE X (.BinOp a .Sub b pos) (UE X F0 (z2 dSub fa fb)) := ze_op op_sub snd_sub ha hb
theorem ze_mul (n : Bool) (ha : PE X a (UE X F0 fa)) (hb : PE X b (UE X F0 fb)) : PE X (.BinOp a .Mult b pos) (UE X F0 (z2 (dMul n) fa fb)) := ze_op (OpR.or op_mul op_rep) (snd_mul n) ha hb
theorem ze_div (ha : PE X a (UE X F0 fa)) (hb : PE X b (UE X F0 fb)) : PE X (.BinOp a .FloorDiv b pos) (UE X F0 (z2 dDiv fa fb)) := ze_op op_fdiv snd_div ha hb
theorem ze_mod (ha : PE X a (UE X F0 fa)) (hb : PE X b (UE X F0 fb)) : PE X (.BinOp a .Mod b pos) (UE X F0 (z2 dMod fa fb)) := ze_op op_mod snd_mod ha hb
theorem ze_pow (ha : PE X a (UE X F0 fa)) (hb : PE X b (UE X F0 fb)) : PE X (.BinOp a .Pow b pos) (UE X F0 (z2 dPow fa fb)) := ze_op op_pow snd_pow ha hb
theorem ze_shr (ha : PE X a (UE X F0 fa)) (hb : PE X b (UE X F0 fb)) : PE X (.BinOp a .RShift b pos) (UE X F0 (z2 dShr fa fb)) := ze_op op_shr snd_shr ha hb
theorem ze_band (ha : PE X a (UE X F0 fa)) (hb : PE X b (UE X F0 fb)) : PE X (.BinOp a .BitAnd b pos) (UE X F0 (z2 dAnd fa fb)) := ze_op op_and snd_and ha hb
theorem ze_bxor (ha : PE X a (UE X F0 fa)) (hb : PE X b (UE X F0 fb)) : PE X (.BinOp a .BitXor b pos) (UE X F0 (z2 dXor fa fb)) := ze_op op_xor snd_xor ha hb
theorem ze_neg (ha : PE X a (UE X F0 fa)) : PE X (.UnaryOp .USub a pos) (UE X F0 (z1 dNeg fa)) := ze_un un_neg snd_neg ha
theorem ze_ix (ha : PE X a (UE X F0 fa)) (hb : PE X b (UE X F0 fb)) (hs : PlainIx b) : PE X (.Subscript a b pos) (UE X F0 (z2 dIx fa fb)) := pe_imp (pe_ix ix_seq ha hb hs) fun _ _ _ h => up2 snd_ix h
/-! ### statements -/
def zNext : ZS := fun E r M => E.nx r M
def zSeq (t u : ZS) : ZS := fun E r M => t { E with nx := u E } r M
def zBreak : ZS := fun E r M => E.bk r M
def zCont : ZS := fun E r M => E.ct r M
def zDrop (a : ZE) : ZS := fun E r M => a r M fun _ M1 => E.nx r M1
def zRet (a : ZE) : ZS := fun E r M => a r M E.rt
def zRetN : ZS := fun E _ M => E.rt .non M
def zIf (c : ZT) (t u : ZS) : ZS := fun E r M => c r M fun b M1 => bsel b (t E r M1) (u E r M1)
def zAsg (a : ZE) (g : ZG) : ZS := fun E r M => a r M fun d M1 => g d r M1 E.nx
def zgName (i : Nat) : ZG := fun d r M Q => Q (st r i (some d)) M
variable {st1 : Stmt} {rest : List Stmt} {t u : ZS}
theorem zss_nil : PSs X [] (US X F0 zNext) := pss_imp pss_nil fun E s H h => by
  obtain ⟨F, rr, M, Z, s0, w, e, h, k⟩ := h
  exact k.nx rr M h F s H (Le.refl F) w e
theorem zss_cons (h1 : PS X st1 (US X F0 t)) (h2 : PSs X rest (US X F0 u)) : PSs X (st1 :: rest) (US X F0 (zSeq t u)) := pss_imp (pss_cons h1 h2) fun E s H h => by
  obtain ⟨F, rr, M, Z, s0, w, e, h, k⟩ := h
  refine ⟨F, rr, M, { Z with nx := u Z }, s0, w, e, h, ⟨fun r' M' h' F' s' H' s1 w1 e1 => ?_, k.rt, k.bk, k.ct⟩⟩
  exact ⟨F', r', M', Z, s0.trans s1, w1, e1, h', k.mono s1⟩
theorem zss_one (h1 : PS X st1 (US X F0 t)) : PSs X [st1] (US X F0 t) := pss_one h1
theorem zs_pass : PS X (.Pass pos) (US X F0 zNext) := ps_imp ps_pass fun E s H h => by
  obtain ⟨F, rr, M, Z, s0, w, e, h, k⟩ := h
  exact k.nx rr M h F s H (Le.refl F) w e
theorem zs_break : PS X (.Break pos) (US X F0 zBreak) := ps_imp ps_break fun E s H h => by
  obtain ⟨F, rr, M, Z, s0, w, e, h, k⟩ := h
  exact k.bk rr M h F s H (Le.refl F) w e
theorem zs_continue : PS X (.Continue pos) (US X F0 zCont) := ps_imp ps_continue fun E s H h => by
  obtain ⟨F, rr, M, Z, s0, w, e, h, k⟩ := h
  exact k.ct rr M h F s H (Le.refl F) w e
theorem zs_expr (ha : PE X a (UE X F0 fa)) (hs : swapsWith a none pos.line X.env = pure false := by rfl) : PS X (.Expr a pos) (US X F0 (zDrop fa)) := ps_imp (ps_expr ha hs) fun E s H h => by
  obtain ⟨F, rr, M, Z, s0, w, e, h, k⟩ := h
  exact ⟨F, rr, M, _, s0, w, e, h, fun d M1 h1 F1 H1 v s1 w1 r1 => k.nx rr M1 h1 F1 s H1 s1 w1 (e.mono s1)⟩
theorem zs_ret (ha : PE X a (UE X F0 fa)) : PS X (.Return (some a) pos) (US X F0 (zRet fa)) := ps_imp (ps_ret ha) fun E s H h => by
  obtain ⟨F, rr, M, Z, s0, w, e, h, k⟩ := h
  exact ⟨F, rr, M, _, s0, w, e, h, k.rt⟩
theorem zs_retN : PS X (.Return none pos) (US X F0 zRetN) := ps_imp ps_retN fun E s H h => by
  obtain ⟨F, rr, M, Z, s0, w, e, h, k⟩ := h
  exact k.rt _ M h F H _ (Le.refl F) w .non
theorem zs_if {tc : ZT} {sa sb : List Stmt} (hc : PT X c (UT X F0 tc)) (ha : PSs X sa (US X F0 t)) (hb : PSs X sb (US X F0 u)) : PS X (.If c sa sb pos) (US X F0 (zIf tc t u)) := ps_imp (ps_if hc ha hb) fun E s H h => by
  obtain ⟨F, rr, M, Z, s0, w, e, h, k⟩ := h
  refine ⟨F, rr, M, _, s0, w, e, h, fun b M1 h1 F1 H1 s1 w1 => ?_⟩
  cases b with
  | true => exact ⟨F1, rr, M1, Z, s0.trans s1, w1, e.mono s1, h1, k.mono s1⟩
  | false => exact ⟨F1, rr, M1, Z, s0.trans s1, w1, e.mono s1, h1, k.mono s1⟩
theorem zs_set {i : Nat} {x : Str} {pos' : Pos} (hN : X.N.Nodup) (ha : PE X a (UE X F0 fa)) (hi : X.N[i]? = some x := by rfl) (hx : Loc X.env.scope x := by first | exact Or.inl rfl | exact Or.inr rfl)
    (hs : swapsWith a (some (.Name x pos')) pos.line X.env = pure false := by rfl) (hf : X.fn x = true ∨ X.env.scope.names.lookup x = some .local := by first | exact .inl rfl | exact .inr rfl | assumption) :
    PS X (.Assign [.Name x pos'] a pos) (US X F0 (zAsg fa (zgName i))) := ps_imp (ps_set (i := i) hN hi hx ha hs hf) fun E s H h => by
  obtain ⟨F, rr, M, Z, s0, w, e, h, k⟩ := h
  exact ⟨F, rr, M, _, s0, w, e, h, fun d M1 h1 F1 H1 v s1 w1 r1 => k.nx _ M1 h1 F1 _ H1 s1 w1 ((e.mono s1).set i r1)⟩
/-! targets -/
abbrev ZGs := List D → Env → Mh → (Env → Mh → Prop) → Prop
def upGs (K : PySem.W.Frag) (mg : Str → Option Value) (F0 : Fz) (g : ZGs) : TGs := fun vs s H Q => ∃ (F : Fz) (r : Env) (M : Mh) (ds : List D) (R : Env → Mh → Prop), Ge F0 F ∧ Wd K mg F H M ∧ RepE K mg F s r ∧ RepL K mg F vs ds ∧ g ds r M R ∧ Kn K mg F R Q
def zgNil : ZGs := fun ds r M Q => match ds with | [] => Q r M | _ => False
def zgCons (g : ZG) (gs : ZGs) : ZGs := fun ds r M Q => match ds with | d :: l => g d r M fun r' M' => gs l r' M' Q | [] => False
def zgTup (n : Nat) (gs : ZGs) : ZG := fun d r M Q => match d with | .tup ds => ds.length = n ∧ gs ds r M Q | _ => False
/-- x[y] = d -/
def dSet (x y d : D) (M : Mh) (k : Mh → Prop) : Prop := match x, y with
  | .ref p, .int n => (match M p with | some (.lst ds) => (match ixN ds.length n with | some j => k (mup M p (.lst (ds.set j d))) | none => False) | _ => False)
  | _, _ => False
def zgSub (o i : ZE) : ZG := fun d r M Q => o r M fun x M1 => i r M1 fun y M2 => dSet x y d M2 fun M3 => Q r M3
theorem zg_name {i : Nat} {x : Str} (hN : X.N.Nodup) (hi : X.N[i]? = some x := by rfl) (hx : Loc X.env.scope x := by first | exact Or.inl rfl | exact Or.inr rfl)
    (hf : X.fn x = true ∨ X.env.scope.names.lookup x = some .local := by first | exact .inl rfl | exact .inr rfl | assumption) : PG X (.Name x pos) (UG X F0 (zgName i)) := pg_imp (pg_name (i := i) hN hi hx hf) fun v s H Q h => by
  obtain ⟨F, rr, M, d, R, s0, w, e, rv, h, k⟩ := h
  exact k _ M h F _ H (Le.refl F) w (e.set i rv)
theorem zgs_nil : PGs X [] (upGs X.K X.mg F0 zgNil) := ⟨fun pins s r H vs us Q I rv h => by
  obtain ⟨F, rr, M, ds, R, s0, w, e, rl, h, k⟩ := h
  refine pgs_nil.run pins s r H vs us Q I rv ?_
  cases ds with
  | nil => cases rl; exact ⟨rfl, k _ M h F _ H (Le.refl F) w e⟩
  | cons _ _ => exact False.elim h⟩
theorem zgs_cons {es : List Expr} {g : ZG} {gs : ZGs} (h1 : PG X a (UG X F0 g)) (h2 : PGs X es (upGs X.K X.mg F0 gs)) (hs : (assignEach (a :: es) X.env).map (·.2) = assign a X.env :: (assignEach es X.env).map (·.2) := by rfl) : PGs X (a :: es) (upGs X.K X.mg F0 (zgCons g gs)) := ⟨fun pins s r H vs us Q I rv h => by
  obtain ⟨F, rr, M, ds, R, s0, w, e, rl, h, k⟩ := h
  refine (pgs_cons h1 h2 hs).run pins s r H vs us Q I rv ?_
  cases rl with
  | nil => exact False.elim h
  | cons q rl =>
    refine ⟨_, _, rfl, F, rr, M, _, _, s0, w, e, q, h, fun r' M' h' F' s' H' s1 w1 e1 => ⟨F', r', M', _, R, s0.trans s1, w1, e1, rl.mono s1, h', k.mono s1⟩⟩⟩
theorem zg_tup {es : List Expr} {k1 n : Nat} {gs : ZGs} (hc : X.calm = true) (h : PGs X es (upGs X.K X.mg F0 gs)) (hn : (assignEach es X.env).length = n := by rfl) (hst : (assignEach es X.env).findIdx? (·.1) = none := by rfl) : PG X (.Tuple es k1 pos) (UG X F0 (zgTup n gs)) :=
  pg_imp (pg_tup hc h hn hst) fun v s H Q h => by
  obtain ⟨F, rr, M, d, R, s0, w, e, rv, h, k⟩ := h
  cases d with
  | tup ds =>
    cases rv with
    | tup q l rl => exact ⟨_, _, rfl, same_sqT w.same q, by rw [rl.length]; exact h.1, F, rr, M, ds, R, s0, w, e, rl, h.2, k⟩
  | _ => exact False.elim h
theorem zg_sub {o i : Expr} {fo fi : ZE} (ho : PE X o (UE X F0 fo)) (hi : PE X i (UE X F0 fi))
    (ha : ∀ v, assign (.Subscript o i pos) X.env v = (do
      let ov ← holding [v] (eval o X.env)
      let iv ← holding [v, ov] (eval i X.env)
      standAt pos
      holding [v, ov, iv] (setItem ov iv v)
      release [v, ov, iv] []) := by intro _; rfl) : PG X (.Subscript o i pos) (UG X F0 (zgSub fo fi)) := pg_imp (pg_sub ho hi set_list ha) fun v s H Q h => by
  obtain ⟨F, rr, M, d, R, s0, w, e, rv, h, k⟩ := h
  refine ⟨F, rr, M, _, s0, w, e, h, fun x M1 h1 F1 H1 xv s1 w1 r1 => ⟨F1, rr, M1, _, s0.trans s1, w1, e.mono s1, h1, fun y M2 h2 F2 H2 yv s2 w2 r2 => ?_⟩⟩
  cases x with
  | ref p =>
    cases y with
    | int n =>
      cases r1; cases r2
      have h2' : (match M2 p with | some (.lst ds) => (match ixN ds.length n with | some j => R rr (mup M2 p (.lst (ds.set j d))) | none => False) | _ => False) := h2
      cases e1 : M2 p with
      | none => rw [e1] at h2'; exact h2'.elim
      | some m =>
        cases m with
        | lst ds =>
          rw [e1] at h2'
          obtain ⟨_, vs, hv, l, q⟩ := w2.mu p _ e1
          cases e2 : ixN ds.length n with
          | none => simp only [e2] at h2'
          | some j =>
            simp only [e2] at h2'
            refine ⟨p, vs, n, j, rfl, rfl, hv, by rw [q.length]; exact e2, k _ _ h2' F2 _ _ (s1.trans s2) (w2.write e1 (by intro z; cases z) (by intro z; cases z) ⟨vs.set j v, upd_same, by rw [List.length_set]; exact l, q.set (rv.mono (s1.trans s2)) j⟩) (e.mono (s1.trans s2))⟩
        | ins c fs => rw [e1] at h2'; exact h2'.elim
        | town => rw [e1] at h2'; exact h2'.elim
    | _ => exact False.elim h2
  | _ => exact False.elim h2
theorem zs_asg {tg : Expr} {g : ZG} (ha : PE X a (UE X F0 fa)) (hg : PG X tg (UG X F0 g)) (hs : swapsWithSole [tg] a pos.line X.env = pure false := by rfl) (hw : swappedStores [tg] a X.env = pure none := by rfl)
    (h1 : (assignEach [tg] X.env).map (·.2) = [assign tg X.env] := by rfl) : PS X (.Assign [tg] a pos) (US X F0 (zAsg fa g)) := ps_imp (ps_asg ha hg hs hw h1) fun E s H h => by
  obtain ⟨F, rr, M, Z, s0, w, e, h, k⟩ := h
  exact ⟨F, rr, M, _, s0, w, e, h, fun d M1 h1 F1 H1 v s1 w1 r1 => ⟨F1, rr, M1, d, _, s0.trans s1, w1, e.mono s1, r1, h1, k.nx.mono s1⟩⟩
/-- a, b = (x, y), plain locals -/
def on2 (ds : List D) (k : D → D → Prop) : Prop := match ds with | [x, y] => k x y | _ => False
def zPar (i j : Nat) (ta : ZA) : ZS := fun E r M => ta r M fun ds M1 => on2 ds fun x y => E.nx (st (st r i (some x)) j (some y)) M1
theorem zs_par {i j : Nat} {x y : Str} {ta : ZA} {px py pt : Pos} {kt k2 : Nat} {pt2 : Pos} (hc : X.calm = true) (hN : X.N.Nodup) (ha : PA X [a, b] (UA X F0 ta))
    (hw : swappedStores [.Tuple [.Name x px, .Name y py] kt pt] (.Tuple [a, b] k2 pt2) X.env = pure (some [x, y])) (hi : X.N[i]? = some x := by rfl) (hj : X.N[j]? = some y := by rfl) (hij : i ≠ j := by decide)
    (hx : X.env.scope.names.lookup x = some .local := by rfl) (hy : X.env.scope.names.lookup y = some .local := by rfl)
    (hs : swapsWithSole [.Tuple [.Name x px, .Name y py] kt pt] (.Tuple [a, b] k2 pt2) pos.line X.env = pure false := by rfl) :
    PS X (.Assign [.Tuple [.Name x px, .Name y py] kt pt] (.Tuple [a, b] k2 pt2) pos) (US X F0 (zPar i j ta)) := ps_imp (ps_par (i := i) (j := j) hc hN hi hj hij hx hy ha hw hs) fun E s H h => by
  obtain ⟨F, rr, M, Z, s0, w, e, h, k⟩ := h
  refine ⟨F, rr, M, _, s0, w, e, h, fun ds M1 h1 F1 H1 vs s1 w1 r1 => ?_⟩
  cases r1 with
  | nil => exact False.elim h1
  | cons q1 r1 =>
    cases r1 with
    | nil => exact False.elim h1
    | cons q2 r1 =>
      cases r1 with
      | nil => exact ⟨_, _, rfl, k.nx _ M1 h1 F1 _ H1 s1 w1 (((e.mono s1).set i q1).set j q2)⟩
      | cons _ _ => exact False.elim h1
end
end Zl

/-! Zl4: loops, comprehensions -/
namespace Zl
open PySem L2
/-- a walked list that may change must stay as it was -/
abbrev Ck := Option (Addr × List D)
def zck (c : Ck) (M : Mh) (P : Prop) : Prop := match c with
  | none => P
  | some (p, ds) => M p = some (.lst ds) ∧ P
def ckOk (c : Ck) (M : Mh) : Prop := match c with
  | none => True
  | some (p, ds) => M p = some (.lst ds)
theorem zck_out {c : Ck} {M : Mh} {P : Prop} (h : zck c M P) : ckOk c M ∧ P := by
  cases c with
  | none => exact ⟨trivial, h⟩
  | some x => exact h
@[simp] theorem zck_none {M : Mh} {P : Prop} : zck none M P = P := rfl
abbrev ZI := Env → Mh → (List D → Ck → Mh → Prop) → Prop
/-- the iterator J walks ds -/
def ItZ (K : PySem.W.Frag) (mg : Str → Option Value) (F : Fz) (J : It) (ds : List D) (c : Ck) : Prop := ∀ (F1 : Fz) (H1 : Hp) (M1 : Mh), Same F.f F1.f → Wd K mg F1 H1 M1 → ckOk c M1 →
  (∀ (i : Nat) (d : D), ds[i]? = some d → J.go i H1 ∧ ∀ x H2, J.yld i H1 x H2 → ∃ F2, Le F1 F2 ∧ Wd K mg F2 H2 M1 ∧ Rep K mg F2 x d) ∧ J.stop ds.length H1
def upI (K : PySem.W.Frag) (mg : Str → Option Value) (F0 : Fz) (zi : ZI) : TI := fun s H R => ∃ (F : Fz) (r : Env) (M : Mh) (RR : List D → Ck → Mh → Prop), Ge F0 F ∧ Wd K mg F H M ∧ RepE K mg F s r ∧ zi r M RR ∧
  ∀ ds c M', RR ds c M' → ∀ F' H' J, Le F F' → Wd K mg F' H' M' → ItZ K mg F' J ds c → ds.length ≤ sizeLine → R J H'
def onLst (d : D) (M : Mh) (k : List D → Ck → Prop) : Prop := match d with
  | .lst ds => k ds none
  | .ref p => (match M p with | some (.lst ds) => k ds (some (p, ds)) | _ => False)
  | _ => False
def onTup (d : D) (k : List D → Prop) : Prop := match d with | .tup ds => k ds | _ => False
def onStr (d : D) (k : Str → Prop) : Prop := match d with | .str s => k s | _ => False
def onI1 (ds : List D) (k : Int → Prop) : Prop := match ds with | [.int i] => k i | _ => False
def onI2 (ds : List D) (k : Int → Int → Prop) : Prop := match ds with | [.int i, .int j] => k i j | _ => False
def ziList (a : ZE) : ZI := fun r M Q => a r M fun d M1 => onLst d M1 fun ds c => Q ds c M1
def ziTup (a : ZE) : ZI := fun r M Q => a r M fun d M1 => onTup d fun ds => Q ds none M1
def charsD (s : Str) : List D := s.cps.toList.map fun c => .str ⟨#[c]⟩
def ziStr (a : ZE) : ZI := fun r M Q => a r M fun d M1 => onStr d fun s => Q (charsD s) none M1
/-- lo, lo + c, .. -/
def rangeD (lo c : Int) : Nat → List D
  | 0 => []
  | n + 1 => .int lo :: rangeD (lo + c) c n
def ziRange (ta : ZA) : ZI := fun r M Q => ta r M fun ds M1 => onI1 ds fun j => -(2 ^ 62) ≤ j ∧ j ≤ 16777216 ∧ Q (rangeD 0 1 j.toNat) none M1
def ziRange2 (ta : ZA) : ZI := fun r M Q => ta r M fun ds M1 => onI2 ds fun i j => -(2 ^ 62) ≤ i ∧ i < 2 ^ 62 ∧ -(2 ^ 62) ≤ j ∧ j < 2 ^ 62 ∧ j - i ≤ 16777216 ∧ Q (rangeD i 1 (j - i).toNat) none M1
def ziRange3 (ta : ZA) : ZI := fun r M Q => ta r M fun ds M1 => match ds with
  | [.int i, .int j, .int s] => ∃ n, RgC i j s n ∧ n ≤ 16777216 ∧ Q (rangeD i s n) none M1
  | _ => False
def enumD (i : Nat) : List D → List D
  | [] => []
  | d :: r => .tup [.int (i : Nat), d] :: enumD (i + 1) r
def ziEnum (ta : ZA) : ZI := fun r M Q => ta r M fun ds M1 => match ds with
  | [.lst ds] => Q (enumD 0 ds) none M1
  | _ => False
theorem rangeD_get : ∀ (n : Nat) (lo c : Int) (i : Nat) (d : D), (rangeD lo c n)[i]? = some d → i < n ∧ d = .int (lo + (i : Nat) * c)
  | 0, _, _, _, _, h => by simp [rangeD] at h
  | n + 1, lo, c, 0, d, h => by
    simp [rangeD] at h; subst h
    exact ⟨Nat.succ_pos _, by simp⟩
  | n + 1, lo, c, i + 1, d, h => by
    have h' : (rangeD (lo + c) c n)[i]? = some d := by simpa [rangeD] using h
    obtain ⟨h1, h2⟩ := rangeD_get n (lo + c) c i d h'
    refine ⟨Nat.succ_lt_succ h1, ?_⟩
    rw [h2, Int.natCast_add, Int.add_mul]
    congr 1
    simp only [Int.natCast_one, Int.one_mul]
    omega
theorem rangeD_len : ∀ (n : Nat) (lo c : Int), (rangeD lo c n).length = n
  | 0, _, _ => rfl
  | n + 1, lo, c => congrArg (· + 1) (rangeD_len n (lo + c) c)
theorem enumD_get : ∀ (ds : List D) (k i : Nat) (d : D), (enumD k ds)[i]? = some d → ∃ e, ds[i]? = some e ∧ d = .tup [.int ((k + i : Nat) : Int), e]
  | [], _, _, _, h => by simp [enumD] at h
  | e :: r, k, 0, d, h => by
    simp [enumD] at h; subst h
    exact ⟨e, rfl, rfl⟩
  | e :: r, k, i + 1, d, h => by
    have h' : (enumD (k + 1) r)[i]? = some d := by simpa [enumD] using h
    obtain ⟨x, h1, h2⟩ := enumD_get r (k + 1) i d h'
    refine ⟨x, by simpa using h1, ?_⟩
    rw [h2, show k + 1 + i = k + (i + 1) by omega]
theorem enumD_len : ∀ (ds : List D) (k : Nat), (enumD k ds).length = ds.length
  | [], _ => rfl
  | _ :: r, k => congrArg (· + 1) (enumD_len r (k + 1))
section
variable {K : PySem.W.Frag} {mg : Str → Option Value} {F : Fz}
theorem it_at {F1 : Fz} {H1 : Hp} {M1 : Mh} {a : Addr} {vs : List V} {ds : List D} (w : Wd K mg F1 H1 M1) (e : H1 a = some (.lst vs)) (r : RepL K mg F1 vs ds) :
    (∀ (i : Nat) (d : D), ds[i]? = some d → (Itl K a).go i H1 ∧ ∀ x H2, (Itl K a).yld i H1 x H2 → ∃ F2, Le F1 F2 ∧ Wd K mg F2 H2 M1 ∧ Rep K mg F2 x d) ∧ (Itl K a).stop ds.length H1 := by
  refine ⟨fun i d hd => ?_, ⟨vs, SqL.of e, by rw [r.length]; exact Nat.le_refl _⟩⟩
  obtain ⟨v, hv, rv⟩ := r.get hd
  refine ⟨⟨vs, v, SqL.of e, hv⟩, fun x H2 ⟨h1, h2⟩ => ?_⟩
  subst h1
  have := h2 vs (SqL.of e)
  rw [hv] at this; cases this
  exact ⟨F1, Le.refl _, w, rv⟩
theorem itz_list {a : Addr} {vs : List V} {ds : List D} (q : F.f a = some (.lst vs)) (r : RepL K mg F vs ds) : ItZ K mg F (Itl K a) ds none := fun F1 H1 M1 s w ck => it_at w (w.sub _ _ (s _ _ q)) (r.monoF s)
theorem itz_ref {a : Addr} {ds : List D} : ItZ K mg F (Itl K a) ds (some (a, ds)) := fun F1 H1 M1 s w ck => by
  obtain ⟨_, vs, hv, _, rl⟩ := w.mu a _ ck
  exact it_at w hv rl
theorem itz_tup {a : Addr} {vs : List V} {ds : List D} (q : SqT K F.f a vs) (r : RepL K mg F vs ds) : ItZ K mg F (Itt K a) ds none := by
  intro F1 H1 M1 s w ck
  have e : SqT K H1 a vs := same_sqT w.same (same_sqT s q)
  refine ⟨fun i d hd => ?_, ⟨vs, e, by rw [r.length]; exact Nat.le_refl _⟩⟩
  obtain ⟨v, hv, rv⟩ := r.get hd
  refine ⟨⟨vs, v, e, hv⟩, fun x H2 ⟨h1, h2⟩ => ?_⟩
  subst h1
  have := h2 vs e
  rw [hv] at this; cases this
  exact ⟨F1, Le.refl _, w, rv.monoF s⟩
theorem itz_range {lo c : Int} {n : Nat} : ItZ K mg F (Itc lo c n) (rangeD lo c n) none := by
  intro F1 H1 M1 s w ck
  refine ⟨fun i d hd => ?_, by show n ≤ _; rw [rangeD_len]; exact Nat.le_refl _⟩
  obtain ⟨h1, h2⟩ := rangeD_get n lo c i d hd
  refine ⟨h1, fun x H2 ⟨e1, e2⟩ => ?_⟩
  subst e1 e2 h2
  exact ⟨F1, Le.refl _, w, .int _⟩
theorem itz_range1 {lo : Int} {n : Nat} : ItZ K mg F (Itr lo n) (rangeD lo 1 n) none := by
  intro F1 H1 M1 s w ck
  refine ⟨fun i d hd => ?_, by show n ≤ _; rw [rangeD_len]; exact Nat.le_refl _⟩
  obtain ⟨h1, h2⟩ := rangeD_get n lo 1 i d hd
  refine ⟨h1, fun x H2 ⟨e1, e2⟩ => ?_⟩
  subst e1 e2 h2
  rw [Int.mul_one]
  exact ⟨F1, Le.refl _, w, .int _⟩
theorem itz_str {z : Str} (h : PyData.strOk z = true) : ItZ K mg F (Its z) (charsD z) none := by
  intro F1 H1 M1 s w ck
  refine ⟨fun i d hd => ?_, by show z.cps.size ≤ _; unfold charsD; rw [List.length_map, Array.length_toList]; exact Nat.le_refl _⟩
  unfold charsD at hd
  rw [List.getElem?_map] at hd
  cases e : z.cps.toList[i]? with
  | none => rw [e] at hd; cases hd
  | some c =>
    rw [e] at hd
    have hd' := Option.some.inj hd
    have hi : i < z.cps.size := by
      have := (List.getElem?_eq_some_iff.mp e).1
      rwa [Array.length_toList] at this
    refine ⟨hi, fun x H2 ⟨e1, c', e2, e3⟩ => ?_⟩
    have ec : c' = c := by
      rw [← Array.getElem?_toList, e] at e2
      exact (Option.some.inj e2).symm
    subst e1 e3 ec
    rw [← hd']
    refine ⟨F1, Le.refl _, w, .str ?_ (by show 1 ≤ sizeLine; decide)⟩
    unfold PyData.strOk at *
    rw [← Array.all_toList] at h ⊢
    have := List.all_eq_true.mp h c' (List.mem_of_getElem? e)
    simpa using this
theorem itz_enum {a : Addr} {vs : List V} {ds : List D} (e0 : F.f a = some (.lst vs)) (r : RepL K mg F vs ds) : ItZ K mg F (Ite K a) (enumD 0 ds) none := by
  intro F1 H1 M1 s w ck
  have e := w.sub _ _ (s _ _ e0)
  refine ⟨fun i d hd => ?_, ⟨vs, SqL.of e, by rw [enumD_len, r.length]; exact Nat.le_refl _⟩⟩
  obtain ⟨x, h1, h2⟩ := enumD_get ds 0 i d hd
  obtain ⟨v, hv, rv⟩ := r.get h1
  refine ⟨⟨vs, v, SqL.of e, hv⟩, fun y H2 ⟨T, x', e1, e2, e3, e4⟩ => ?_⟩
  have := e4 vs (SqL.of e)
  rw [hv] at this; cases this
  subst e1 e3 h2
  obtain ⟨s1, w1⟩ := w.laidF (o := .tup [.int (i : Nat), v]) e2
  refine ⟨_, s1, w1, .tup (SqT.of upd_same) (by show 2 ≤ sizeLine; decide) ?_⟩
  rw [Nat.zero_add]
  exact .cons (.int _) (.cons ((rv.monoF s).mono s1) .nil)
end
section
variable {X : Cx} {F0 : Fz} {tg a b c : Expr} {fa fb fc : ZE} {pos p : Pos}
theorem pi_imp {iter : Expr} {w w' : TI} (h : PI X tg iter w) (i : ∀ s H R, w' s H R → w s H R) : PI X tg iter w' := ⟨fun pins s r H R I q => h.run pins s r H R I (i _ _ _ q)⟩
theorem zi_list (ha : PE X a (UE X F0 fa)) : PI X tg a (upI X.K X.mg F0 (ziList fa)) := pi_imp (pi_list ha) fun s H R h => by
  obtain ⟨F, rr, M, RR, s0, w, e, h, k⟩ := h
  refine ⟨F, rr, M, _, s0, w, e, h, fun d M1 h1 F1 H1 v s1 w1 r1 => ?_⟩
  cases d with
  | lst ds =>
    cases r1 with
    | lst q l rl => exact ⟨_, rfl, ⟨_, SqL.of (w1.sub _ _ q)⟩, k _ _ M1 h1 F1 H1 _ s1 w1 (itz_list q rl) (by rw [← rl.length]; exact l)⟩
  | ref p =>
    cases r1
    have h1' : (match M1 p with | some (.lst ds) => RR ds (some (p, ds)) M1 | _ => False) := h1
    cases e1 : M1 p with
    | none => rw [e1] at h1'; exact h1'.elim
    | some m =>
      cases m with
      | lst ds =>
        rw [e1] at h1'
        obtain ⟨_, vs, hv, l, rl⟩ := w1.mu p _ e1
        exact ⟨p, rfl, ⟨_, SqL.of hv⟩, k _ _ M1 h1' F1 H1 _ s1 w1 itz_ref (by rw [← rl.length]; exact l)⟩
      | ins c fs => rw [e1] at h1'; exact h1'.elim
      | town => rw [e1] at h1'; exact h1'.elim
  | _ => exact False.elim h1
theorem zi_tup (ha : PE X a (UE X F0 fa)) : PI X tg a (upI X.K X.mg F0 (ziTup fa)) := pi_imp (pi_tup ha) fun s H R h => by
  obtain ⟨F, rr, M, RR, s0, w, e, h, k⟩ := h
  refine ⟨F, rr, M, _, s0, w, e, h, fun d M1 h1 F1 H1 v s1 w1 r1 => ?_⟩
  cases d with
  | tup ds =>
    cases r1 with
    | tup q l rl => exact ⟨_, rfl, ⟨_, same_sqT w1.same q⟩, k _ _ M1 h1 F1 H1 _ s1 w1 (itz_tup q rl) (by rw [← rl.length]; exact l)⟩
  | _ => exact False.elim h1
theorem zi_str (ha : PE X a (UE X F0 fa)) : PI X tg a (upI X.K X.mg F0 (ziStr fa)) := pi_imp (pi_str ha) fun s H R h => by
  obtain ⟨F, rr, M, RR, s0, w, e, h, k⟩ := h
  refine ⟨F, rr, M, _, s0, w, e, h, fun d M1 h1 F1 H1 v s1 w1 r1 => ?_⟩
  cases d with
  | str z =>
    cases r1 with
    | str o1 o2 => exact ⟨_, rfl, k _ _ M1 h1 F1 H1 _ s1 w1 (itz_str o1) (by unfold charsD; rw [List.length_map, Array.length_toList]; exact o2)⟩
  | _ => exact False.elim h1
theorem zi_range1 {ta : ZA} (hm : X.mg "range" = none) (ha : PA X [a] (UA X F0 ta)) (hg : Gl X "range" := by rfl) (hs : starEach [a] X.env = [(false, eval a X.env)] := by rfl) : PI X tg (.Call (.Name "range" p) [a] [] pos) (upI X.K X.mg F0 (ziRange ta)) :=
  pi_imp (pi_range1 hg hm ha hs) fun s H R h => by
  obtain ⟨F, rr, M, RR, s0, w, e, h, k⟩ := h
  refine ⟨F, rr, M, _, s0, w, e, h, fun ds M1 h1 F1 H1 v s1 w1 r1 => ?_⟩
  try unfold onI1 at h1
  try unfold onI2 at h1
  split at h1
  · cases r1 with
    | cons q r1 => cases r1; cases q; exact ⟨_, rfl, h1.1, by have := h1.2.1; omega, k _ _ M1 h1.2.2 F1 H1 _ s1 w1 itz_range1 (by rw [rangeD_len, sizeLine_eq]; have := h1.2.1; omega)⟩
  · exact h1.elim
theorem zi_range2 {ta : ZA} (hm : X.mg "range" = none) (ha : PA X [a, b] (UA X F0 ta)) (hg : Gl X "range" := by rfl) (hs : starEach [a, b] X.env = [(false, eval a X.env), (false, eval b X.env)] := by rfl) (hs2 : starEach [b] X.env = [(false, eval b X.env)] := by rfl) :
    PI X tg (.Call (.Name "range" p) [a, b] [] pos) (upI X.K X.mg F0 (ziRange2 ta)) := pi_imp (pi_range2 hg hm ha hs hs2) fun s H R h => by
  obtain ⟨F, rr, M, RR, s0, w, e, h, k⟩ := h
  refine ⟨F, rr, M, _, s0, w, e, h, fun ds M1 h1 F1 H1 v s1 w1 r1 => ?_⟩
  try unfold onI1 at h1
  try unfold onI2 at h1
  split at h1
  · cases r1 with
    | cons q r1 =>
      cases r1 with
      | cons q2 r1 => cases r1; cases q; cases q2; exact ⟨_, _, rfl, ⟨h1.1, h1.2.1, h1.2.2.1, h1.2.2.2.1⟩, k _ _ M1 h1.2.2.2.2.2 F1 H1 _ s1 w1 itz_range1 (by rw [rangeD_len, sizeLine_eq]; have := h1.2.2.2.2.1; omega)⟩
  · exact h1.elim
theorem zi_range3 {ta : ZA} (hm : X.mg "range" = none) (ha : PA X [a, b, c] (UA X F0 ta)) (hg : Gl X "range" := by rfl) (he : starEach [a, b, c] X.env = (false, eval a X.env) :: starEach [b, c] X.env := by rfl) (hpl : (backTo pos (starEach [b, c] X.env)).any (·.1) = false := by rfl) :
    PI X tg (.Call (.Name "range" p) [a, b, c] [] pos) (upI X.K X.mg F0 (ziRange3 ta)) := pi_imp (pi_range3 hg hm ha he hpl) fun s H R h => by
  obtain ⟨F, rr, M, RR, s0, w, e, h, k⟩ := h
  refine ⟨F, rr, M, _, s0, w, e, h, fun ds M1 h1 F1 H1 v s1 w1 r1 => ?_⟩
  try unfold onI1 at h1
  try unfold onI2 at h1
  split at h1
  · cases r1 with
    | cons q r1 =>
      cases r1 with
      | cons q2 r1 =>
        cases r1 with
        | cons q3 r1 => cases r1; cases q; cases q2; cases q3; obtain ⟨n, h4, h6, h5⟩ := h1; exact ⟨_, _, _, n, rfl, h4, k _ _ M1 h5 F1 H1 _ s1 w1 itz_range (by rw [rangeD_len, sizeLine_eq]; exact h6)⟩
  · exact h1.elim
theorem zi_enum {elts : List Expr} {kk : Nat} {tpos : Pos} {ta : ZA} (hm : X.mg "enumerate" = none) (ha : PA X [a] (UA X F0 ta)) (hg : Gl X "enumerate" := by rfl) (hs : starEach [a] X.env = [(false, eval a X.env)] := by rfl) :
    PI X (.Tuple elts kk tpos) (.Call (.Name "enumerate" p) [a] [] pos) (upI X.K X.mg F0 (ziEnum ta)) := pi_imp (pi_enum hg hm ha hs) fun s H R h => by
  obtain ⟨F, rr, M, RR, s0, w, e, h, k⟩ := h
  refine ⟨F, rr, M, _, s0, w, e, h, fun ds M1 h1 F1 H1 v s1 w1 r1 => ?_⟩
  try unfold onI1 at h1
  try unfold onI2 at h1
  split at h1
  · cases r1 with
    | cons q r1 =>
      cases r1
      cases q with
      | lst q l rl => exact ⟨_, _, rfl, SqL.of (w1.sub _ _ q), k _ _ M1 h1 F1 H1 _ s1 w1 (itz_enum q rl) (by rw [enumD_len, ← rl.length]; exact l)⟩
  · exact h1.elim
/-! ### for -/
def zLoop (c : Ck) (step : D → (Env → Mh → Prop) → Env → Mh → Prop) (nx : Env → Mh → Prop) : List D → Env → Mh → Prop
  | [], r, M => zck c M (nx r M)
  | d :: l, r, M => zck c M (step d (zLoop c step nx l) r M)
def zStep (g : ZG) (tb : ZS) (E : ZEnds) : D → (Env → Mh → Prop) → Env → Mh → Prop := fun d k r M => g d r M fun r' M' => tb { nx := k, rt := E.rt, bk := E.nx, ct := k } r' M'
def zFor (zi : ZI) (g : ZG) (tb : ZS) : ZS := fun E r M => zi r M fun ds c M1 => zLoop c (zStep g tb E) E.nx ds r M1
theorem drop_some {α : Type} {ds : List α} {i : Nat} {d : α} (h : ds[i]? = some d) : ds.drop i = d :: ds.drop (i + 1) := by
  obtain ⟨hi, e⟩ := List.getElem?_eq_some_iff.mp h
  rw [List.drop_eq_getElem_cons hi, e]
theorem zs_for {iter : Expr} {body : List Stmt} {zi : ZI} {g : ZG} {tb : ZS} (hp : PassesOwn (model X.prog X.w) X.A X.env X.xe) (hc : X.calm = true) (hi : PI X tg iter (upI X.K X.mg F0 zi)) (hg : PG X tg (UG X F0 g)) (hb : PSs X body (US X F0 tb))
    (hs : ∀ x, foldedSetIterable iter X.env x = pure x := by intro _; rfl) : PS X (.For tg iter body [] pos) (US X F0 (zFor zi g tb)) := ps_imp (ps_for hp hc hi hg hb hs) fun E s H h => by
  obtain ⟨F, rr, M, Z, s0, w, e, h, k⟩ := h
  refine ⟨F, rr, M, _, s0, w, e, h, fun ds c M1 h1 F1 H1 J s1 w1 itz _ => ?_⟩
  refine ⟨fun i m s H => i + m = ds.length ∧ ∃ F r M, Le F1 F ∧ Wd X.K X.mg F H M ∧ RepE X.K X.mg F s r ∧ zLoop c (zStep g tb Z) Z.nx (ds.drop i) r M,
    ⟨ds.length, by omega, F1, rr, M1, Le.refl _, w1, e.mono s1, h1⟩, ?_⟩
  rintro i m s' H' ⟨hm, F2, r2, M2, s2, w2, e2, hl⟩
  cases hd : ds[i]? with
  | none =>
    have hi : i = ds.length := by
      have := List.getElem?_eq_none_iff.mp hd
      omega
    rw [hi, List.drop_length] at hl
    obtain ⟨ck, hn⟩ := zck_out hl
    refine .inl ⟨?_, k.nx _ _ hn F2 _ _ (s1.trans s2) w2 e2⟩
    rw [hi]
    exact (itz F2 H' M2 s2.f w2 ck).2
  | some d =>
    have hlt := (List.getElem?_eq_some_iff.mp hd).1
    rw [drop_some hd] at hl
    obtain ⟨ck, hn⟩ := zck_out hl
    obtain ⟨go, yl⟩ := (itz F2 H' M2 s2.f w2 ck).1 i d hd
    refine .inr ⟨go, fun s H => ∃ F r M, Le F1 F ∧ Wd X.K X.mg F H M ∧ RepE X.K X.mg F s r ∧ zLoop c (zStep g tb Z) Z.nx (ds.drop (i + 1)) r M, fun s3 H3 h3 => ⟨ds.length - (i + 1), by omega, by omega, h3⟩, fun x H3 hy => ?_⟩
    obtain ⟨F3, s3, w3, rx⟩ := yl x H3 hy
    refine ⟨F3, r2, M2, d, _, (s0.trans s1).trans (s2.trans s3), w3, e2.mono s3, rx, hn, fun r4 M4 h4 F4 s4 H4 s5 w4 e4 => ?_⟩
    have ss := s2.trans (s3.trans s5)
    refine ⟨F4, r4, M4, _, (s0.trans s1).trans ss, w4, e4, h4, ⟨fun r5 M5 h5 F5 s5' H5 s6 w5 e5 => ⟨F5, r5, M5, ss.trans s6, w5, e5, h5⟩, k.rt.mono (s1.trans ss), k.nx.mono (s1.trans ss), fun r5 M5 h5 F5 s5' H5 s6 w5 e5 => ⟨F5, r5, M5, ss.trans s6, w5, e5, h5⟩⟩⟩
/-! ### while -/
def zWhileN (t : ZT) (tb : ZS) (E : ZEnds) : Nat → Env → Mh → Prop
  | 0 => fun _ _ => False
  | n + 1 => fun r M => t r M fun b M1 => bsel b (tb { nx := zWhileN t tb E n, rt := E.rt, bk := E.nx, ct := zWhileN t tb E n } r M1) (E.nx r M1)
def zWhile (t : ZT) (tb : ZS) : ZS := fun E r M => ∃ n, zWhileN t tb E n r M
theorem zs_while {body : List Stmt} {tc : ZT} {tb : ZS} (hp : PassesOwn (model X.prog X.w) X.A X.env X.xe) (hc : PT X c (UT X F0 tc)) (hb : PSs X body (US X F0 tb)) : PS X (.While c body [] pos) (US X F0 (zWhile tc tb)) := ps_imp (ps_while hp hc hb) fun E s H h => by
  obtain ⟨F, rr, M, Z, s0, w, e, ⟨n, h⟩, k⟩ := h
  refine ⟨fun m s H => ∃ F1 r M, Le F F1 ∧ Wd X.K X.mg F1 H M ∧ RepE X.K X.mg F1 s r ∧ zWhileN tc tb Z m r M, ⟨n, F, rr, M, Le.refl _, w, e, h⟩, ?_⟩
  rintro m s' H' ⟨F1, r1, M1, s1, w1, e1, h1⟩
  cases m with
  | zero => exact False.elim h1
  | succ m =>
    refine ⟨F1, r1, M1, _, s0.trans s1, w1, e1, h1, fun b M2 h2 F2 H2 s2 w2 => ?_⟩
    cases b with
    | false => 
      rw [if_neg Bool.false_ne_true]
      exact k.nx _ _ h2 F2 _ _ (s1.trans s2) w2 (e1.mono s2)
    | true =>
      rw [if_pos rfl]
      refine ⟨fun s H => ∃ F1 r M, Le F F1 ∧ Wd X.K X.mg F1 H M ∧ RepE X.K X.mg F1 s r ∧ zWhileN tc tb Z m r M, fun s3 H3 h3 => ⟨m, Nat.lt_succ_self m, h3⟩, F2, r1, M2, _, (s0.trans s1).trans s2, w2, e1.mono s2, h2, ?_⟩
      have ss := s1.trans s2
      exact ⟨fun r5 M5 h5 F5 s5 H5 s6 w5 e5 => ⟨F5, r5, M5, ss.trans s6, w5, e5, h5⟩, k.rt.mono ss, k.nx.mono ss, fun r5 M5 h5 F5 s5 H5 s6 w5 e5 => ⟨F5, r5, M5, ss.trans s6, w5, e5, h5⟩⟩
/-! ### list comprehensions -/
def zYes : ZT := fun _ M Q => Q true M
def zLcL (c : Ck) (step : D → Mh → (Option D → Mh → Prop) → Prop) (k : List D → Mh → Prop) : List D → List D → Mh → Prop
  | [], acc, M => zck c M (k acc M)
  | d :: l, acc, M => zck c M (step d M fun o M' => match o with
    | none => zLcL c step k l acc M'
    | some y => zLcL c step k l (acc ++ [y]) M')
def zLcS (g : ZG) (tt : ZT) (te : ZE) (r : Env) : D → Mh → (Option D → Mh → Prop) → Prop := fun d M Q => g d r M fun r' M' => tt r' M' fun b M1 => bsel b (te r' M1 fun y M2 => Q (some y) M2) (Q none M1)
def zLc (nb : Bool) (zi : ZI) (g : ZG) (tt : ZT) (te : ZE) (vs : List Nat) : ZE := fun r M Q => zi r M fun ds c M1 => zLcL c (zLcS g tt te (zwipe r vs)) (fun acc M2 => zNew nb acc M2 Q) ds [] M1
end
end Zl

/-! Zl5: list comprehensions -/
namespace Zl
open PySem L2
theorem wipe_in {s : St} {i : Nat} : ∀ {vs : List Nat}, i ∈ vs → (wipe s vs)[i]? = s[i]?.map fun _ => none
  | v :: vs, h => by
    show ((wipe s vs).set v none)[i]? = _
    by_cases hi : v = i
    · subst hi
      rw [List.getElem?_set_self', ]
      cases e : (wipe s vs)[v]? with
      | none =>
        have := List.getElem?_eq_none_iff.mp e
        rw [wipe_length] at this
        rw [List.getElem?_eq_none_iff.mpr this]; rfl
      | some x =>
        have := (List.getElem?_eq_some_iff.mp e).1
        rw [wipe_length] at this
        rw [List.getElem?_eq_getElem this]; rfl
    · rw [List.getElem?_set_ne hi]
      rcases List.mem_cons.mp h with e | h
      · exact absurd e.symm hi
      · exact wipe_in h
theorem wipe_set {s : St} {i : Nat} {x : Option V} {vs : List Nat} (h : i ∈ vs) : wipe (s.set i x) vs = wipe s vs := by
  apply List.ext_getElem?
  intro j
  by_cases hj : j ∈ vs
  · rw [wipe_in hj, wipe_in hj, List.getElem?_set]
    by_cases e : i = j
    · subst e
      rw [if_pos rfl]
      by_cases hl : i < s.length
      · rw [if_pos hl, List.getElem?_eq_getElem hl]; rfl
      · rw [if_neg hl, List.getElem?_eq_none_iff.mpr (by omega)]
    · rw [if_neg e]
  · rw [wipe_out hj, wipe_out hj, List.getElem?_set_ne (fun e : i = j => hj (e ▸ h))]
theorem wipe_wipe {s : St} {vs : List Nat} : wipe (wipe s vs) vs = wipe s vs := by
  apply List.ext_getElem?
  intro j
  by_cases hj : j ∈ vs
  · rw [wipe_in hj, wipe_in hj]
    cases s[j]? <;> rfl
  · rw [wipe_out hj]
section
variable {K : PySem.W.Frag} {mg : Str → Option Value} {F : Fz} {H : Hp} {M : Mh}
theorem Wd.unhideM {a : Addr} {vs : List V} {ds : List D} {u : Hp} (w : Wd K mg F H M) (h : F.u a = some (.lst vs)) (l : vs.length ≤ sizeLine) (q : RepL K mg F vs ds) (hu : Same u F.u) (ha : u a = none) : Wd K mg ⟨F.f, u⟩ H (mup M a (.lst ds)) := by
  obtain ⟨h0, f0, m0⟩ := w.un a _ h
  refine ⟨w.sub, fun b o e => ?_, fun b m e => ?_⟩
  · have hb : b ≠ a := ne_of_none (show u b = some o from e) ha
    obtain ⟨q1, q2, q3⟩ := w.un b o (hu b o e)
    exact ⟨q1, q2, by rw [mup_ne hb]; exact q3⟩
  · by_cases hb : b = a
    · subst hb; rw [mup_same] at e; cases e
      exact ⟨f0, vs, h0, l, q.monoF (F := F) (F' := ⟨F.f, u⟩) (Same.refl _)⟩
    · rw [mup_ne hb] at e
      obtain ⟨q1, r⟩ := w.mu b m e
      refine ⟨q1, r.stay (F := F) (F' := ⟨F.f, u⟩) (Same.refl _) rfl (fun c _ hf hc hm => ⟨rfl, hf, hu.free hc, ?_⟩) fun t z => ?_⟩
      · rw [mup_ne (fun z => by rw [z, h] at hc; cases hc)]; exact hm
      · by_cases ht : t = a
        · subst ht; rw [mup_same] at z; cases z
        · rw [mup_ne ht] at z; exact z
theorem Wd.unhideF {a : Addr} {vs : List V} {u : Hp} (w : Wd K mg F H M) (h : F.u a = some (.lst vs)) (hu : Same u F.u) (ha : u a = none) : Wd K mg ⟨upd F.f a (.lst vs), u⟩ H M := by
  obtain ⟨h0, f0, m0⟩ := w.un a _ h
  refine ⟨fun b o e => ?_, fun b o e => ?_, fun b m e => ?_⟩
  · have e : upd F.f a (.lst vs) b = some o := e
    by_cases hb : b = a
    · subst hb; rw [upd_same] at e; cases e; exact h0
    · rw [upd_ne hb] at e; exact w.sub b o e
  · have hb : b ≠ a := ne_of_none (show u b = some o from e) ha
    obtain ⟨q1, q2, q3⟩ := w.un b o (hu b o e)
    exact ⟨q1, (upd_ne hb).trans q2, q3⟩
  · have hb : b ≠ a := ne_of_m e m0
    obtain ⟨q1, r⟩ := w.mu b m e
    refine ⟨(upd_ne hb).trans q1, r.stay (F := F) (F' := ⟨upd F.f a (.lst vs), u⟩) (same_upd f0) rfl (fun c _ hf hc hm => ⟨rfl, ?_, hu.free hc, hm⟩) fun t z => z⟩
    exact (upd_ne (fun z => by rw [z, h] at hc; cases hc)).trans hf
/-- a comprehension's target: what it stores it stores in its own slots -/
def TgOk (K : PySem.W.Frag) (mg : Str → Option Value) (g : TG) (zg : ZG) (vs : List Nat) : Prop := ∀ (F : Fz) (H : Hp) (M : Mh) (x : V) (d : D) (s : St) (r : Env) (Q : St → Hp → Prop) (R : Env → Mh → Prop), Wd K mg F H M → Rep K mg F x d → RepE K mg F s r → zg d r M R →
  (∀ r' s', R r' M → RepE K mg F s' r' → wipe s' vs = wipe s vs → Q s' H) → g x s H Q
theorem tg_name {i : Nat} {vs : List Nat} (h : i ∈ vs) : TgOk K mg (gName i) (zgName i) vs := fun F H M x d s r Q R w rx e z k => k _ _ z (e.set i rx) (wipe_set h)
def zgPair (i j : Nat) : ZG := zgTup 2 (zgCons (zgName i) (zgCons (zgName j) zgNil))
theorem tg_pair {i j : Nat} {vs : List Nat} (h : i ∈ vs) (h' : j ∈ vs) : TgOk K mg (gTup K 2 (gCons (gName i) (gCons (gName j) gNil))) (zgPair i j) vs := fun F H M x d s r Q R w rx e z k => by
  cases d with
  | tup ds =>
    cases rx with
    | tup q l rl =>
      obtain ⟨hl, z⟩ := (show ds.length = 2 ∧ zgCons (zgName i) (zgCons (zgName j) zgNil) ds r M R from z)
      cases rl with
      | nil => cases hl
      | cons a1 rl =>
        cases rl with
        | nil => cases hl
        | cons a2 rl =>
          cases rl with
          | nil =>
            refine ⟨_, _, rfl, same_sqT w.same q, rfl, _, _, rfl, _, _, rfl, rfl, k _ _ z ((e.set i a1).set j a2) ?_⟩
            rw [wipe_set h', wipe_set h]
          | cons _ _ => cases hl
  | _ => exact False.elim z
end
section
variable {X : Cx} {F0 : Fz} {tg elt iter : Expr} {ifs : List Expr} {scope : Scope} {own : List (Str × Nat)} {pos : Pos} {zi : ZI} {g : TG} {zg : ZG} {tt : ZT} {te : ZE}
theorem pts_imp {t t' : TT} (h : PTs X ifs t) (i : ∀ s H Q, t' s H Q → t s H Q) : PTs X ifs t' := ⟨fun pins s r H Q I q => h.run pins s r H Q I (i _ _ _ q)⟩
theorem zts_nil : PTs X [] (UT X F0 zYes) := pts_imp pts_nil fun s H Q h => by
  obtain ⟨F, rr, M, R, s0, w, e, h, k⟩ := h
  exact k true M h F H (Le.refl _) w
theorem zts_one {c : Expr} (h : PT X c (UT X F0 tt)) : PTs X [c] (UT X F0 tt) := pts_one h
theorem lc_low (nb : Bool) (ok : TgOk X.K X.mg g zg (own.map (·.2))) {s : St} {H : Hp} {Q : VK} (h : UE X F0 (zLc nb zi zg tt te (own.map (·.2))) s H Q) : tLc (upI X.K X.mg F0 zi) g (UT X F0 tt) (UE X F0 te) (own.map (·.2)) s H Q := by
  obtain ⟨F, rr, M, R, s0, w, e, h, k⟩ := h
  generalize own.map (·.2) = vs at *
  refine ⟨F, rr, M, _, s0, w, e, h, fun ds c M1 h1 F1 H1 J s1 w1 itz hlen Da hD => ?_⟩
  obtain ⟨_, _, u0⟩ := w1.free hD
  have e1 := e.mono s1
  refine ⟨fun i m H => i + m = ds.length ∧ ∃ (Fi : Fz) (Mi : Mh) (acc : List D) (xs : List V), Same F1.f Fi.f ∧ Fi.u = upd F1.u Da (.lst xs) ∧ Wd X.K X.mg Fi H Mi ∧ RepL X.K X.mg Fi xs acc ∧ acc.length ≤ i ∧
      zLcL c (zLcS zg tt te (zwipe rr vs)) (fun acc M2 => zNew nb acc M2 R) (ds.drop i) acc Mi, ⟨ds.length, by omega, ⟨F1.f, upd F1.u Da (.lst [])⟩, M1, [], [], Same.refl _, rfl, w1.hide hD, .nil, Nat.le_refl _, h1⟩, ?_⟩
  rintro i m H2 ⟨hm, Fi, Mi, acc, xs, sf, eu, wi, ra, la, hl⟩
  have uD : Fi.u Da = some (.lst xs) := by rw [eu]; exact upd_same
  have su : Same F1.u Fi.u := by rw [eu]; exact same_upd u0
  cases hd : ds[i]? with
  | none =>
    have hi : i = ds.length := by
      have := List.getElem?_eq_none_iff.mp hd
      omega
    rw [hi, List.drop_length] at hl
    obtain ⟨ck, hn⟩ := zck_out hl
    refine .inl ⟨by rw [hi]; exact (itz Fi H2 Mi sf wi ck).2, ?_⟩
    have lx : xs.length ≤ sizeLine := by rw [ra.length]; omega
    cases nb with
    | false =>
      have w3 := wi.unhideF uD su u0
      refine k _ _ hn ⟨upd Fi.f Da (.lst xs), F1.u⟩ _ _ (s1.trans ⟨?_, rfl⟩) w3 (.lst upd_same lx (ra.monoF ?_))
      · exact sf.trans (same_upd (wi.un Da _ uD).2.1)
      · exact same_upd (wi.un Da _ uD).2.1
    | true =>
      have m0 := (wi.un Da _ uD).2.2
      exact k _ _ (hn Da m0) ⟨Fi.f, F1.u⟩ _ _ (s1.trans ⟨sf, rfl⟩) (wi.unhideM uD lx ra su u0) (.ref Da)
  | some d =>
    have hlt := (List.getElem?_eq_some_iff.mp hd).1
    rw [drop_some hd] at hl
    obtain ⟨ck, hn⟩ := zck_out hl
    obtain ⟨go, yl⟩ := (itz Fi H2 Mi sf wi ck).1 i d hd
    refine .inr ⟨go, _, fun H' hN => ⟨ds.length - (i + 1), by omega, by omega, hN⟩, fun x H3 hy => ?_⟩
    obtain ⟨F3, s3, w3, rx⟩ := yl x H3 hy
    have e3 : RepE X.K X.mg F3 (wipe s vs) (zwipe rr vs) := by
      have q := e1.wipe vs
      exact ⟨q.1, fun j d' z => let ⟨v, a, b⟩ := q.2 j d' z; ⟨v, a, b.monoF (sf.trans s3.f)⟩⟩
    have g3 : Ge F0 F3 := ⟨(s0.trans s1).f.trans (sf.trans s3.f), by rw [s3.u]; exact (s0.trans s1).u.trans su⟩
    have u3 : F3.u = upd F1.u Da (.lst xs) := s3.u.trans eu
    refine ok F3 H3 Mi x d _ _ _ _ w3 rx e3 hn fun r4 s4 h4 e4 hw => ⟨hw.trans wipe_wipe, F3, r4, Mi, _, g3, w3, e4, h4, fun b M5 h5 F5 H5 s5 w5 => ?_⟩
    cases b with
    | false =>
      rw [if_neg Bool.false_ne_true]
      exact ⟨F5, M5, acc, xs, (sf.trans s3.f).trans s5.f, s5.u.trans u3, w5, ra.monoF (s3.trans s5).f, by omega, h5⟩
    | true =>
      rw [if_pos rfl]
      refine ⟨F5, r4, M5, _, g3.trans s5, w5, e4.mono s5, h5, fun y M6 h6 F6 H6 yv s6 w6 r6 => ?_⟩
      have u6 : F6.u = upd F1.u Da (.lst xs) := (s6.u.trans s5.u).trans u3
      have uD6 : F6.u Da = some (.lst xs) := by rw [u6]; exact upd_same
      refine ⟨xs, (w6.un Da _ uD6).1, by rw [ra.length]; omega, ⟨F6.f, upd F6.u Da (.lst (xs ++ [yv]))⟩, M6, acc ++ [y], xs ++ [yv], ((sf.trans s3.f).trans s5.f).trans s6.f, by rw [u6, upd_upd], w6.rehide uD6, ?_, by rw [List.length_append]; show acc.length + 1 ≤ i + 1; omega, h6⟩
      exact ((ra.monoF (F' := F6) ((s3.trans s5).trans s6).f).append (.cons r6 .nil)).monoF (F := F6) (F' := ⟨F6.f, upd F6.u Da (.lst (xs ++ [yv]))⟩) (Same.refl _)
theorem ze_lc (nb : Bool) (hc : X.calm = true) (hN : X.N.Nodup) (hi : PI X tg iter (upI X.K X.mg F0 zi)) (ok : BlkOk X.N X.env.scope scope own) (okg : TgOk X.K X.mg g zg (own.map (·.2)))
    (hg : ∀ (s : Shared) (H : Hp) (C : Addr) (cl : List (Str × Addr)) (fp : List Addr), PG (X.blk s H scope (compEnvC scope cl C X.env) fp) tg g) (ht : ∀ (s : Shared) (H : Hp) (C : Addr) (cl : List (Str × Addr)) (fp : List Addr), PTs (X.blk s H scope (compEnvC scope cl C X.env) fp) ifs (UT X F0 tt))
    (he : ∀ (s : Shared) (H : Hp) (C : Addr) (cl : List (Str × Addr)) (fp : List Addr), PE (X.blk s H scope (compEnvC scope cl C X.env) fp) elt (UE X F0 te)) (hs : ∀ x, foldedSetIterable iter X.env x = pure x := by intro _; rfl) :
    PE X (.ListComp elt [⟨tg, iter, ifs, 0⟩] scope pos) (UE X F0 (zLc nb zi zg tt te (own.map (·.2)))) := pe_imp (pe_lc hc hN hi ok hg ht he hs) fun s H Q h => lc_low nb okg h
theorem zs_setLc (nb : Bool) {i : Nat} {y : Str} {py spos : Pos} (hc : X.calm = true) (hN : X.N.Nodup) (hsw : swapsWith (.ListComp elt [⟨tg, iter, ifs, 0⟩] scope pos) (some (.Name y py)) spos.line X.env = pure true) (hi : PI X tg iter (upI X.K X.mg F0 zi)) (ok : BlkOk X.N X.env.scope scope own) (okg : TgOk X.K X.mg g zg (own.map (·.2)))
    (hg : ∀ (s : Shared) (H : Hp) (C : Addr) (cl : List (Str × Addr)) (fp : List Addr), PG (X.blk s H scope (compEnvC scope cl C X.env) fp) tg g) (ht : ∀ (s : Shared) (H : Hp) (C : Addr) (cl : List (Str × Addr)) (fp : List Addr), PTs (X.blk s H scope (compEnvC scope cl C X.env) fp) ifs (UT X F0 tt))
    (he : ∀ (s : Shared) (H : Hp) (C : Addr) (cl : List (Str × Addr)) (fp : List Addr), PE (X.blk s H scope (compEnvC scope cl C X.env) fp) elt (UE X F0 te)) (hy : X.N[i]? = some y := by rfl) (hyl : X.env.scope.names.lookup y = some .local := by rfl) (hs : ∀ x, foldedSetIterable iter X.env x = pure x := by intro _; rfl) :
    PS X (.Assign [.Name y py] (.ListComp elt [⟨tg, iter, ifs, 0⟩] scope pos) spos) (US X F0 (zAsg (zLc nb zi zg tt te (own.map (·.2))) (zgName i))) := ps_imp (ps_setLc (i := i) hc hN hy hyl hsw hi ok hg ht he hs) fun E s H h => by
  obtain ⟨F, rr, M, Z, s0, w, e, h, k⟩ := h
  exact lc_low nb okg ⟨F, rr, M, _, s0, w, e, h, fun d M1 h1 F1 H1 v s1 w1 r1 => k.nx _ M1 h1 F1 _ H1 s1 w1 ((e.mono s1).set i r1)⟩
end
end Zl

/-! Zl6: calls, defs, raising, built-in functions -/
namespace Zl
open PySem L2
/-! ### ghost steps -/
mutual
def frzD (p : Addr) (es : List D) : D → D
  | .lst ds => .lst (frzDs p es ds)
  | .tup ds => .tup (frzDs p es ds)
  | .ref a => if a = p then .lst es else .ref a
  | .non => .non
  | .bl b => .bl b
  | .int i => .int i
  | .str x => .str x
  | .dct => .dct
  | .exc c => .exc c
  | .scr ns => .scr ns
def frzDs (p : Addr) (es : List D) : List D → List D
  | [] => []
  | d :: r => frzD p es d :: frzDs p es r
end
inductive Gh : Mh → D → Mh → D → Prop
  | refl {M : Mh} {d : D} : Gh M d M d
  | drop {M M' : Mh} {d : D} : (∀ a m, M' a = some m → M a = some m) → Gh M d M' d
  | frz {M : Mh} {d : D} {p : Addr} {ds : List D} : M p = some (.lst ds) → Gh M d (mdel M p) (frzD p ds d)
  | trans {M M1 M2 : Mh} {d d1 d2 : D} : Gh M d M1 d1 → Gh M1 d1 M2 d2 → Gh M d M2 d2
/-- .. on the slots -/
inductive GhE : Mh → Env → Mh → Env → Prop
  | refl {M : Mh} {r : Env} : GhE M r M r
  | drop {M M' : Mh} {r : Env} : (∀ a m, M' a = some m → M a = some m) → GhE M r M' r
  | frz {M : Mh} {r : Env} {p : Addr} {ds : List D} : M p = some (.lst ds) → GhE M r (mdel M p) (r.map fun o => o.map (frzD p ds))
  | trans {M M1 M2 : Mh} {r r1 r2 : Env} : GhE M r M1 r1 → GhE M1 r1 M2 r2 → GhE M r M2 r2
/-- fewer things -/
def Less (M' M : Mh) : Prop := ∀ a m, M' a = some m → M a = some m
theorem Less.refl (M : Mh) : Less M M := fun _ _ h => h
section
variable {K : PySem.W.Frag} {mg : Str → Option Value} {F F' : Fz} {H : Hp}
mutual
theorem Rep.frz {p : Addr} {es : List D} (s : Le F F') (q : Rep K mg F' (.ref p) (.lst es)) : ∀ {v : V} {d : D}, Rep K mg F v d → Rep K mg F' v (frzD p es d)
  | _, _, .non => .non
  | _, _, .bl b => .bl b
  | _, _, .int i => .int i
  | _, _, .str h h' => .str h h'
  | _, _, .lst h l r => .lst (s.f _ _ h) l (RepL.frz s q r)
  | _, _, .tup h l r => .tup (same_sqT s.f h) l (RepL.frz s q r)
  | _, _, .dct h => .dct (s.f _ _ h)
  | _, _, .exc h h' h2 => .exc h (s.f _ _ h') fun dx z => let ⟨fs, q⟩ := h2 dx z; ⟨fs, s.f _ _ q⟩
  | _, _, .scr h l => .scr (s.f.seq h) l
  | _, _, .ref a => by
    unfold frzD
    by_cases e : a = p
    · rw [if_pos e, e]; exact q
    · rw [if_neg e]; exact .ref a
theorem RepL.frz {p : Addr} {es : List D} (s : Le F F') (q : Rep K mg F' (.ref p) (.lst es)) : ∀ {vs : List V} {ds : List D}, RepL K mg F vs ds → RepL K mg F' vs (frzDs p es ds)
  | _, _, .nil => .nil
  | _, _, .cons h t => .cons (Rep.frz s q h) (RepL.frz s q t)
end
theorem Gh.sound {M M' : Mh} {d d' : D} (g : Gh M d M' d') : ∀ {F : Fz} {v : V}, Wd K mg F H M → Rep K mg F v d → ∃ F', Le F F' ∧ Wd K mg F' H M' ∧ Rep K mg F' v d' := by
  induction g with
  | refl => intro F v w r; exact ⟨F, Le.refl _, w, r⟩
  | drop h => intro F v w r; exact ⟨F, Le.refl _, w.drop h, r⟩
  | frz h =>
    intro F v w r
    obtain ⟨F', s, w', q⟩ := w.freeze h
    exact ⟨F', s, w', Rep.frz s q r⟩
  | trans _ _ ih1 ih2 =>
    intro F v w r
    obtain ⟨F1, s1, w1, r1⟩ := ih1 w r
    obtain ⟨F2, s2, w2, r2⟩ := ih2 w1 r1
    exact ⟨F2, s1.trans s2, w2, r2⟩
theorem gt_map (f : D → D) : ∀ (r : Env) (i : Nat), gt (r.map fun o => o.map f) i = (gt r i).map f
  | [], _ => rfl
  | _ :: _, 0 => rfl
  | _ :: r, i + 1 => gt_map f r i
theorem GhE.sound {M M' : Mh} {r r' : Env} (g : GhE M r M' r') : ∀ {F : Fz} {s : St}, Wd K mg F H M → RepE K mg F s r → ∃ F', Le F F' ∧ Wd K mg F' H M' ∧ RepE K mg F' s r' := by
  induction g with
  | refl => intro F v w r; exact ⟨F, Le.refl _, w, r⟩
  | drop h => intro F v w r; exact ⟨F, Le.refl _, w.drop h, r⟩
  | frz h =>
    intro F v w r
    obtain ⟨F', s, w', q⟩ := w.freeze h
    refine ⟨F', s, w', by rw [r.1, List.length_map], fun i d e => ?_⟩
    rw [gt_map] at e
    obtain ⟨d0, e0, e1⟩ := Option.map_eq_some_iff.mp e
    obtain ⟨x, h1, h2⟩ := r.2 i d0 e0
    exact ⟨x, h1, by rw [← e1]; exact Rep.frz s q h2⟩
  | trans _ _ ih1 ih2 =>
    intro F v w r
    obtain ⟨F1, s1, w1, r1⟩ := ih1 w r
    obtain ⟨F2, s2, w2, r2⟩ := ih2 w1 r1
    exact ⟨F2, s1.trans s2, w2, r2⟩
end
/-- a ghost step ahead of a statement -/
def zGh (t : ZS) : ZS := fun E r M => ∃ r' M', GhE M r M' r' ∧ t E r' M'
theorem zs_gh {X : Cx} {F0 : Fz} {st1 : Stmt} {t : ZS} (h : PS X st1 (US X F0 t)) : PS X st1 (US X F0 (zGh t)) := ps_imp h fun E s H h => by
  obtain ⟨F, rr, M, Z, s0, w, e, ⟨r', M', g, h⟩, k⟩ := h
  obtain ⟨F', s1, w', e'⟩ := g.sound w e
  exact ⟨F', r', M', Z, s0.trans s1, w', e', h, k.mono s1⟩
/-! ### promises -/
/-- an exception's class and fields -/
def RepX (K : PySem.W.Frag) (mg : Str → Option Value) (F : Fz) (cls : Value) (d : Option Addr) (c : Str) (fs : List (Str × D)) : Prop := ∃ C, mg c = some (.ref C) ∧ cls = .ref C ∧
  ((fs = [] ∧ d = none) ∨ ∃ dx vs, fs ≠ [] ∧ d = some dx ∧ F.f dx = some (.xd ((fs.map (·.1)).zip vs)) ∧ RepL K mg F vs (fs.map (·.2)))
theorem RepX.monoF {K : PySem.W.Frag} {mg : Str → Option Value} {F F' : Fz} {cls : Value} {d : Option Addr} {c : Str} {fs : List (Str × D)} (s : Same F.f F'.f) (h : RepX K mg F cls d c fs) : RepX K mg F' cls d c fs := by
  obtain ⟨C, h1, h2, h3⟩ := h
  refine ⟨C, h1, h2, ?_⟩
  rcases h3 with h3 | ⟨dx, vs, z, a, b, c⟩
  · exact .inl h3
  · exact .inr ⟨dx, vs, z, a, s _ _ b, c.monoF s⟩
def Kx (K : PySem.W.Frag) (mg : Str → Option Value) (F : Fz) (RE : ZX) (E : XK) : Prop := ∀ c fs M', RE c fs M' → ∀ F' H' cls d, Le F F' → Wd K mg F' H' M' → RepX K mg F' cls d c fs → E cls d H'
def liftSp (K : PySem.W.Frag) (mg : Str → Option Value) (zs : ZSp) : Sp := fun vs H Q E => ∃ (F : Fz) (M : Mh) (ds : List D) (R : QZ) (RE : ZX), Wd K mg F H M ∧ RepL K mg F vs ds ∧ zs ds M R RE ∧ Kq K mg F R Q ∧ Kx K mg F RE E
/-- a wish and its reading -/
def Wok (K : PySem.W.Frag) (mg : Str → Option Value) (F0 : Fz) (W : WX) (zE : ZW) : Prop := ∀ c fs r M, zE c fs r M → ∀ F s H cls d, Ge F0 F → Wd K mg F H M → RepE K mg F s r → RepX K mg F cls d c fs → W cls d s H
theorem wok_def {K : PySem.W.Frag} {mg : Str → Option Value} {F0 : Fz} {RE : ZX} {E : XK} (k : Kx K mg F0 RE E) : Wok K mg F0 (fun cls d _ H => E cls d H) (fun c fs _ M => ∃ M', Less M' M ∧ RE c fs M') := by
  rintro c fs r M ⟨M', l, h⟩ F s H cls d g w e rx
  exact k c fs M' h ⟨F.f, F0.u⟩ H cls d ⟨g.f, rfl⟩ ((w.drop l).less g.u) (rx.monoF (F := F) (F' := ⟨F.f, F0.u⟩) (Same.refl _))
def zNoX : ZW := fun _ _ _ _ => False
theorem wok0 {K : PySem.W.Frag} {mg : Str → Option Value} {F0 : Fz} {W : WX} : Wok K mg F0 W zNoX := fun _ _ _ _ h => h.elim
section
variable {X : Cx} {F0 : Fz}
def zCall (zs : ZSp) (zE : ZW) (t : ZA) : ZE := fun r M Q => t r M fun ds M1 => zs ds M1 Q fun c fs M' => zE c fs r M'
theorem ze_call {f : Addr} {fd : FuncData} {ps : List Str} {k : Nat} {zs : ZSp} {zE : ZW} {W : WX} {x : Str} {a : Expr} {es : List Expr} {t : ZA} {p pos : Pos} (FO : FnOk X.prog X.w X.K X.mg X.base (L2.CX X.prog X.w) k f fd ps (liftSp X.K X.mg zs)) (hr : Room k X.A) (hm : X.mg x = some (.ref f))
    (hk : PySem.W.keepIn X.K (.ref f) = true) (hb : Binds X.K fd ps []) (tk : Takes X W) (wk : Wok X.K X.mg F0 W zE) (ha : PA X (a :: es) (UA X F0 t)) (hg : Gl X x := by rfl) (hdb : (x == ("__debug__" : Str)) = false := by decide)
    (he : starEach (a :: es) X.env = (false, eval a X.env) :: starEach es X.env := by rfl) (hpl : (backTo pos (starEach es X.env)).any (·.1) = false := by rfl) : PE X (.Call (.Name x p) (a :: es) [] pos) (UE X F0 (zCall zs zE t)) :=
  pe_imp (pe_callS FO hr hg hm hk hb (fun s => passAt tk s) ha hdb he hpl) fun s H Q h => by
  obtain ⟨F, rr, M, R, s0, w, e, h, k⟩ := h
  refine ⟨F, rr, M, _, s0, w, e, h, fun ds M1 h1 F1 H1 vs s1 w1 r1 => ⟨F1, M1, ds, R, _, w1, r1, h1, k.mono s1, fun c fs M' hx F' H' cls d s2 w2 rx => ?_⟩⟩
  exact wk c fs rr M' hx F' s H' cls d (s0.trans (s1.trans s2)) w2 (e.mono (s1.trans s2)) rx
theorem ze_call0 {f : Addr} {fd : FuncData} {ps : List Str} {k : Nat} {zs : ZSp} {zE : ZW} {x : Str} {p pos : Pos} (FO : FnOk X.prog X.w X.K X.mg X.base (L2.CX X.prog X.w) k f fd ps (liftSp X.K X.mg zs)) (hr : Room k X.A) (hm : X.mg x = some (.ref f))
    (hk : PySem.W.keepIn X.K (.ref f) = true) (hb : Binds X.K fd ps []) (hg : Gl X x := by rfl) (hdb : (x == ("__debug__" : Str)) = false := by decide) : PE X (.Call (.Name x p) [] [] pos) (UE X F0 (zCall zs zNoX zNil)) :=
  pe_imp (pe_call0 FO hr hg hm hk hb .nil passL hdb) fun s H Q h => by
  obtain ⟨F, rr, M, R, s0, w, e, h, k⟩ := h
  exact ⟨F, M, [], R, _, w, .nil, h, k, fun c fs M' hx => hx.elim⟩
end
/-! ### defs -/
def zEnd (R : QZ) : ZEnds := { nx := fun _ M => ∃ M', Less M' M ∧ R .non M', rt := fun d M => ∃ d' M', Gh M d M' d' ∧ R d' M' }
def zEnd0 (R : QZ) : ZEnds := { nx := fun _ M => R .non M, rt := R }
section
variable {P : Program} {w : World} {K : PySem.W.Frag} {mg : Str → Option Value} {base : Heap}
theorem gt_rep : ∀ (n i : Nat), gt (List.replicate n none) i = none
  | 0, _ => rfl
  | _ + 1, 0 => rfl
  | n + 1, i + 1 => gt_rep n i
theorem RepE.cons {F : Fz} {s : St} {r : Env} {v : V} {d : D} (e : RepE K mg F s r) (h : Rep K mg F v d) : RepE K mg F (some v :: s) (some d :: r) := by
  refine ⟨congrArg (· + 1) e.1, fun i x q => ?_⟩
  cases i with
  | zero => cases q; exact ⟨v, rfl, h⟩
  | succ i =>
    obtain ⟨u, h1, h2⟩ := e.2 i x q
    exact ⟨u, h1, h2⟩
theorem repE_start {F : Fz} (n : Nat) : ∀ {vs : List V} {ds : List D}, RepL K mg F vs ds → RepE K mg F (vs.map some ++ List.replicate n none) (ds.map some ++ List.replicate n none)
  | _, _, .nil => ⟨by simp, fun i d e => by
    have e' : gt (List.replicate n none) i = some d := e
    rw [gt_rep] at e'; cases e'⟩
  | _, _, .cons h t => (repE_start n t).cons h
theorem wok_def0 {F0 : Fz} {RE : ZX} {E : XK} (k : Kx K mg F0 RE E) : Wok K mg F0 (fun cls d _ H => E cls d H) (fun c fs _ M => RE c fs M) := by
  intro c fs r M h F s H cls d g w e rx
  exact k c fs M h ⟨F.f, F0.u⟩ H cls d ⟨g.f, rfl⟩ (w.less g.u) (rx.monoF (F := F) (F' := ⟨F.f, F0.u⟩) (Same.refl _))
/-- g: with ghost steps at the ends -/
def enB (g : Bool) (R : QZ) : ZEnds := match g with | true => zEnd R | false => zEnd0 R
def exB (g : Bool) (RE : ZX) : ZW := match g with | true => fun c fs _ M => ∃ M', Less M' M ∧ RE c fs M' | false => fun c fs _ M => RE c fs M
def zFn (g : Bool) (zb : ZW → ZS) (r : Env) (M : Mh) (Q : QZ) (E : ZX) : Prop := zb (exB g E) (enB g Q) r M
/-- THE RULE for a def: its body's derivation; the reading runs from the arguments -/
theorem z_ok (g : Bool) {x qual : Str} {st1 : Stmt} {f : Addr} {fd : FuncData} {N ps : List Str} {k n : Nat} {zs : ZSp} {zb : ZW → ZS} (FF : Fun K x qual st1 f fd) (S : FnScope N ps (defScope st1)) (hn : N.length - ps.length = n)
    (hz : ∀ ds M R RE, zs ds M R RE → ds.length = ps.length ∧ zFn g zb (ds.map some ++ List.replicate n none) M R RE)
    (hbody : ∀ (cdv : Value) (A : Around) (outer : List PySem.Env) (s : Shared) (H : Hp) (E : XK) (F0 : Fz) (zE : ZW), Room k (A.deeper (PyProof.Rows.envOfC qual (defScope st1) s.heap.objs.size f cdv)) → Wok K mg F0 (fun cls d _ H => E cls d H) zE →
      PSs (cxOf (L2.CX P w) P w K mg base N qual (defScope st1) f cdv A outer s H E) (defBody st1) (upS K mg F0 (zb zE))) : FnOk P w K mg base (L2.CX P w) (k + 1) f fd ps (liftSp K mg zs) := by
  refine FF.okX S (fun vs H Q E h => ?_) fun cdv A outer s H vs Q E hr h => ?_
  · obtain ⟨F, M, ds, R, RE, w, rl, h, _⟩ := h
    rw [rl.length]; exact (hz ds M R RE h).1
  · obtain ⟨F, M, ds, R, RE, w, rl, h, kq, kx⟩ := h
    obtain ⟨hl, hb⟩ := hz ds M R RE h
    have wk : Wok K mg F (fun cls d _ H => E cls d H) (exB g RE) := by
      cases g with
      | true => exact wok_def kx
      | false => exact wok_def0 kx
    refine ⟨_, hbody cdv A outer s H E F _ hr wk, F, _, M, enB g R, Ge.refl _, w, ?_, hb, ?_⟩
    · have q := repE_start (K := K) (mg := mg) n rl
      have e : L2.start N vs = vs.map some ++ List.replicate n none := by
        show vs.map some ++ List.replicate (N.length - vs.length) none = _
        rw [rl.length, hl, hn]
      rw [e]; exact q
    · cases g with
      | true =>
        refine ⟨fun r M' ⟨M2, l, h⟩ F' s' H' s1 w1 e1 => kq _ _ h F' H' _ s1 (w1.drop l) .non, fun d M' ⟨d', M2, g, h⟩ F' H' v s1 w1 r1 => ?_, fun _ _ h => h.elim, fun _ _ h => h.elim⟩
        obtain ⟨F2, s2, w2, r2⟩ := g.sound w1 r1
        exact kq _ _ h F2 H' v (s1.trans s2) w2 r2
      | false => exact ⟨fun r M' h F' s' H' s1 w1 e1 => kq _ _ h F' H' _ s1 w1 .non, kq, fun _ _ h => h.elim, fun _ _ h => h.elim⟩
end
/-! ### raising -/
section
variable {X : Cx} {F0 : Fz}
def zRaise (zE : ZW) (c : Str) : ZS := fun _ r M => zE c [] r M
theorem zs_raise {W : WX} {zE : ZW} {C : Addr} {bmB : List Value} {B newId initId : String} {x m : Str} {j : Nat} {p p2 pos pos2 : Pos} (hc : X.calm = true) (tk : Takes X W) (wk : Wok X.K X.mg F0 W zE) (FB : ExcBaseFacts B newId initId bmB) (q : PySem.W.excIn X.K C bmB newId = true) (gC : X.mg x = some (.ref C))
    (kC : PySem.W.keepIn X.K (.ref C) = true) (rz : Raises X (.ref C)) (hg : Gl X x := by rfl) (hdb : (x == ("__debug__" : Str)) = false := by decide) : PS X (.Raise (some (.Call (.Name x p) [.Constant (.str m) j p2] [] pos)) none pos2) (US X F0 (zRaise zE x)) :=
  ps_imp (ps_raise hc tk (pmk_own FB q gC kC rz hg hdb)) fun E s H h => by
  obtain ⟨F, rr, M, Z, s0, w, e, h, k⟩ := h
  exact wk x [] rr M h F s H _ _ s0 w e ⟨C, gC, rfl, .inl ⟨rfl, rfl⟩⟩
/-! ### built-in functions -/
def zCB (f : List D → Mh → QZ → Prop) (t : ZA) : ZE := fun r M Q => t r M fun ds M1 => f ds M1 Q
theorem up_cb {K : PySem.W.Frag} {mg : Str → Option Value} {r : List V → Hp → VK → Prop} {f : List D → Mh → QZ → Prop} {t : ZA} (sA : SndA K mg r f) {s : St} {H : Hp} {Q : VK} (h : upE K mg F0 (zCB f t) s H Q) : tCB r (upA K mg F0 t) s H Q := by
  obtain ⟨F, rr, M, R, s0, w, e, h, k⟩ := h
  exact ⟨F, rr, M, _, s0, w, e, h, fun ds M1 h1 F1 H1 vs s1 w1 r1 => sA F1 H1 M1 vs ds Q R w1 r1 h1 (k.mono s1)⟩
theorem ze_cb {r : List V → Hp → VK → Prop} {f : List D → Mh → QZ → Prop} {id : String} {x : Str} {a : Expr} {es : List Expr} {t : ZA} {p pos : Pos} (hc : CallR X (.builtin id) r) (sA : SndA X.K X.mg r f) (hm : X.mg x = none) (hv : bootBuiltins x = some (.builtin id)) (ha : PA X (a :: es) (UA X F0 t)) (hg : Gl X x := by rfl)
    (hn : x ≠ "__name__" := by decide) (hdb : (x == ("__debug__" : Str)) = false := by decide) (he : starEach (a :: es) X.env = (false, eval a X.env) :: starEach es X.env := by rfl) (hpl : (backTo pos (starEach es X.env)).any (·.1) = false := by rfl) : PE X (.Call (.Name x p) (a :: es) [] pos) (UE X F0 (zCB f t)) :=
  pe_imp (pe_callB hc hg hm hv ha hn hdb he hpl) fun _ _ _ h => up_cb sA h
theorem ze_ct {r : List V → Hp → VK → Prop} {f : List D → Mh → QZ → Prop} {T : String} {x : Str} {a : Expr} {es : List Expr} {t : ZA} {p pos : Pos} (hc : CallR X (.type T) r) (sA : SndA X.K X.mg r f) (hm : X.mg x = none) (hv : bootBuiltins x = some (.type T)) (ha : PA X (a :: es) (UA X F0 t)) (hg : Gl X x := by rfl)
    (hn : x ≠ "__name__" := by decide) (hdb : (x == ("__debug__" : Str)) = false := by decide) (he : starEach (a :: es) X.env = (false, eval a X.env) :: starEach es X.env := by rfl) (hpl : (backTo pos (starEach es X.env)).any (·.1) = false := by rfl) : PE X (.Call (.Name x p) (a :: es) [] pos) (UE X F0 (zCB f t)) :=
  pe_imp (pe_callTy hc hg hm hv ha hn hdb he hpl) fun _ _ _ h => up_cb sA h
end
section
variable {K : PySem.W.Frag} {mg : Str → Option Value}
def dLen (ds : List D) (M : Mh) (Q : QZ) : Prop := match ds with
  | [.str s] => Q (.int s.length) M
  | [x] => zLT M x fun l => Q (.int l.length) M
  | _ => False
theorem snd_len : SndA K mg (fun xs H Q => ∃ x n, xs = [x] ∧ LenV K x H n ∧ Q (.int n) H) dLen := by
  intro F H M xs ds Q R w rl h k
  cases rl with
  | nil => exact h.elim
  | cons r1 rl =>
    cases rl with
    | cons _ _ => exfalso; revert h; unfold dLen; split <;> first | (rename_i e; cases e) | exact id
    | nil =>
      rename_i x d
      have gen : (zLT M d fun l => R (.int l.length) M) → ∃ y n, [x] = [y] ∧ LenV K y H n ∧ Q (.int n) H := fun h => by
        obtain ⟨a, vs, es, rfl, e, l, rl, h⟩ := zLT_out w r1 h
        refine ⟨_, vs.length, rfl, ?_, ?_⟩
        · rcases e with e | e
          · exact .inl ⟨vs, e, rfl⟩
          · exact .inr ⟨vs, e, rfl⟩
        · rw [rl.length]; exact k _ _ h _ _ _ (Le.refl F) w (.int _)
      cases d with
      | str s =>
        cases r1 with
        | str o1 o2 => exact ⟨_, s.length, rfl, ⟨o2, rfl⟩, k _ _ h _ _ _ (Le.refl F) w (.int _)⟩
      | _ => exact gen h
/-! isinstance -/
def tyD (M : Mh) (d : D) : Option String := match d with
  | .non => some "NoneType"
  | .bl _ => some "bool"
  | .int _ => some "int"
  | .str _ => some "str"
  | .lst _ => some "list"
  | .tup _ => some "tuple"
  | .dct => some "dict"
  | .ref p => (match M p with | some (.lst _) => some "list" | _ => none)
  | _ => none
def isiB (t T : String) : Bool := t == T || (t == "bool" && T == "int")
def dIsi (T : String) (x : D) (M : Mh) (Q : QZ) : Prop := match tyD M x with
  | some t => Q (.bl (isiB t T)) M
  | none => False
theorem tyX_of {F : Fz} {H : Hp} {M : Mh} {v : V} {d : D} {t : String} (w : Wd K mg F H M) (r : Rep K mg F v d) (h : tyD M d = some t) : TyX K H v (.type t) ∧ t ∈ ["NoneType", "bool", "int", "str", "list", "tuple", "dict"] := by
  cases r with
  | non => cases h; exact ⟨.base .non, by decide⟩
  | bl b => cases h; exact ⟨.base (.bl b), by decide⟩
  | int i => cases h; exact ⟨.base (.int i), by decide⟩
  | str _ _ => cases h; exact ⟨.base (.str _), by decide⟩
  | lst e _ _ => cases h; exact ⟨.base (.lst (w.sub _ _ e)), by decide⟩
  | tup e _ _ =>
    cases h
    refine ⟨?_, by decide⟩
    rcases same_sqT w.same e with (e | ⟨o, e⟩) | ⟨o, its, n, e, c, _⟩
    · exact .base (.tup e)
    · exact .fTuple e
    · exact .kTuple e c
  | dct e => cases h; exact ⟨.base (.dK (w.sub _ _ e)), by decide⟩
  | exc _ _ _ => cases h
  | scr _ _ => cases h
  | ref p =>
    have h' : (match M p with | some (.lst _) => some "list" | _ => none) = some t := h
    cases e : M p with
    | none => rw [e] at h'; cases h'
    | some m =>
      cases m with
      | lst ds =>
        rw [e] at h'; cases h'
        obtain ⟨_, vs, hv, _⟩ := w.mu p _ e
        exact ⟨.base (.lst hv), by decide⟩
      | ins _ _ => rw [e] at h'; cases h'
      | town => rw [e] at h'; cases h'
end
section
variable {X : Cx} {F0 : Fz} {a : Expr} {fa : ZE} {p p2 pos : Pos}
theorem ze_isi {x : Str} {T : String} (ha : PE X a (UE X F0 fa)) (hm : X.mg "isinstance" = none) (hm2 : X.mg x = none) (hv2 : bootBuiltins x = some (.type T)) (hk : ["NoneType", "bool", "int", "str", "list", "tuple", "dict"].all (fun t => kitB t T == some (isiB t T)) = true := by decide +kernel)
    (hg : Gl X "isinstance" := by rfl) (hg2 : Gl X x := by rfl) (hn2 : x ≠ "__name__" := by decide) (hd2 : (x == ("__debug__" : Str)) = false := by decide)
    (he : starEach [a, .Name x p2] X.env = (false, eval a X.env) :: starEach [.Name x p2] X.env := by rfl) (he2 : starEach [.Name x p2] X.env = (false, eval (.Name x p2) X.env) :: starEach [] X.env := by rfl) (hpl : (backTo pos (starEach [.Name x p2] X.env)).any (·.1) = false := by rfl) :
    PE X (.Call (.Name "isinstance" p) [a, .Name x p2] [] pos) (UE X F0 (z1 (dIsi T) fa)) := by
  refine pe_imp (pe_callB call_isi hg hm (by decide +kernel) (pa_cons ha (pa_cons (pe_bltn (v := .ty T) hg2 hm2 hv2 rfl hn2 hd2) pa_nil he2) he) (by decide) (by decide) he hpl) fun s H Q h => ?_
  obtain ⟨F, rr, M, R, s0, w, e, h, k⟩ := h
  refine ⟨F, rr, M, _, s0, w, e, h, fun d M1 h1 F1 H1 v s1 w1 r1 => ?_⟩
  unfold dIsi at h1
  cases q : tyD M1 d with
  | none => rw [q] at h1; exact h1.elim
  | some t =>
    rw [q] at h1
    obtain ⟨tx, tm⟩ := tyX_of w1 r1 q
    refine ⟨v, .ty T, .type t, .type T, isiB t T, rfl, .ty T, tx, kit_ty ?_, k _ _ h1 _ _ _ s1 w1 (.bl _)⟩
    exact beq_iff_eq.mp (List.all_eq_true.mp hk t tm)
end
section
variable {K : PySem.W.Frag} {mg : Str → Option Value}
def dSum (ds : List D) (M : Mh) (Q : QZ) : Prop := match ds with
  | [x] => zL M x fun l => ∃ ns : List Int, l = ns.map D.int ∧ Q (.int ns.sum) M
  | _ => False
theorem snd_sum : SndA K mg (rSum K) dSum := by
  intro F H M xs ds Q R w rl h k
  unfold dSum at h
  split at h
  · cases rl with
    | cons r1 rl =>
      cases rl
      obtain ⟨a, vs, es, rfl, e, l, rl, ns, rfl, h⟩ := zL_out w r1 h
      refine ⟨a, ns, rfl, ?_, k _ _ h _ _ _ (Le.refl F) w (.int _)⟩
      rw [← rl.ints_of]; exact SqL.of e
  · exact h.elim
def dAll (ds : List D) (M : Mh) (Q : QZ) : Prop := match ds with
  | [x] => zL M x fun l => ∃ bs : List Bool, l = bs.map D.bl ∧ Q (.bl (bs.all id)) M
  | _ => False
theorem snd_all : SndA K mg (rAll K) dAll := by
  intro F H M xs ds Q R w rl h k
  unfold dAll at h
  split at h
  · cases rl with
    | cons r1 rl =>
      cases rl
      obtain ⟨a, vs, es, rfl, e, l, rl, ns, rfl, h⟩ := zL_out w r1 h
      refine ⟨a, ns, rfl, ?_, k _ _ h _ _ _ (Le.refl F) w (.bl _)⟩
      rw [← rl.bls_of]; exact SqL.of e
  · exact h.elim
def dMaxL (ds : List D) (M : Mh) (Q : QZ) : Prop := match ds with
  | [.int i, .int j] => Q (.int (if j > i then j else i)) M
  | [x] => zL M x fun l => ∃ ns : List Int, l = ns.map D.int ∧ 0 < ns.length ∧ ∀ m, m ∈ ns → (∀ y, y ∈ ns → y ≤ m) → Q (.int m) M
  | _ => False
def dMinL (ds : List D) (M : Mh) (Q : QZ) : Prop := match ds with
  | [.int i, .int j] => Q (.int (if j < i then j else i)) M
  | [x] => zL M x fun l => ∃ ns : List Int, l = ns.map D.int ∧ 0 < ns.length ∧ ∀ m, m ∈ ns → (∀ y, y ∈ ns → m ≤ y) → Q (.int m) M
  | _ => False
theorem snd_max : SndA K mg (fun xs H Q => (∃ i j, xs = [.int i, .int j] ∧ Q (.int (if j > i then j else i)) H) ∨ rMax K xs H Q) dMaxL := by
  intro F H M xs ds Q R w rl h k
  unfold dMaxL at h
  split at h
  · cases rl with
    | cons r1 rl =>
      cases rl with
      | cons r2 rl => cases rl; cases r1; cases r2; exact .inl ⟨_, _, rfl, k _ _ h _ _ _ (Le.refl F) w (.int _)⟩
  · cases rl with
    | cons r1 rl =>
      cases rl
      obtain ⟨a, vs, es, rfl, e, l, rl, ns, rfl, h1, h⟩ := zL_out w r1 h
      refine .inr ⟨a, ns, rfl, ?_, h1, fun m hm hy => k _ _ (h m hm hy) _ _ _ (Le.refl F) w (.int _)⟩
      rw [← rl.ints_of]; exact SqL.of e
  · exact h.elim
theorem snd_min : SndA K mg (fun xs H Q => (∃ i j, xs = [.int i, .int j] ∧ Q (.int (if j < i then j else i)) H) ∨ rMin K xs H Q) dMinL := by
  intro F H M xs ds Q R w rl h k
  unfold dMinL at h
  split at h
  · cases rl with
    | cons r1 rl =>
      cases rl with
      | cons r2 rl => cases rl; cases r1; cases r2; exact .inl ⟨_, _, rfl, k _ _ h _ _ _ (Le.refl F) w (.int _)⟩
  · cases rl with
    | cons r1 rl =>
      cases rl
      obtain ⟨a, vs, es, rfl, e, l, rl, ns, rfl, h1, h⟩ := zL_out w r1 h
      refine .inr ⟨a, ns, rfl, ?_, h1, fun m hm hy => k _ _ (h m hm hy) _ _ _ (Le.refl F) w (.int _)⟩
      rw [← rl.ints_of]; exact SqL.of e
  · exact h.elim
/-- list(x) -/
def dList (b : Bool) (ds : List D) (M : Mh) (Q : QZ) : Prop := match ds with
  | [x] => zLT M x fun l => zNew b l M Q
  | _ => False
theorem snd_list (b : Bool) : SndA K mg (fun xs H Q => ∃ p ys, xs = [.ref p] ∧ (SqL K H p ys ∨ SqT K H p ys) ∧ ∀ l, H l = none → Q (.ref l) (upd H l (.lst ys))) (dList b) := by
  intro F H M xs ds Q R w rl h k
  unfold dList at h
  split at h
  · cases rl with
    | cons r1 rl =>
      cases rl
      obtain ⟨a, vs, es, rfl, e, l, rl, h⟩ := zLT_out w r1 h
      exact ⟨a, vs, rfl, e, zNew_out w l rl h k⟩
  · exact h.elim
/-- tuple(x) -/
def dTuple (ds : List D) (M : Mh) (Q : QZ) : Prop := match ds with
  | [x] => zLT M x fun l => Q (.tup l) M
  | _ => False
theorem snd_tuple : SndA K mg (fun xs H Q => ∃ p ys, xs = [.ref p] ∧ ((SqL K H p ys ∧ ∀ l, H l = none → Q (.ref l) (upd H l (.tup ys))) ∨ (SqT K H p ys ∧ Q (.ref p) H))) dTuple := by
  intro F H M xs ds Q R w rl h k
  unfold dTuple at h
  split at h
  · cases rl with
    | cons r1 rl =>
      cases rl
      rename_i x v
      have gen : ∀ {a : Addr} {vs : List V} {es : List D}, v = .ref a → SqL K H a vs → vs.length ≤ sizeLine → RepL K mg F vs es → R (.tup es) M → ∃ p ys, [v] = [V.ref p] ∧ ((SqL K H p ys ∧ ∀ l, H l = none → Q (.ref l) (upd H l (.tup ys))) ∨ (SqT K H p ys ∧ Q (.ref p) H)) :=
        fun {a vs es} e1 e2 l rl h => ⟨a, vs, by rw [e1], .inl ⟨e2, zTup_out w l rl h k⟩⟩
      cases x with
      | tup es =>
        cases r1 with
        | tup e l rl => exact ⟨_, _, rfl, .inr ⟨same_sqT w.same e, k _ _ h _ _ _ (Le.refl F) w (.tup e l rl)⟩⟩
      | lst es =>
        cases r1 with
        | lst e l rl => exact gen rfl (SqL.of (w.sub _ _ e)) l rl h
      | ref q =>
        obtain ⟨a, vs, es, e1, e2, l, rl, h⟩ := zL_out (d := .ref q) w r1 h
        exact gen e1 (SqL.of e2) l rl h
      | _ => exact h.elim
  · exact h.elim
def dDivmod (ds : List D) (M : Mh) (Q : QZ) : Prop := match ds with
  | [.int i, .int j] => CDiv i j ∧ Q (.tup [.int (i / j), .int (i % j)]) M
  | _ => False
theorem snd_divmod : SndA K mg (fun xs H Q => ∃ i j, xs = [.int i, .int j] ∧ CDiv i j ∧ ∀ p, H p = none → Q (.ref p) (upd H p (.tup [.int (i / j), .int (i % j)]))) dDivmod := by
  intro F H M xs ds Q R w rl h k
  unfold dDivmod at h
  split at h
  · cases rl with
    | cons r1 rl =>
      cases rl with
      | cons r2 rl =>
        cases rl; cases r1; cases r2
        exact ⟨_, _, rfl, h.1, zTup_out w (by show 2 ≤ sizeLine; decide) (.cons (.int _) (.cons (.int _) .nil)) h.2 k⟩
  · exact h.elim
def dAbs (ds : List D) (M : Mh) (Q : QZ) : Prop := match ds with
  | [.int i] => Q (.int (if i < 0 then -i else i)) M
  | _ => False
theorem snd_abs : SndA K mg (fun xs H Q => ∃ i, xs = [.int i] ∧ Q (.int (if i < 0 then -i else i)) H) dAbs := by
  intro F H M xs ds Q R w rl h k
  unfold dAbs at h
  split at h
  · cases rl with
    | cons r1 rl => cases rl; cases r1; exact ⟨_, rfl, k _ _ h _ _ _ (Le.refl F) w (.int _)⟩
  · exact h.elim
/-- sorted(x) of ints -/
def dSorted (b : Bool) (ds : List D) (M : Mh) (Q : QZ) : Prop := match ds with
  | [x] => zL M x fun l => ∃ ns : List Int, l = ns.map D.int ∧ ∀ ns' : List Int, ns'.Perm ns → ns'.Pairwise (· ≤ ·) → zNew b (ns'.map D.int) M Q
  | _ => False
theorem snd_sorted (b : Bool) : SndA K mg (rSortedI K) (dSorted b) := by
  intro F H M xs ds Q R w rl h k
  unfold dSorted at h
  split at h
  · cases rl with
    | cons r1 rl =>
      cases rl
      obtain ⟨a, vs, es, rfl, e, l, rl, ns, rfl, h⟩ := zL_out w r1 h
      have hv := rl.ints_of
      subst hv
      refine ⟨a, ns, rfl, SqL.of e, fun ns' p hp hs hn => zNew_out w ?_ (RepL.ints ns') (h ns' hp hs) k p hn⟩
      rw [List.length_map, hp.length_eq]; rw [List.length_map] at l; exact l
  · exact h.elim
end
/-! ### methods of lists -/
section
variable {X : Cx} {F0 : Fz} {o a : Expr} {fo : ZE} {t : ZA} {apos cpos : Pos}
def zApp (o : ZE) (t : ZA) : ZE := fun r M Q => o r M fun x M1 => match x with
  | .ref p => t r M1 fun ds M2 => (match M2 p, ds with | some (.lst l), [d] => l.length < sizeLine ∧ Q .non (mup M2 p (.lst (l ++ [d]))) | _, _ => False) ∧ ∃ l, M1 p = some (.lst l)
  | _ => False
end
end Zl

/-! Zl7: methods of lists and tuples; the town -/
namespace Zl
open PySem L2
section
variable {K : PySem.W.Frag} {mg : Str → Option Value} {F : Fz} {H : Hp} {M : Mh}
theorem tyV_list {v : V} {d : D} (w : Wd K mg F H M) (r : Rep K mg F v d) (h : tyD M d = some "list") : tyV K "list" v H := by
  cases r with
  | lst e _ _ => exact .inl ⟨rfl, _, SqL.of (w.sub _ _ e)⟩
  | ref p =>
    have h' : (match M p with | some (.lst _) => some "list" | _ => none) = some "list" := h
    cases e : M p with
    | none => rw [e] at h'; cases h'
    | some m =>
      cases m with
      | lst ds =>
        obtain ⟨_, vs, hv, _⟩ := w.mu p _ e
        exact .inl ⟨rfl, _, SqL.of hv⟩
      | ins _ _ => rw [e] at h'; cases h'
      | town => rw [e] at h'; cases h'
  | _ => exact absurd h (by simp [tyD])
theorem tyV_str {v : V} {d : D} (r : Rep K mg F v d) (h : tyD M d = some "str") : tyV K "str" v H := by
  cases r with
  | str _ _ => rfl
  | ref p =>
    have h' : (match M p with | some (.lst _) => some "list" | _ => none) = some "str" := h
    split at h'
    · exact absurd (Option.some.inj h') (by decide)
    · cases h'
  | _ => exact absurd h (by simp [tyD])
end
/-- a method's soundness, by values -/
def SndM (K : PySem.W.Frag) (mg : Str → Option Value) (r : V → List V → Hp → VK → Prop) (f : D → List D → Mh → QZ → Prop) : Prop := ∀ (F : Fz) (H : Hp) (M : Mh) (x : V) (xs : List V) (d : D) (ds : List D) (Q : VK) (R : QZ), Wd K mg F H M → Rep K mg F x d → RepL K mg F xs ds → f d ds M R → Kq K mg F R Q → r x xs H Q
def zM (T : String) (f : D → List D → Mh → QZ → Prop) (o : ZE) (t : ZA) : ZE := fun r M Q => o r M fun x M1 => tyD M1 x = some T ∧ t r M1 fun ds M2 => f x ds M2 Q
section
variable {X : Cx} {F0 : Fz} {o a : Expr} {es : List Expr} {fo : ZE} {t : ZA} {apos cpos : Pos} {name : Str} {id : String} {r : V → List V → Hp → VK → Prop} {f : D → List D → Mh → QZ → Prop}
theorem ze_mL (pa : PlainAttrs "list") (slot : Slot "list" name id) (hty : typeOf (.builtin id) = pure (.type "method_descriptor")) (hm : MtR X id r) (sm : SndM X.K X.mg r f) (ho : PE X o (UE X F0 fo)) (ha : PA X (a :: es) (UA X F0 t))
    (hbase : attributeBase o name X.env (eval o X.env) = eval o X.env := by rfl)
    (hfew : ((backTo cpos (starEach (a :: es) X.env)).all (fun x => !x.1) && (backToKw cpos (keywordEach [] X.env)).all (fun x => x.1.isSome)
      && decide ((a :: es).length + ([] : List Keyword).length + (if ([] : List Keyword).isEmpty then 0 else 1) < 30)) = true := by rfl)
    (hline : (apos.endLine == cpos.line) = true := by rfl) (hs : starEach (a :: es) X.env = (false, eval a X.env) :: starEach es X.env := by rfl) (hplain : (backTo cpos (starEach es X.env)).any (·.1) = false := by rfl) :
    PE X (.Call (.Attribute o name apos) (a :: es) [] cpos) (UE X F0 (zM "list" f fo t)) := pe_imp (pe_bm pa slot hty hm ho ha hbase hfew hline hs hplain) fun s H Q h => by
  obtain ⟨F, rr, M, R, s0, w, e, h, k⟩ := h
  refine ⟨F, rr, M, _, s0, w, e, h, fun x M1 h1 F1 H1 v s1 w1 r1 => ⟨tyV_list w1 r1 h1.1, F1, rr, M1, _, s0.trans s1, w1, e.mono s1, h1.2, fun ds M2 h2 F2 H2 vs s2 w2 r2 => ?_⟩⟩
  exact sm F2 H2 M2 v vs x ds Q R w2 (r1.mono s2) r2 h2 (k.mono (s1.trans s2))
theorem ze_mS (pa : PlainAttrs "str") (slot : Slot "str" name id) (hty : typeOf (.builtin id) = pure (.type "method_descriptor")) (hm : MtR X id r) (sm : SndM X.K X.mg r f) (ho : PE X o (UE X F0 fo)) (ha : PA X (a :: es) (UA X F0 t))
    (hbase : attributeBase o name X.env (eval o X.env) = eval o X.env := by rfl)
    (hfew : ((backTo cpos (starEach (a :: es) X.env)).all (fun x => !x.1) && (backToKw cpos (keywordEach [] X.env)).all (fun x => x.1.isSome)
      && decide ((a :: es).length + ([] : List Keyword).length + (if ([] : List Keyword).isEmpty then 0 else 1) < 30)) = true := by rfl)
    (hline : (apos.endLine == cpos.line) = true := by rfl) (hs : starEach (a :: es) X.env = (false, eval a X.env) :: starEach es X.env := by rfl) (hplain : (backTo cpos (starEach es X.env)).any (·.1) = false := by rfl) :
    PE X (.Call (.Attribute o name apos) (a :: es) [] cpos) (UE X F0 (zM "str" f fo t)) := pe_imp (pe_bm pa slot hty hm ho ha hbase hfew hline hs hplain) fun s H Q h => by
  obtain ⟨F, rr, M, R, s0, w, e, h, k⟩ := h
  refine ⟨F, rr, M, _, s0, w, e, h, fun x M1 h1 F1 H1 v s1 w1 r1 => ⟨tyV_str r1 h1.1, F1, rr, M1, _, s0.trans s1, w1, e.mono s1, h1.2, fun ds M2 h2 F2 H2 vs s2 w2 r2 => ?_⟩⟩
  exact sm F2 H2 M2 v vs x ds Q R w2 (r1.mono s2) r2 h2 (k.mono (s1.trans s2))
end
section
variable {K : PySem.W.Frag} {mg : Str → Option Value}
/-- a changing list and what it holds -/
def zR (M : Mh) (d : D) (k : Addr → List D → Prop) : Prop := match d with
  | .ref p => (match M p with | some (.lst ds) => k p ds | _ => False)
  | _ => False
theorem zR_ref {M : Mh} {p : Addr} {ds : List D} {k : Addr → List D → Prop} (h : M p = some (.lst ds)) : zR M (.ref p) k = k p ds := by
  show (match M p with | some (.lst ds) => k p ds | _ => False) = _
  rw [h]
theorem zR_out {F : Fz} {H : Hp} {M : Mh} {d : D} {k : Addr → List D → Prop} {v : V} (w : Wd K mg F H M) (r : Rep K mg F v d) (h : zR M d k) : ∃ p vs ds, v = .ref p ∧ M p = some (.lst ds) ∧ H p = some (.lst vs) ∧ vs.length ≤ sizeLine ∧ RepL K mg F vs ds ∧ k p ds := by
  cases d with
  | ref p =>
    cases r
    have h' : (match M p with | some (.lst ds) => k p ds | _ => False) := h
    cases e : M p with
    | none => rw [e] at h'; exact h'.elim
    | some m =>
      cases m with
      | lst ds =>
        rw [e] at h'
        obtain ⟨_, vs, hv, l, q⟩ := w.mu p _ e
        exact ⟨p, vs, ds, rfl, e, hv, l, q, h'⟩
      | ins _ _ => rw [e] at h'; exact h'.elim
      | town => rw [e] at h'; exact h'.elim
  | _ => exact h.elim
def dApp (x : D) (ds : List D) (M : Mh) (Q : QZ) : Prop := match ds with
  | [d] => zR M x fun p l => l.length < sizeLine ∧ Q .non (mup M p (.lst (l ++ [d])))
  | _ => False
theorem snd_app : SndM K mg rAppend dApp := by
  intro F H M x xs d ds Q R w r rl h k
  unfold dApp at h
  split at h
  · cases rl with
    | cons r1 rl =>
      cases rl
      obtain ⟨p, vs, es, rfl, e0, e, l, q, h1, h2⟩ := zR_out w r h
      refine ⟨p, vs, _, rfl, rfl, e, by rw [q.length]; exact h1, k _ _ h2 F _ _ (Le.refl F) (w.write e0 (by intro z; cases z) (by intro z; cases z) ⟨_, upd_same, ?_, q.append (.cons r1 .nil)⟩) .non⟩
      rw [List.length_append, q.length]; exact h1
  · exact h.elim
def dExt (x : D) (ds : List D) (M : Mh) (Q : QZ) : Prop := match ds with
  | [d] => zR M x fun p l => zL M d fun m => l.length + m.length ≤ sizeLine ∧ Q .non (mup M p (.lst (l ++ m)))
  | _ => False
theorem snd_ext : SndM K mg rExtend dExt := by
  intro F H M x xs d ds Q R w r rl h k
  unfold dExt at h
  split at h
  · cases rl with
    | cons r1 rl =>
      cases rl
      obtain ⟨p, vs, es, rfl, e0, e, l, q, h⟩ := zR_out w r h
      obtain ⟨b, us, fs, rfl, e', l', q', h1, h2⟩ := zL_out w r1 h
      have hl : vs.length + us.length ≤ sizeLine := by rw [q.length, q'.length]; exact h1
      refine ⟨p, b, vs, us, rfl, rfl, e, e', hl, k _ _ h2 F _ _ (Le.refl F) (w.write e0 (by intro z; cases z) (by intro z; cases z) ⟨_, upd_same, ?_, q.append q'⟩) .non⟩
      rw [List.length_append]; exact hl
  · exact h.elim
def dPopAt (x : D) (ds : List D) (M : Mh) (Q : QZ) : Prop := match ds with
  | [.int i] => -(2 ^ 63) ≤ i ∧ i < 2 ^ 63 ∧ zR M x fun p l => match ixN l.length i with
    | some j => (match l[j]? with | some y => Q y (mup M p (.lst (l.eraseIdx j))) | none => False)
    | none => False
  | _ => False
theorem snd_popAt : SndM K mg rPopAt dPopAt := by
  intro F H M x xs d ds Q R w r rl h k
  unfold dPopAt at h
  split at h
  · cases rl with
    | cons r1 rl =>
      cases rl; cases r1
      obtain ⟨b1, b2, h⟩ := h
      obtain ⟨p, vs, es, rfl, e0, e, l, q, h⟩ := zR_out w r h
      split at h
      · rename_i j hj
        split at h
        · rename_i y hy
          obtain ⟨v, hv, rv⟩ := q.get hy
          refine ⟨p, vs, _, j, v, rfl, rfl, e, b1, b2, by rw [q.length]; exact (ixN_seq hj).1, hv, k _ _ h F _ _ (Le.refl F) (w.write e0 (by intro z; cases z) (by intro z; cases z) ⟨_, upd_same, ?_, q.eraseIdx j⟩) rv⟩
          exact Nat.le_trans (List.length_eraseIdx_le _ _) l
        · exact h.elim
      · exact h.elim
  · exact h.elim
/-- the first place of y -/
def idxD (y : D) : List D → Option Nat
  | [] => none
  | d :: r => if eqD d y then some 0 else (idxD y r).map (· + 1)
theorem idxD_get {F : Fz} {v : V} {y : D} (ry : Rep K mg F v y) (fy : flatD y = true) : ∀ {vs : List V} {ds : List D} {j : Nat}, RepL K mg F vs ds → ds.all flatD = true → idxD y ds = some j → (∃ z, vs[j]? = some z ∧ eqV z v = true) ∧ ∀ (m : Nat) (z : V), m < j → vs[m]? = some z → eqV z v = false
  | _, _, _, .nil, _, h => by cases h
  | _, _, j, .cons r t, q, h => by
    rw [List.all_cons, Bool.and_eq_true] at q
    unfold idxD at h
    split at h
    · rename_i e
      cases h
      exact ⟨⟨_, rfl, by rw [eqV_of r ry q.1 fy]; exact e⟩, fun m z hm => absurd hm (Nat.not_lt_zero _)⟩
    · rename_i e
      obtain ⟨i, hi, ej⟩ := Option.map_eq_some_iff.mp h
      subst ej
      obtain ⟨⟨z, h1, h2⟩, h3⟩ := idxD_get ry fy t q.2 hi
      refine ⟨⟨z, by simpa using h1, h2⟩, fun m z' hm hz => ?_⟩
      cases m with
      | zero =>
        cases hz
        rw [eqV_of r ry q.1 fy]; simpa using e
      | succ m => exact h3 m z' (by omega) (by simpa using hz)
def dIndex (x : D) (ds : List D) (M : Mh) (Q : QZ) : Prop := match ds with
  | [y] => zL M x fun l => flatD y = true ∧ l.all flatD = true ∧ (match idxD y l with | some j => Q (.int (j : Nat)) M | none => False)
  | _ => False
theorem snd_index : SndM K mg (rIndex K) dIndex := by
  intro F H M x xs d ds Q R w r rl h k
  unfold dIndex at h
  split at h
  · cases rl with
    | cons r1 rl =>
      cases rl
      obtain ⟨p, vs, es, rfl, e, l, q, h1, h2, h⟩ := zL_out w r h
      split at h
      · rename_i j hj
        obtain ⟨⟨z, a1, a2⟩, a3⟩ := idxD_get r1 h1 q h2 hj
        exact ⟨p, vs, _, j, z, rfl, rfl, SqL.of e, flat_of r1 h1, flats_of q h2, a1, a2, a3, k _ _ h _ _ _ (Le.refl F) w (.int _)⟩
      · exact h.elim
  · exact h.elim
def cntD (y : D) (l : List D) : Nat := l.countP fun d => eqD d y
def dCount (x : D) (ds : List D) (M : Mh) (Q : QZ) : Prop := match ds with
  | [y] => zL M x fun l => flatD y = true ∧ l.all flatD = true ∧ Q (.int (cntD y l : Nat)) M
  | _ => False
def rCountZ (K : PySem.W.Frag) : V → List V → Hp → VK → Prop := fun x xs H Q => ∃ (p : Addr) (ys : List V) (y : V), x = .ref p ∧ xs = [y] ∧ SqL K H p ys ∧ flatV y = true ∧ ys.all flatV = true ∧ Q (.int (ys.countP fun z => eqV z y : Nat)) H
theorem countP_eqU {y : V} : ∀ {ys : List V} {us : List Value}, Vals ys us → ys.all flatV = true → us.countP (eqU y) = ys.countP fun z => eqV z y
  | _, _, .nil, _ => rfl
  | _, _, .cons r t, h => by
    rw [List.all_cons, Bool.and_eq_true] at h
    rw [List.countP_cons, List.countP_cons, countP_eqU t h.2, eqU_of r h.1]
theorem mt_countZ {X : Cx} : MtR X "list.count" (rCountZ X.K) := by
  intro pins s r H x xs v us Q I rx rxs h
  obtain ⟨p, ys, y, rfl, rfl, hs, fy, fys, q⟩ := h
  cases rx
  obtain ⟨u, rfl, ru⟩ := rxs.one
  obtain ⟨its, rv, ⟨⟨cls, dd, data, sl⟩, n, ho, hc, hdn, hd⟩, hlen⟩ := I.list hs
  simp only at hc hd
  subst hc hd
  have ec := countP_eqU (y := y) rv fys
  refine call_meets PySem.F.slot_list_count ⟨_, ho, rfl⟩ PySem.F.entry_list_count (PySem.F.args_list_count_2 _ _) (SeqAt.list_countAt p its.toArray n dd sl u (eqU y)) ⟨ho, fun z hz => mem_eqAt ru fy rv fys z (by simpa using hz), ?_⟩
  refine ⟨.int (ys.countP fun z => eqV z y : Nat), H, I.tok _, ⟨s.toks, ?_⟩, q⟩
  show Value.int ((its.toArray.toList.countP (eqU y) : Nat) : Int) s.toks = _
  rw [show its.toArray.toList = its from rfl, ec]
theorem cnt_of {F : Fz} {v : V} {y : D} (ry : Rep K mg F v y) (fy : flatD y = true) : ∀ {vs : List V} {ds : List D}, RepL K mg F vs ds → ds.all flatD = true → (vs.countP fun z => eqV z v) = cntD y ds
  | _, _, .nil, _ => rfl
  | _, _, .cons r t, q => by
    rw [List.all_cons, Bool.and_eq_true] at q
    have ih := cnt_of ry fy t q.2
    unfold cntD at *
    rw [List.countP_cons, List.countP_cons, ih, eqV_of r ry q.1 fy]
theorem snd_count : SndM K mg (rCountZ K) dCount := by
  intro F H M x xs d ds Q R w r rl h k
  unfold dCount at h
  split at h
  · cases rl with
    | cons r1 rl =>
      cases rl
      obtain ⟨p, vs, es, rfl, e, l, q, h1, h2, h⟩ := zL_out w r h
      refine ⟨p, vs, _, rfl, rfl, SqL.of e, flat_of r1 h1, flats_of q h2, ?_⟩
      rw [cnt_of r1 h1 q h2]
      exact k _ _ h _ _ _ (Le.refl F) w (.int _)
  · exact h.elim
end
/-! ### a written tuple -/
/-- the written tuple at a holds vs -/
def KTup (K : PySem.W.Frag) (a : Addr) (vs : List V) : Prop := ∃ (o : Obj) (its : Array Value) (n : Nat), K.lookup a = some o ∧ o.cls = .type "tuple" ∧ o.dict = none ∧ o.data = .seq its n ∧ its.size ≤ sizeLine ∧ Vals vs its.toList
theorem KTup.sq {K : PySem.W.Frag} {a : Addr} {vs : List V} (h : KTup K a vs) (H : Hp) : SqT K H a vs := by
  obtain ⟨o, its, n, h1, h2, h3, h4, h5, h6⟩ := h
  exact .inr ⟨o, its, n, h1, h2, h4, h5, h6⟩
theorem KTup.len {K : PySem.W.Frag} {a : Addr} {vs : List V} (h : KTup K a vs) : vs.length ≤ sizeLine := by
  obtain ⟨o, its, n, h1, h2, h3, h4, h5, h6⟩ := h
  rw [h6.length, Array.length_toList]; exact h5
theorem ktup_rep {K : PySem.W.Frag} {mg : Str → Option Value} {a : Addr} {vs : List V} {ds : List D} (h : KTup K a vs) (r : ∀ F, RepL K mg F vs ds) (F : Fz) : Rep K mg F (.ref a) (.tup ds) := .tup (h.sq F.f) h.len (r F)
def rTIdx (K : PySem.W.Frag) : V → List V → Hp → VK → Prop := fun x xs H Q => ∃ (a : Addr) (ys : List V) (y : V) (j : Nat) (z : V), x = V.ref a ∧ xs = [y] ∧ SqT K H a ys ∧ flatV y = true ∧ ys.all flatV = true ∧ ys[j]? = some z ∧ eqV z y = true ∧ (∀ (m : Nat) (z' : V), m < j → ys[m]? = some z' → eqV z' y = false) ∧ Q (.int (j : Nat)) H
theorem mt_tidx {X : Cx} : MtR X "tuple.index" (rTIdx X.K) := by
  intro pins s r H x xs v us Q I rx rxs h
  obtain ⟨a, ys, y, j, z, rfl, rfl, hs, fy, fys, hz, hzj, hno, q⟩ := h
  cases rx
  obtain ⟨uy, rfl, ry⟩ := rxs.one
  obtain ⟨its, rv, pl, hlen⟩ := I.tuple hs
  obtain ⟨⟨cls, dd, dt, sl⟩, ho, hc, n, hd⟩ := pl
  simp only at hc hd
  subst hc hd
  obtain ⟨u, hu, ru⟩ := rv.get hz
  obtain ⟨hjl, hje⟩ := List.getElem?_eq_some_iff.mp hu
  have hj : j < its.toArray.size := by simpa using hjl
  refine call_meets PySem.F.slot_tuple_index ⟨_, ho, rfl⟩ PySem.F.entry_tuple_index (PySem.F.args_tuple_index_2 _ _) (TI.tuple_indexAt a its.toArray n dd sl uy (eqU y) j hj ?_ ?_)
    ⟨ho, fun u' hu' => mem_eqAt ry fy rv fys u' (by simpa using hu'), ⟨.int (j : Nat), H, I.tok _, ⟨_, rfl⟩, q⟩⟩
  · have e1 : its.toArray[j] = u := by simpa using hje
    rw [e1, eqU_of ru (flat_at fys hz)]
    exact hzj
  · intro m hm hmj
    have hml : m < its.length := by simpa using hm
    have hmy : m < ys.length := by rw [rv.length]; exact hml
    have hy' : ys[m]? = some ys[m] := List.getElem?_eq_getElem hmy
    obtain ⟨u2, hu2, ru2⟩ := rv.get hy'
    have e2 : its.toArray[m] = u2 := by
      have := (List.getElem?_eq_some_iff.mp hu2).2
      simpa using this
    rw [e2, eqU_of ru2 (flat_at fys hy')]
    exact hno m _ hmj hy'
def zTIx (ds : List D) (t : ZA) : ZE := fun r M Q => t r M fun es M1 => match es with
  | [y] => flatD y = true ∧ (match idxD y ds with | some j => Q (.int (j : Nat)) M1 | none => False)
  | _ => False
theorem ze_tidx {X : Cx} {F0 : Fz} {x : Str} {a : Addr} {e : Expr} {vs : List V} {ds : List D} {t : ZA} {p apos cpos : Pos} (hm : X.mg x = some (.ref a)) (hk : KTup X.K a vs) (hr : ∀ F, RepL X.K X.mg F vs ds) (hf : ds.all flatD = true) (ha : PA X [e] (UA X F0 t)) (hg : Gl X x := by rfl)
    (hd : (x == ("__debug__" : Str)) = false := by decide) (hbase : attributeBase (.Name x p) "index" X.env (eval (.Name x p) X.env) = eval (.Name x p) X.env := by rfl)
    (hfew : ((backTo cpos (starEach [e] X.env)).all (fun x => !x.1) && (backToKw cpos (keywordEach [] X.env)).all (fun x => x.1.isSome)
      && decide (([e] : List Expr).length + ([] : List Keyword).length + (if ([] : List Keyword).isEmpty then 0 else 1) < 30)) = true := by rfl)
    (hline : (apos.endLine == cpos.line) = true := by rfl) (hs : starEach [e] X.env = (false, eval e X.env) :: starEach [] X.env := by rfl) (hplain : (backTo cpos (starEach [] X.env)).any (·.1) = false := by rfl) :
    PE X (.Call (.Attribute (.Name x p) "index" apos) [e] [] cpos) (UE X F0 (zTIx ds t)) := pe_imp (pe_bm PySem.F.plainAttrs_tuple PySem.F.slot_tuple_index PySem.F.type_tuple_index mt_tidx (pe_glob (v := .ref a) hg hm rfl hd) ha hbase hfew hline hs hplain) fun s H Q h => by
  obtain ⟨F, rr, M, R, s0, w, e, h, k⟩ := h
  obtain ⟨o, its, n, h1, h2, h3, h4⟩ := id hk
  refine ⟨.inr (.inl ⟨rfl, o, h1, h2, h3⟩), F, rr, M, _, s0, w, e, h, fun es M1 h1 F1 H1 us s1 w1 r1 => ?_⟩
  split at h1
  · cases r1 with
    | cons q1 r1 =>
      cases r1
      obtain ⟨fy, h1⟩ := h1
      split at h1
      · rename_i j hj
        obtain ⟨⟨z, a1, a2⟩, a3⟩ := idxD_get q1 fy (hr F1) hf hj
        exact ⟨a, vs, _, j, z, rfl, rfl, hk.sq H1, flat_of q1 fy, flats_of (hr F1) hf, a1, a2, a3, k _ _ h1 _ _ _ s1 w1 (.int _)⟩
      · exact h1.elim
  · exact h1.elim
end Zl

/-! Zl8: the town of a law, and its draws -/
namespace Zl
open PySem L2
section
variable {K : PySem.W.Frag} {mg : Str → Option Value} {F : Fz} {H : Hp} {M : Mh}
/-- the town laid open: its cells at c -/
def tOpen (M : Mh) (t c : Addr) (n : Int) (cells : List Int) : Mh := mup (mup M c (.lst (cells.map D.int))) t (.lst [.ref c, .int n])
structure TownOk (M : Mh) (t c : Addr) (cells : List Int) : Prop where
  at_ : M t = some .town
  no : M c = none
  ne : cells ≠ []
  len : cellsOk cells
  one : ∀ t', M t' = some .town → t' = t
theorem TownOk.ct {t c : Addr} {cells : List Int} (h : TownOk M t c cells) : c ≠ t := fun e => by
  have := h.no; rw [e, h.at_] at this; cases this
theorem Wd.town_out {t : Addr} (w : Wd K mg F H M) (ht : M t = some .town) : ∃ c n cells, TownOk M t c cells ∧ Wd K mg F H (tOpen M t c n cells) := by
  obtain ⟨f0, c, n, cells, h1, h2, h3, h3', h4, h5, h6, h7⟩ := w.mu t _ ht
  have T : TownOk M t c cells := ⟨ht, h4, h5, h6, h7⟩
  have hl : (cells.map V.int).length ≤ sizeLine := by rw [List.length_map]; exact Nat.le_of_lt (small1000 (Nat.le_trans h6.1 (by decide)))
  refine ⟨c, n, cells, T, w.sub, fun a o e => ?_, fun a m e => ?_⟩
  · obtain ⟨q1, q2, q3⟩ := w.un a o e
    refine ⟨q1, q2, ?_⟩
    unfold tOpen
    rw [mup_ne (fun z => by rw [z, ht] at q3; cases q3), mup_ne (fun z => by rw [z, h3'] at e; cases e)]; exact q3
  · unfold tOpen at e
    by_cases hat : a = t
    · subst hat; rw [mup_same] at e; cases e
      exact ⟨f0, [.ref c, .int n], h1, by show 2 ≤ sizeLine; decide, .cons (.ref c) (.cons (.int n) .nil)⟩
    · rw [mup_ne hat] at e
      by_cases hac : a = c
      · subst hac; rw [mup_same] at e; cases e
        exact ⟨h3, _, h2, hl, RepL.ints cells⟩
      · rw [mup_ne hac] at e
        obtain ⟨q1, r⟩ := w.mu a m e
        refine ⟨q1, ?_⟩
        cases m with
        | lst ds => exact r
        | ins x fs => exact r
        | town => exact absurd (h7 a e) hat
theorem Wd.town_in {t c : Addr} {n : Int} {cells cells' : List Int} (T : TownOk M t c cells) (ne : cells' ≠ []) (ln : cellsOk cells') (w : Wd K mg F H (tOpen M t c n cells')) : Wd K mg F H M := by
  have ct := T.ct
  have et : tOpen M t c n cells' t = some (.lst [.ref c, .int n]) := by unfold tOpen; exact mup_same
  have ec : tOpen M t c n cells' c = some (.lst (cells'.map D.int)) := by unfold tOpen; rw [mup_ne ct]; exact mup_same
  have ea : ∀ a, a ≠ t → a ≠ c → tOpen M t c n cells' a = M a := fun a h1 h2 => by unfold tOpen; rw [mup_ne h1, mup_ne h2]
  obtain ⟨ft, vt, ht, _, rt⟩ := w.mu t _ et
  obtain ⟨fc, vc, hc, _, rc⟩ := w.mu c _ ec
  have nu : ∀ a o, F.u a = some o → a ≠ t ∧ a ≠ c := fun a o e => by
    obtain ⟨_, _, q⟩ := w.un a o e
    exact ⟨(fun z => by rw [z, et] at q; cases q), (fun z => by rw [z, ec] at q; cases q)⟩
  refine ⟨w.sub, fun a o e => ?_, fun a m e => ?_⟩
  · obtain ⟨q1, q2, q3⟩ := w.un a o e
    obtain ⟨n1, n2⟩ := nu a o e
    exact ⟨q1, q2, by rw [← ea a n1 n2]; exact q3⟩
  · by_cases hat : a = t
    · subst hat
      rw [T.at_] at e; cases e
      have evc : vc = cells'.map V.int := rc.ints_of
      have evt : vt = [.ref c, .int n] := by
        cases rt with
        | cons a1 rt =>
          cases rt with
          | cons a2 rt => cases rt; cases a1; cases a2; rfl
      refine ⟨ft, c, n, cells', by rw [← evt]; exact ht, by rw [← evc]; exact hc, fc, ?_, T.no, ne, ln, T.one⟩
      cases q : F.u c with
      | none => rfl
      | some o => exact absurd rfl (nu c o q).2
    · have hac : a ≠ c := fun z => by rw [z, T.no] at e; cases e
      obtain ⟨q1, r⟩ := w.mu a m (by rw [ea a hat hac]; exact e)
      refine ⟨q1, ?_⟩
      cases m with
      | lst ds => exact r
      | ins x fs => exact r
      | town => exact absurd (T.one a e) hat
/-- a town is made: its list at t holds the cells at c -/
theorem Wd.town_new {t c : Addr} {n : Int} {cells : List Int} (h0 : ∀ t', M t' ≠ some .town) (ne : cells ≠ []) (ln : cellsOk cells) (hc : H c = none) (ht : upd H c (.lst (cells.map V.int)) t = none) (w : Wd K mg F H M) :
    Wd K mg F (upd (upd H c (.lst (cells.map V.int))) t (.lst [.ref c, .int n])) (mup M t .town) ∧ M t = none := by
  have tc : t ≠ c := fun e => by rw [e, upd_same] at ht; cases ht
  have ht0 : H t = none := by rw [upd_ne tc] at ht; exact ht
  obtain ⟨mt, ft, ut⟩ := w.free ht0
  obtain ⟨mc, fc, uc⟩ := w.free hc
  have hh : ∀ a, a ≠ t → a ≠ c → upd (upd H c (.lst (cells.map V.int))) t (.lst [.ref c, .int n]) a = H a := fun a h1 h2 => by rw [upd_ne h1, upd_ne h2]
  refine ⟨⟨fun a o e => ?_, fun a o e => ?_, fun a m e => ?_⟩, mt⟩
  · rw [hh a (fun z => by rw [z, ft] at e; cases e) (fun z => by rw [z, fc] at e; cases e)]; exact w.sub a o e
  · obtain ⟨q1, q2, q3⟩ := w.un a o e
    have n1 : a ≠ t := fun z => by rw [z, ut] at e; cases e
    exact ⟨by rw [hh a n1 (fun z => by rw [z, uc] at e; cases e)]; exact q1, q2, by rw [mup_ne n1]; exact q3⟩
  · by_cases hat : a = t
    · subst hat; rw [mup_same] at e; cases e
      refine ⟨ft, c, n, cells, upd_same, by rw [upd_ne tc.symm]; exact upd_same, fc, uc, by rw [mup_ne tc.symm]; exact mc, ne, ln, fun t' e' => ?_⟩
      by_cases h : t' = a
      · exact h
      · rw [mup_ne h] at e'; exact absurd e' (h0 t')
    · rw [mup_ne hat] at e
      obtain ⟨q1, r⟩ := w.mu a m e
      have hac : a ≠ c := ne_of_m e mc
      refine ⟨q1, ?_⟩
      cases m with
      | lst ds => obtain ⟨vs, h, l, q⟩ := r; exact ⟨vs, (hh a hat hac).trans h, l, q⟩
      | ins x fs => obtain ⟨C, dx, vs, h1, h, q⟩ := r; exact ⟨C, dx, vs, h1, (hh a hat hac).trans h, q⟩
      | town => exact absurd e (h0 a)
end
theorem cx_no {P : Program} {w : World} {H : Hp} {s s' : Shared} {e : Value} (h : L2.CX P w [] H s (fun _ _ _ => False) e s') : False := by
  obtain ⟨_, _, _, _, _, _, _, _, _, _, _, _, z⟩ := h
  exact z
theorem vals_of_abs : ∀ {us : List Value} {vs : List V}, us.map absV = vs.map some → Vals vs us
  | [], [], _ => .nil
  | u :: us, v :: vs, h => by
    rw [List.map_cons, List.map_cons] at h
    injection h with h1 h2
    refine .cons ?_ (vals_of_abs h2)
    cases u <;> cases h1 <;> first | rfl | exact ⟨_, rfl⟩
theorem ktup_mk {K : PySem.W.Frag} {a : Addr} {ci : List Value} {n : Nat} {sl : Array (Option Value)} {vs : List V} (l : K.lookup a = some ⟨.type "tuple", none, .seq ci.toArray n, sl⟩) (h : ci.map absV = vs.map some) (hl : ci.length ≤ sizeLine) : KTup K a vs :=
  ⟨_, _, n, l, rfl, rfl, rfl, by rw [List.size_toArray]; exact hl, by simpa using vals_of_abs h⟩
end Zl

/-! Zl9: own classes, caught exceptions -/
namespace Zl
open PySem L2
/-! ### instances -/
/-- a field stored -/
def putD (f : Str) (d : D) : List (Str × D) → List (Str × D)
  | [] => [(f, d)]
  | (g, x) :: r => if g = f then (g, d) :: r else (g, x) :: putD f d r
def onIns (M : Mh) (c : Str) (d : D) (k : Addr → List (Str × D) → Prop) : Prop := match d with
  | .ref p => (match M p with | some (.ins c' fs) => c' = c ∧ k p fs | _ => False)
  | _ => False
def onFd (fs : List (Str × D)) (f : Str) (k : D → Prop) : Prop := match fs.lookup f with | some d => k d | none => False
def zFld (c f : Str) (a : ZE) : ZE := fun r M Q => a r M fun d M1 => onIns M1 c d fun _ fs => onFd fs f fun v => Q v M1
def zSetA (c f : Str) (a v : ZE) : ZS := fun E r M => v r M fun y M1 => a r M1 fun d M2 => onIns M2 c d fun p fs => fs.length < 1000 ∧ E.nx r (mup M2 p (.ins c (putD f y fs)))
def zMeth (c m : Str) (zs : ZSp) (zE : ZW) (a : ZE) (t : ZA) : ZE := fun r M Q => a r M fun d M1 => onIns M1 c d fun p fs => fs.lookup m = none ∧ t r M1 fun ds M2 => zs (.ref p :: ds) M2 Q fun c fs M' => zE c fs r M'
def zMake (c : Str) (zs : ZSp) (zE : ZW) (t : ZA) : ZE := fun r M Q => t r M fun ds M1 => ∀ p, M1 p = none → zs (.ref p :: ds) (mup M1 p (.ins c [])) (fun d M2 => d = .non ∧ Q (.ref p) M2) fun c fs M' => zE c fs r M'
section
variable {K : PySem.W.Frag} {mg : Str → Option Value} {F : Fz} {H : Hp} {M : Mh}
theorem lookup_rep : ∀ {fs : List (Str × D)} {vs : List V} {f : Str} {d : D}, RepL K mg F vs (fs.map (·.2)) → fs.lookup f = some d → ∃ v, (List.zip (fs.map (·.1)) vs).lookup f = some v ∧ Rep K mg F v d
  | [], _, _, _, _, h => by cases h
  | (g, x) :: r, vs, f, d, q, h => by
    cases q with
    | cons q1 q2 =>
      rename_i v vs'
      show ∃ w, List.lookup f ((g, v) :: List.zip (r.map (·.1)) vs') = some w ∧ _
      by_cases e : f = g
      · have hb : (f == g) = true := beq_iff_eq.mpr e
        simp only [List.lookup, hb] at h ⊢
        cases h
        exact ⟨v, rfl, q1⟩
      · have hb : (f == g) = false := beq_eq_false_iff_ne.mpr e
        simp only [List.lookup, hb] at h ⊢
        exact lookup_rep q2 h
theorem lookup_none : ∀ {fs : List (Str × D)} {vs : List V} {f : Str}, fs.lookup f = none → (List.zip (fs.map (·.1)) vs).lookup f = none
  | [], _, _, _ => rfl
  | (g, x) :: r, [], f, _ => rfl
  | (g, x) :: r, v :: vs', f, h => by
    show List.lookup f ((g, v) :: List.zip (r.map (·.1)) vs') = none
    by_cases e : f = g
    · have hb : (f == g) = true := beq_iff_eq.mpr e
      simp only [List.lookup, hb] at h
      cases h
    · have hb : (f == g) = false := beq_eq_false_iff_ne.mpr e
      simp only [List.lookup, hb] at h ⊢
      exact lookup_none h
theorem put_rep {f : Str} {d : D} {v : V} (q : Rep K mg F v d) : ∀ {fs : List (Str × D)} {vs : List V}, RepL K mg F vs (fs.map (·.2)) → ∃ ws, putF f v (List.zip (fs.map (·.1)) vs) = List.zip ((putD f d fs).map (·.1)) ws ∧ RepL K mg F ws ((putD f d fs).map (·.2))
  | [], vs, r => by
    cases r
    exact ⟨[v], rfl, .cons q .nil⟩
  | (g, x) :: r, vs, q2 => by
    cases q2 with
    | cons q3 q4 =>
      rename_i u us
      show ∃ ws, (if g = f then (g, v) :: List.zip (r.map (·.1)) us else (g, u) :: putF f v (List.zip (r.map (·.1)) us)) = List.zip ((if g = f then (g, d) :: r else (g, x) :: putD f d r).map (·.1)) ws ∧ RepL K mg F ws ((if g = f then (g, d) :: r else (g, x) :: putD f d r).map (·.2))
      by_cases e : g = f
      · rw [if_pos e, if_pos e]
        exact ⟨v :: us, rfl, .cons q q4⟩
      · rw [if_neg e, if_neg e]
        obtain ⟨ws, h1, h2⟩ := put_rep q (f := f) q4
        exact ⟨u :: ws, by rw [h1]; rfl, .cons q3 h2⟩
theorem onIns_out {c : Str} {d : D} {k : Addr → List (Str × D) → Prop} {v : V} (w : Wd K mg F H M) (r : Rep K mg F v d) (h : onIns M c d k) : ∃ p fs C dx vs, v = .ref p ∧ d = .ref p ∧ M p = some (.ins c fs) ∧ mg c = some (.ref C) ∧ H p = some (.ins C dx (List.zip (fs.map (·.1)) vs)) ∧ RepL K mg F vs (fs.map (·.2)) ∧ k p fs := by
  cases d with
  | ref p =>
    cases r
    have h' : (match M p with | some (.ins c' fs) => c' = c ∧ k p fs | _ => False) := h
    cases e : M p with
    | none => rw [e] at h'; exact h'.elim
    | some m =>
      cases m with
      | lst _ => rw [e] at h'; exact h'.elim
      | town => rw [e] at h'; exact h'.elim
      | ins c' fs =>
        rw [e] at h'
        obtain ⟨rfl, h'⟩ := h'
        obtain ⟨_, C, dx, vs, h1, h2, h3⟩ := w.mu p _ e
        exact ⟨p, fs, C, dx, vs, rfl, rfl, e, h1, h2, h3, h'⟩
  | _ => exact False.elim h
theorem ref_inj {c : Str} {C C' : Addr} (h : mg c = some (.ref C)) (h' : mg c = some (.ref C')) : C' = C := by
  rw [h] at h'; cases h'; rfl
end
section
variable {X : Cx} {F0 : Fz} {a b : Expr} {fa fb : ZE} {pos apos p : Pos} {c f m x : Str} {C : Addr}
theorem ze_fld (gC : X.mg c = some (.ref C)) (cl : Cls X.K C) (na : NoAttr X.K C f) (ha : PE X a (UE X F0 fa)) (hb : attributeBase a f X.env (eval a X.env) = eval a X.env := by rfl) : PE X (.Attribute a f pos) (UE X F0 (zFld c f fa)) :=
  pe_imp (pe_fld ha hb) fun s H Q h => by
  obtain ⟨F, rr, M, R, s0, w, e, h, k⟩ := h
  refine ⟨F, rr, M, _, s0, w, e, h, fun d M1 h1 F1 H1 v s1 w1 r1 => ?_⟩
  obtain ⟨q, fs, C', dx, vs, rfl, rfl, e1, g1, h2, h3, h4⟩ := onIns_out w1 r1 h1
  obtain rfl := ref_inj gC g1
  unfold onFd at h4
  cases e2 : fs.lookup f with
  | none => rw [e2] at h4; exact h4.elim
  | some y =>
    rw [e2] at h4
    obtain ⟨u, l1, l2⟩ := lookup_rep h3 e2
    exact ⟨q, C', dx, _, u, rfl, h2, cl, na, l1, k _ _ h4 _ _ _ s1 w1 l2⟩
theorem zs_setA (gC : X.mg c = some (.ref C)) (cl : Cls X.K C) (na : NoAttr X.K C f) (ha : PE X a (UE X F0 fa)) (hb : PE X b (UE X F0 fb)) (hs : swapsWith b (some (.Attribute a f apos)) pos.line X.env = pure false := by rfl) : PS X (.Assign [.Attribute a f apos] b pos) (US X F0 (zSetA c f fa fb)) :=
  ps_imp (ps_fld ha hb hs) fun E s H h => by
  obtain ⟨F, rr, M, Z, s0, w, e, h, k⟩ := h
  refine ⟨F, rr, M, _, s0, w, e, h, fun y M1 h1 F1 H1 yv s1 w1 r1 => ⟨F1, rr, M1, _, s0.trans s1, w1, e.mono s1, h1, fun d M2 h2 F2 H2 v s2 w2 r2 => ?_⟩⟩
  obtain ⟨q, fs, C', dx, vs, rfl, rfl, e1, g1, h3, h4, h5, h6⟩ := onIns_out w2 r2 h2
  obtain rfl := ref_inj gC g1
  obtain ⟨ws, l1, l2⟩ := put_rep (f := f) (r1.mono s2) h4
  refine ⟨q, C', dx, _, rfl, h3, cl, na, ?_, k.nx _ _ h6 F2 _ _ (s1.trans s2) (w2.write e1 (by intro z; cases z) (by intro z; cases z) ⟨C', dx, ws, g1, ?_, l2⟩) (e.mono (s1.trans s2))⟩
  · rw [List.length_zip, List.length_map]; omega
  · rw [upd_same, l1]
/-- o.m(e, ..), what is let out as at the slots -/
def tMethS (C : Addr) (m : Str) (sp : Sp) (E : St → XK) (ta : TE) (t : TA) : TE := fun σ H Q => ta σ H fun x H1 => ∃ a dx fs, x = .ref a ∧ H1 a = some (.ins C dx fs) ∧ fs.lookup m = none ∧ t σ H1 fun vs H2 => sp (x :: vs) H2 Q (E σ)
theorem pe_methS {CX : CXT} {k : Nat} {g : Addr} {fd : FuncData} {ps : List Str} {sp : Sp} {E : St → XK} {o e : Expr} {es : List Expr} {ta : TE} {t : TA} {pl : Sem Bool} (he : PE X o ta) (cl : Cls X.K C) (hm : Meth X.K C m g) (FO : FnOk X.prog X.w X.K X.mg X.base CX k g fd ps sp) (hr : Room k X.A) (hb : Binds X.K fd ps []) (hx : ∀ σ, PassesAt CX X σ (E σ)) (ha : PA X (e :: es) t)
    (hst : starEach (e :: es) X.env = (false, eval e X.env) :: starEach es X.env := by rfl) (hpl : (backTo pos (starEach es X.env)).any (·.1) = false := by rfl)
    (ht : eval (.Call (.Attribute o m apos) (e :: es) [] pos) X.env = (do
      let ov ← eval o X.env
      standAt apos.atName
      let (f, first) ← holding [ov] (getMethod ov m pl)
      callWith pos f first (backTo pos (starEach (e :: es) X.env)) (backToKw pos (keywordEach [] X.env))) := by rfl) :
    PE X (.Call (.Attribute o m apos) (e :: es) [] pos) (tMethS C m sp E ta t) := by
  refine ⟨fun pins s σ H Q I h => ?_⟩
  refine PySem.W.methodCall_KW (pl := pl) (thn (he.run pins s σ H _ I h) fun u s1 ⟨x, H1, I1, rx, a, dx, fs, ex, ea, l, q⟩ => ?_) ht
  subst ex
  obtain rfl : u = Value.ref a := rx
  refine getmeth_ok I1 ea cl hm l ?_
  refine PySem.W.callWith_K (first := [.ref a]) (h₀ := X.base) I.ok.mod.kin hm.kp (thn (ha.run pos pins s1 σ H1 _ I1 q) fun us s2 ⟨vs, H2, I2, r, q2⟩ => ⟨I2.kIn, ?_⟩) hst hpl
  exact run_fnS (us := .ref a :: us) (vs := .ref a :: vs) FO hr hb (hx σ) I2 (.cons rfl r) q2
theorem pe_methS0 {CX : CXT} {k : Nat} {g : Addr} {fd : FuncData} {ps : List Str} {sp : Sp} {E : St → XK} {o : Expr} {ta : TE} {pl : Sem Bool} (he : PE X o ta) (cl : Cls X.K C) (hm : Meth X.K C m g) (FO : FnOk X.prog X.w X.K X.mg X.base CX k g fd ps sp) (hr : Room k X.A) (hb : Binds X.K fd ps []) (hx : ∀ σ, PassesAt CX X σ (E σ))
    (ht : eval (.Call (.Attribute o m apos) [] [] pos) X.env = (do
      let ov ← eval o X.env
      standAt apos.atName
      let (f, first) ← holding [ov] (getMethod ov m pl)
      callWith pos f first (backTo pos (starEach [] X.env)) (backToKw pos (keywordEach [] X.env))) := by rfl) :
    PE X (.Call (.Attribute o m apos) [] [] pos) (tMethS C m sp E ta tNil) := by
  refine ⟨fun pins s σ H Q I h => ?_⟩
  refine PySem.W.methodCall_KW (pl := pl) (thn (he.run pins s σ H _ I h) fun u s1 ⟨x, H1, I1, rx, a, dx, fs, ex, ea, l, q⟩ => ?_) ht
  subst ex
  obtain rfl : u = Value.ref a := rx
  refine getmeth_ok I1 ea cl hm l ?_
  exact PySem.W.callWith_K0 (first := [.ref a]) I1.kIn hm.kp (run_fnS (us := [.ref a]) (vs := [.ref a]) FO hr hb (hx σ) I1 (.cons rfl .nil) q)
theorem up_meth {zs : ZSp} {zE : ZW} {W : WX} {t : ZA} (gC : X.mg c = some (.ref C)) (wk : Wok X.K X.mg F0 W zE) {s : St} {H : Hp} {Q : VK} (h : UE X F0 (zMeth c m zs zE fa t) s H Q) : tMethS C m (liftSp X.K X.mg zs) (WE W) (UE X F0 fa) (UA X F0 t) s H Q := by
  obtain ⟨F, rr, M, R, s0, w, e, h, k⟩ := h
  refine ⟨F, rr, M, _, s0, w, e, h, fun d M1 h1 F1 H1 v s1 w1 r1 => ?_⟩
  obtain ⟨q, fs, C', dx, vs, rfl, rfl, e1, g1, h2, h3, h4, h5⟩ := onIns_out w1 r1 h1
  obtain rfl := ref_inj gC g1
  refine ⟨q, dx, _, rfl, h2, lookup_none h4, F1, rr, M1, _, s0.trans s1, w1, e.mono s1, h5, fun ds M2 h6 F2 H2 us s2 w2 r2 => ⟨F2, M2, _, R, _, w2, .cons (.ref q) r2, h6, k.mono (s1.trans s2), fun c fs M' hx F' H' cls d s3 w3 rx => ?_⟩⟩
  exact wk c fs rr M' hx F' s H' cls d (s0.trans ((s1.trans s2).trans s3)) w3 (e.mono ((s1.trans s2).trans s3)) rx
theorem ze_meth {k : Nat} {g : Addr} {fd : FuncData} {ps : List Str} {zs : ZSp} {zE : ZW} {W : WX} {e : Expr} {es : List Expr} {t : ZA} {pl : Sem Bool} (gC : X.mg c = some (.ref C)) (cl : Cls X.K C) (hm : Meth X.K C m g) (FO : FnOk X.prog X.w X.K X.mg X.base (L2.CX X.prog X.w) k g fd ps (liftSp X.K X.mg zs)) (hr : Room k X.A) (hb : Binds X.K fd ps [])
    (tk : Takes X W) (wk : Wok X.K X.mg F0 W zE) (ho : PE X a (UE X F0 fa)) (ha : PA X (e :: es) (UA X F0 t)) (hst : starEach (e :: es) X.env = (false, eval e X.env) :: starEach es X.env := by rfl) (hpl : (backTo pos (starEach es X.env)).any (·.1) = false := by rfl)
    (ht : eval (.Call (.Attribute a m apos) (e :: es) [] pos) X.env = (do
      let ov ← eval a X.env
      standAt apos.atName
      let (f, first) ← holding [ov] (getMethod ov m pl)
      callWith pos f first (backTo pos (starEach (e :: es) X.env)) (backToKw pos (keywordEach [] X.env))) := by rfl) :
    PE X (.Call (.Attribute a m apos) (e :: es) [] pos) (UE X F0 (zMeth c m zs zE fa t)) := pe_imp (pe_methS ho cl hm FO hr hb (fun s => passAt tk s) ha hst hpl ht) fun s H Q h => up_meth gC wk h
theorem ze_meth0 {k : Nat} {g : Addr} {fd : FuncData} {ps : List Str} {zs : ZSp} {zE : ZW} {W : WX} {pl : Sem Bool} (gC : X.mg c = some (.ref C)) (cl : Cls X.K C) (hm : Meth X.K C m g) (FO : FnOk X.prog X.w X.K X.mg X.base (L2.CX X.prog X.w) k g fd ps (liftSp X.K X.mg zs)) (hr : Room k X.A) (hb : Binds X.K fd ps [])
    (tk : Takes X W) (wk : Wok X.K X.mg F0 W zE) (ho : PE X a (UE X F0 fa))
    (ht : eval (.Call (.Attribute a m apos) [] [] pos) X.env = (do
      let ov ← eval a X.env
      standAt apos.atName
      let (f, first) ← holding [ov] (getMethod ov m pl)
      callWith pos f first (backTo pos (starEach [] X.env)) (backToKw pos (keywordEach [] X.env))) := by rfl) :
    PE X (.Call (.Attribute a m apos) [] [] pos) (UE X F0 (zMeth c m zs zE fa zNil)) := pe_imp (pe_methS0 ho cl hm FO hr hb (fun s => passAt tk s) ht) fun s H Q h => by
  have h' := up_meth gC wk h
  obtain ⟨F, rr, M, R, s0, w, e, h1, k⟩ := h'
  refine ⟨F, rr, M, R, s0, w, e, h1, fun d M1 h1 F1 H1 v s1 w1 r1 => ?_⟩
  obtain ⟨q, dx, fs, e1, e2, e3, F2, rr2, M2, R2, g1, w2, e4, h4, k4⟩ := k d M1 h1 F1 H1 v s1 w1 r1
  exact ⟨q, dx, fs, e1, e2, e3, k4 [] M2 h4 F2 H1 [] (Le.refl _) w2 .nil⟩
/-- C(..): a new instance, then __init__ -/
def tMakeS (C : Addr) (sp : Sp) (E : St → XK) (t : TA) : TE := fun σ H Q => t σ H fun vs H1 => ∀ x dx, H1 x = none → H1 dx = none → dx ≠ x →
  sp (.ref x :: vs) (upd (upd H1 dx (.own x)) x (.ins C dx [])) (fun v H2 => v = .non ∧ Q (.ref x) H2) (E σ)
theorem run_makeS {k : Nat} {g : Addr} {fd : FuncData} {ps : List Str} {sp : Sp} {E : St → XK} {CX : CXT} {pins : List (Addr × Obj)} {σ : St} {H : Hp} {s : Shared} {Q : VK} {us : List Value} {vs : List V} (Mm : Mk X.K C g) (FO : FnOk X.prog X.w X.K X.mg X.base CX k g fd ps sp) (hr : Room (k + 1) X.A) (hb : Binds X.K fd ps [])
    (hx : PassesAt CX X σ (E σ)) (I : Inv X pins σ H s) (r : Vals vs us)
    (h : ∀ x dx, H x = none → H dx = none → dx ≠ x → sp (.ref x :: vs) (upd (upd H dx (.own x)) x (.ins C dx [])) (fun v H2 => v = .non ∧ Q (.ref x) H2) (E σ)) :
    wpAny (model X.prog X.w) X.A (call (.ref C) us) (EP X pins σ Q) X.xe s := by
  have hq := h (s.heap.objs.size + 1) s.heap.objs.size (I.hok.fresh (Nat.le_succ _)) (I.hok.fresh (Nat.le_refl _)) (Nat.ne_of_lt (Nat.lt_succ_self _))
  have I2 := Inv.made (C := C) I
  have r2 : Vals (V.ref (s.heap.objs.size + 1) :: vs) (Value.ref (s.heap.objs.size + 1) :: us) := .cons rfl r
  have hl : (Value.ref (s.heap.objs.size + 1) :: us).length = ps.length := by
    have e := r2.length
    rw [FO.len _ _ _ _ hq] at e
    exact e.symm
  have b := hb { s with heap := (s.heap.push PySem.W.emptyDict).push (PySem.W.instObj C s.heap.objs.size) } (Value.ref (s.heap.objs.size + 1) :: us) I2.kIn (by rw [List.append_nil]; exact hl)
  rw [List.append_nil] at b
  refine wpAny_call (make_map (f := g) I.kIn Mm.makes Mm.init (beq_iff_eq.mp Mm.fn) (codeAny_mono (FO.run _ X.stack _ _ ⟨Value.ref (s.heap.objs.size + 1) :: us, []⟩ (Value.ref (s.heap.objs.size + 1) :: us) _ _ (E σ) (hr.make C us [])
    (I2.env0.make C us []) b r2 hq) fun r s' hq' => ?_))
  cases r with
  | error e => exact hx pins _ _ e s' I2 hq'
  | ok fl =>
    cases fl with
    | ret u =>
      obtain ⟨v, H', I3, rv, ev, q3⟩ := I2.after hq'
      subst ev
      exact ⟨rv, ⟨V.ref (s.heap.objs.size + 1), H', I3, rfl, q3⟩⟩
    | next => exact False.elim hq'
    | brk => exact False.elim hq'
    | cont => exact False.elim hq'
theorem pe_makeS {k : Nat} {g : Addr} {fd : FuncData} {ps : List Str} {sp : Sp} {E : St → XK} {CX : CXT} {e : Expr} {es : List Expr} {t : TA} (Mm : Mk X.K C g) (FO : FnOk X.prog X.w X.K X.mg X.base CX k g fd ps sp) (hr : Room (k + 1) X.A) (hg : Gl X x) (hm : X.mg x = some (.ref C)) (hb : Binds X.K fd ps []) (hx : ∀ σ, PassesAt CX X σ (E σ))
    (ha : PA X (e :: es) t) (hdb : (x == ("__debug__" : Str)) = false := by decide) (he : starEach (e :: es) X.env = (false, eval e X.env) :: starEach es X.env := by rfl) (hpl : (backTo pos (starEach es X.env)).any (·.1) = false := by rfl) :
    PE X (.Call (.Name x p) (e :: es) [] pos) (tMakeS C sp E t) := by
  refine ⟨fun pins s σ H Q I h => ?_⟩
  refine wpAny_Call_Name_kw (ld_glob I hg hm ?_ hdb)
  refine PySem.W.callWith_K (h₀ := X.base) I.ok.mod.kin Mm.kp (thn (ha.run pos pins s σ H _ I h) fun us s1 ⟨vs, H1, I1, r, q⟩ => ⟨I1.kIn, ?_⟩) he hpl
  exact run_makeS Mm FO hr hb (hx σ) I1 r q
theorem pe_makeS0 {k : Nat} {g : Addr} {fd : FuncData} {ps : List Str} {sp : Sp} {E : St → XK} {CX : CXT} (Mm : Mk X.K C g) (FO : FnOk X.prog X.w X.K X.mg X.base CX k g fd ps sp) (hr : Room (k + 1) X.A) (hg : Gl X x) (hm : X.mg x = some (.ref C)) (hb : Binds X.K fd ps []) (hx : ∀ σ, PassesAt CX X σ (E σ))
    (hdb : (x == ("__debug__" : Str)) = false := by decide) : PE X (.Call (.Name x p) [] [] pos) (tMakeS C sp E tNil) := by
  refine ⟨fun pins s σ H Q I h => ?_⟩
  refine wpAny_Call_Name_kw (ld_glob I hg hm ?_ hdb)
  exact PySem.W.callWith_K0 I.kIn Mm.kp (run_makeS (us := []) Mm FO hr hb (hx σ) I .nil h)
theorem make_low {zs : ZSp} {zE : ZW} {W : WX} (gC : X.mg c = some (.ref C)) (wk : Wok X.K X.mg F0 W zE) {F : Fz} {rr : Env} {M1 : Mh} {R : QZ} {s : St} {H1 : Hp} {Q : VK} {ds : List D} {vs : List V} (s0 : Ge F0 F) (w : Wd X.K X.mg F H1 M1) (e : RepE X.K X.mg F s rr) (rl : RepL X.K X.mg F vs ds)
    (h : ∀ p, M1 p = none → zs (.ref p :: ds) (mup M1 p (.ins c [])) (fun d M2 => d = .non ∧ R (.ref p) M2) fun c fs M' => zE c fs rr M') (k : Kq X.K X.mg F R Q) : ∀ y dx, H1 y = none → H1 dx = none → dx ≠ y →
    liftSp X.K X.mg zs (.ref y :: vs) (upd (upd H1 dx (.own y)) y (.ins C dx [])) (fun v H2 => v = .non ∧ Q (.ref y) H2) (WE W s) := by
  intro y dx hy hdx ne
  obtain ⟨s1, w1⟩ := w.laidF (o := .own y) hdx
  have hy' : upd H1 dx (.own y) y = none := by rw [upd_ne (Ne.symm ne)]; exact hy
  obtain ⟨m0, _, _⟩ := w1.free hy'
  have w2 : Wd X.K X.mg (F.up dx (.own y)) (upd (upd H1 dx (.own y)) y (.ins C dx [])) (mup M1 y (.ins c [])) := w1.laidM hy' (by intro z; cases z) ⟨C, dx, [], gC, upd_same, .nil⟩
  refine ⟨_, _, _, _, _, w2, .cons (.ref y) (rl.mono s1), h y m0, fun d M2 ⟨hd, hR⟩ F' H' v s2 w3 r3 => ?_, fun c fs M' hx F' H' cls d s2 w3 rx => ?_⟩
  · subst hd
    cases r3
    exact ⟨rfl, k _ _ hR F' H' _ (s1.trans s2) w3 (.ref y)⟩
  · exact wk c fs rr M' hx F' s H' cls d (s0.trans (s1.trans s2)) w3 (e.mono (s1.trans s2)) rx
theorem ze_make {k : Nat} {g : Addr} {fd : FuncData} {ps : List Str} {zs : ZSp} {zE : ZW} {W : WX} {e : Expr} {es : List Expr} {t : ZA} (gC : X.mg c = some (.ref C)) (Mm : Mk X.K C g) (FO : FnOk X.prog X.w X.K X.mg X.base (L2.CX X.prog X.w) k g fd ps (liftSp X.K X.mg zs)) (hr : Room (k + 1) X.A) (hb : Binds X.K fd ps [])
    (tk : Takes X W) (wk : Wok X.K X.mg F0 W zE) (ha : PA X (e :: es) (UA X F0 t)) (hg : Gl X c := by rfl) (hdb : (c == ("__debug__" : Str)) = false := by decide) (he : starEach (e :: es) X.env = (false, eval e X.env) :: starEach es X.env := by rfl) (hpl : (backTo pos (starEach es X.env)).any (·.1) = false := by rfl) :
    PE X (.Call (.Name c p) (e :: es) [] pos) (UE X F0 (zMake c zs zE t)) := pe_imp (pe_makeS Mm FO hr hg gC hb (fun s => passAt tk s) ha hdb he hpl) fun s H Q h => by
  obtain ⟨F, rr, M, R, s0, w, e, h, k⟩ := h
  exact ⟨F, rr, M, _, s0, w, e, h, fun ds M1 h1 F1 H1 vs s1 w1 r1 => make_low gC wk (s0.trans s1) w1 (e.mono s1) r1 h1 (k.mono s1)⟩
theorem ze_make0 {k : Nat} {g : Addr} {fd : FuncData} {ps : List Str} {zs : ZSp} {zE : ZW} {W : WX} (gC : X.mg c = some (.ref C)) (Mm : Mk X.K C g) (FO : FnOk X.prog X.w X.K X.mg X.base (L2.CX X.prog X.w) k g fd ps (liftSp X.K X.mg zs)) (hr : Room (k + 1) X.A) (hb : Binds X.K fd ps [])
    (tk : Takes X W) (wk : Wok X.K X.mg F0 W zE) (hg : Gl X c := by rfl) (hdb : (c == ("__debug__" : Str)) = false := by decide) :
    PE X (.Call (.Name c p) [] [] pos) (UE X F0 (zMake c zs zE zNil)) := pe_imp (pe_makeS0 Mm FO hr hg gC hb (fun s => passAt tk s) hdb) fun s H Q h => by
  obtain ⟨F, rr, M, R, s0, w, e, h, k⟩ := h
  exact make_low gC wk s0 w e .nil h k
end
end Zl

/-! Zl10: try .. except X as e: y = e; isinstance of what was caught; {} -/
namespace Zl
open PySem L2 PySem.Spec PyProof.Rows
section
variable {X : Cx} {pins : List (Addr × Obj)} {σ : L2.St} {H : Hp} {s : Shared}
/-- an exception object that nobody tracked is tracked -/
theorem track {a C : Addr} {d : Option Addr} {oe : Obj} {vs : Array Value} (I : Inv X pins σ H s) (ha : s.heap.get? a = some oe) (z : Zc (.ref C) d oe) (hd : oe.data = .fields vs) (na : H a = none) (n0 : X.s_0.heap.get? a = none)
    (nL : a ≠ X.env.locals) (nC : ∀ x c, X.env.cells.lookup x = some c → c ≠ a) (nP : ∀ p ∈ X.pn ++ pins, p.1 ≠ a) : Inv X pins σ (upd H a (ExZ C d a)) s := by
  have ne : ∀ b o, H b = some o → b ≠ a := fun b o e z => by rw [z, na] at e; cases e
  refine ⟨I.ok, I.os, I.bare, ⟨I.base.keep, I.base.slot, fun b o e n hq => ?_, I.base.there, fun b xs e => ?_, fun b o u e => ?_, fun b ps e => ?_⟩, I.loc, I.cell, ?_, fun x c e => ?_, fun p hp => ?_, fun b u e => ?_, I.len⟩
  · rw [upd_ne (fun z => by rw [z, n0] at e; cases e)]; exact I.base.free b o e n hq
  · have q := I.base.tups b xs e
    rw [upd_ne (ne b _ q)]; exact q
  · have q := I.base.frzs b o u e
    rw [upd_ne (ne b _ q)]; exact q
  · obtain ⟨m, q⟩ := I.base.tbls b ps e
    exact ⟨m, by rw [upd_ne (ne b _ q)]; exact q⟩
  · rw [upd_ne (Ne.symm nL)]; exact I.free
  · rw [upd_ne (nC x c e)]; exact I.freeC x c e
  · obtain ⟨h1, h2, h3⟩ := I.pin p hp
    exact ⟨h1, by rw [upd_ne (nP p hp)]; exact h2, h3⟩
  · by_cases hb : b = a
    · subst hb
      rw [upd_same] at e; cases e
      exact ⟨⟨oe, vs, ha, z, hd⟩, ⟨oe, ha⟩, fun _ _ ⟨o, v, q, r⟩ k => ⟨o, v, k o q, r⟩⟩
    · rw [upd_ne hb] at e
      refine (I.hok b u e).stay (fun c v _ q => q) (fun c q => ?_) fun c xs q => ?_
      · rw [upd_ne (ne c _ q)]; exact q
      · rw [upd_ne (ne c _ q)]; exact q
end
/-- what the clause wishes of an exception of the body: it stays, tracked -/
def wKeep (K : PySem.W.Frag) (c : Value) (i : Nat) (ts : Addr → Value → Option Addr → TS) (D : Ends) : WX := fun cls d σ H =>
  PySem.W.exmOne K cls c = some true ∧ ∃ C, cls = .ref C ∧ ∀ a, H a = none → ts a cls d { nx := fun σ' H' => D.nx (σ'.set i none) (upd H' a (ExZ C d a)), rt := fun _ _ => False, bk := fun _ _ => False, ct := fun _ _ => False } (σ.set i (some (.ref a))) H
section
variable {X : Cx} {x n : Str} {c : Value} {i : Nat} {body suite : List Stmt} {b₀ : Stmt} {np pos pos' : Pos} {tb : WX → TS} {ts : Addr → Value → Option Addr → TS}
theorem ps_try_keep (hs : X.stack = X.env :: X.outer) (hf : X.env.frame = some X.env.locals) (hex : X.ex = []) (hN : X.N.Nodup) (hi : X.N[i]? = some n) (hln : X.env.kindOf n = some .local) (hc : Names X x c)
    (hb : ∀ (W : WX) (pn : List (Addr × Obj)) (xe : Value → Shared → Prop), Takes (X.tr pn xe) W → PassesOwn (model X.prog X.w) X.A X.env xe → PSs (X.tr pn xe) body (tb W))
    (hsu : ∀ (a : Addr) (oe : Obj) (cls : Value) (d : Option Addr) (pn : List (Addr × Obj)), Zc cls d oe → (∃ vs, oe.data = .fields vs) → PSs (X.suite a ((a, oe) :: pn)) (b₀ :: suite) (ts a cls d)) :
    PS X (.Try body [.ExceptHandler (some (.Name x np)) (some n) (b₀ :: suite) pos'] [] [] pos) (fun D σ H => tb (wKeep X.K c i ts D) D σ H) := by
  refine ⟨fun pins s σ H D I h => ?_⟩
  have ok := I.ok
  have hfr : X.A.frames = some (X.env :: X.outer) := by rw [ok.frames, hs]
  have hloc : Loc X.env.scope n := .inl hln
  refine wpAny_Try_except ?_
  refine wpAny_mono ((hb (wKeep X.K c i ts D) (X.pn ++ pins) (fun e s₁ => wpAny (model X.prog X.w) X.A (noteFrame e X.env) (fun _ s₂ => wpAny (model X.prog X.w) X.A (setFlight e none) (fun _ s₃ =>
    wpAny (model X.prog X.w) X.A (handleBy e X.env [.ExceptHandler (some (.Name x np)) (some n) (b₀ :: suite) pos']) (SP X pins D) X.xe s₃) X.xe s₂) X.xe s₁) (fun u s' xx => ?_) PassesOwn.looking).run [] s σ H D (I.toTry _) h) (fun f s1 hsp => ?_) (fun e s1 he => he)
  · obtain ⟨a, B, sI, pins', σ', H', cls, d, rfl, J', nb, up, sky, na, os, ag, hb1, C, rfl, hyes⟩ := xx
    have J : Inv X pins σ' H' sI := J'.ofTry ok
    have sky' : Sky B (X.env :: X.outer) a (Zc (.ref C) d) X.env.locals s'.heap := by rw [← hs]; exact sky
    show wpAny (model X.prog X.w) X.A (noteFrame (.ref a) X.env) _ _ _
    refine Sky.land Zc.steady hfr hf sky' fun h3 fl3 up3 => ?_
    have J3 : Inv X pins σ' H' { s' with heap := h3 } := J.landed nb fl3.1 (up.trans up3) os ag
    obtain ⟨oe3, vs3, he3, hz3, hd3⟩ := fl3.there
    have notFr : ∀ {h : Heap} {o : Obj} {vs : Array Value}, h.FunFrames B (X.env :: X.outer) → h.get? a = some o → o.data = .fields vs → a ∉ frs (X.env :: X.outer) := fun {h o vs} ff e dd hm => by
      obtain ⟨_, o', e', hnf⟩ := ff.mem hm
      rw [e] at e'; cases e'
      exact hnf _ dd
    have nfr := notFr fl3.2.2.1 he3 hd3
    have nL : a ≠ X.env.locals := fun z => nfr (List.mem_filterMap.mpr ⟨X.env, List.mem_cons_self, by rw [hf, z]⟩)
    have nF : a ∉ X.fs := fun hm => by
      obtain ⟨e, he, q⟩ := List.mem_filterMap.mp hm
      exact nfr (List.mem_filterMap.mpr ⟨e, List.mem_cons_of_mem _ he, q⟩)
    have gI : sI.heap.get? a = none := by
      cases q : sI.heap.get? a with
      | none => rfl
      | some o =>
        have := nb a o q (by rw [hs]; exact nfr)
        rw [fl3.2.1] at this; cases this
    have n0 : X.s_0.heap.get? a = none := by
      cases q : X.s_0.heap.get? a with
      | none => rfl
      | some o =>
        obtain ⟨o', q'⟩ := J.base.there a o q (by rw [hex]; exact fun z => nomatch z)
        rw [gI] at q'; cases q'
    have nC : ∀ x c, X.env.cells.lookup x = some c → c ≠ a := fun x c e z => by
      obtain ⟨v, o, q, _⟩ := J.cell x c e
      rw [z, gI] at q; cases q
    have nP : ∀ p ∈ X.pn ++ pins, p.1 ≠ a := fun p hp z => by
      have q := (J.pin p hp).1
      rw [z, gI] at q; cases q
    have S3 := J3.suite he3 hd3 na nL nF
    refine wpAny_handleBy_cons (codeAny_handlers_test ?_) (by intro q; cases q)
    have LT : PySem.W.Looks (model X.prog X.w) h3 (typeOf (.ref a)) (.ref C) := fun A Q E s k q => wpAny_typeOf_ref (k _ _ he3) (by rw [hz3.1]; exact q)
    have LM := PySem.W.exm_one (M := model X.prog X.w) (J3.kIn) LT hb1
    have test : ∀ {Q : Value → Shared → Prop} {E : Value → Shared → Prop}, Q c { s' with heap := h3 } → wpAny (model X.prog X.w) (X.A.mark (some (.ref a))) (eval (.Name x np) X.env) Q E { s' with heap := h3 } := fun {Q E} q => by
      obtain ⟨hg, hdbg, hm | ⟨hm, hv, hnn⟩⟩ := hc
      · exact ld_glob (X := X.suite a ((a, oe3) :: (X.pn ++ pins))) S3 hg hm q hdbg
      · exact ld_blt (X := X.suite a ((a, oe3) :: (X.pn ++ pins))) S3 hg hm hv q hnn hdbg
    refine test (LM.here ?_)
    refine codeAny_handlers_suite_as ?_
    refine HandSPX.lands_againZ fl3 fun h4 fl4 up4 => ?_
    have J4 : Inv X pins σ' H' { s' with heap := h4 } := J.landed nb fl4.1 ((up.trans up3).trans up4) os ag
    obtain ⟨oe4, vs4, he4, hz4, hd4⟩ := fl4.there
    have S4 := J4.suite he4 hd4 na nL nF
    refine store_ok (X := X.suite a ((a, oe4) :: (X.pn ++ pins))) (v := .ref a) S4 hN hi hloc rfl (fun s5 S5 => ?_) (.inr hln)
    refine wpAny_mono ((hsu a oe4 (.ref C) d (X.pn ++ pins) hz4 ⟨_, hd4⟩).run [] s5 _ H' _ S5 (hyes a na)) (fun f s6 hsp => ?_) (fun _ _ z => False.elim z)
    cases f with
    | next =>
      obtain ⟨σ6, H6, S6, q6⟩ := hsp
      obtain ⟨g1, g2, _⟩ := S6.pin (a, oe4) (List.mem_append.mpr (.inl List.mem_cons_self))
      have T6 := track (S6.unsuite ok) g1 hz4 hd4 g2 n0 nL nC nP
      exact gone_ok T6 hN hi hln fun s7 J7 => ⟨_, _, J7, q6⟩
    | brk => obtain ⟨σ6, H6, S6, q6⟩ := hsp; exact False.elim q6
    | cont => obtain ⟨σ6, H6, S6, q6⟩ := hsp; exact False.elim q6
    | ret u => obtain ⟨v6, σ6, H6, S6, r6, q6⟩ := hsp; exact False.elim q6
  · cases f with
    | next =>
      obtain ⟨σ', H', J', q⟩ := hsp
      exact wpAny_execs_nil ⟨σ', H', J'.ofTry ok, q⟩
    | brk =>
      obtain ⟨σ', H', J', q⟩ := hsp
      exact ⟨σ', H', J'.ofTry ok, q⟩
    | cont =>
      obtain ⟨σ', H', J', q⟩ := hsp
      exact ⟨σ', H', J'.ofTry ok, q⟩
    | ret u =>
      obtain ⟨v, σ', H', J', r, q⟩ := hsp
      exact ⟨v, σ', H', J'.ofTry ok, r, q⟩
end
/-! ### the reading -/
def zTry (cs : List Str) (i j : Nat) (zb : ZW → ZS) : ZS := fun E r M => zb (fun c fs r' M' => c ∈ cs ∧ fs = [] ∧ i < r'.length ∧ E.nx (st (st (st r' i none) j (some (.exc c))) i none) M') E r M
section
variable {X : Cx} {F0 : Fz}
theorem RepE.any {K : PySem.W.Frag} {mg : Str → Option Value} {F : Fz} {s : L2.St} {r : Env} {x : Option V} (i : Nat) (h : RepE K mg F s r) : RepE K mg F (s.set i x) (st r i none) := by
  refine ⟨by rw [List.length_set, st_len]; exact h.1, fun j e z => ?_⟩
  by_cases hj : j = i
  · subst hj
    obtain ⟨a, b⟩ := gt_st_same _ _ _ _ z
    cases a
  · rw [gt_st_ne _ _ _ _ hj] at z
    obtain ⟨w, a, b⟩ := h.2 j e z
    exact ⟨w, by rw [List.getElem?_set_ne (Ne.symm hj)]; exact a, b⟩
theorem zs_try {i j : Nat} {n y x : Str} {CL : Addr} {cs : List Str} {zb : ZW → ZS} {body : List Stmt} {np py pe pa pos pos' : Pos} (hs : X.stack = X.env :: X.outer) (hf : X.env.frame = some X.env.locals) (hex : X.ex = []) (hN : X.N.Nodup) (gL : X.mg x = some (.ref CL))
    (hcs : ∀ c ∈ cs, ∀ C, X.mg c = some (.ref C) → PySem.W.exmOne X.K (.ref C) (.ref CL) = some true)
    (hb : ∀ (F1 : Fz) (W : WX) (zE : ZW) (pn : List (Addr × Obj)) (xe : Value → Shared → Prop), Takes (X.tr pn xe) W → PassesOwn (model X.prog X.w) X.A X.env xe → Wok X.K X.mg F1 W zE → PSs (X.tr pn xe) body (upS X.K X.mg F1 (zb zE)))
    (hi : X.N[i]? = some n := by rfl) (hj : X.N[j]? = some y := by rfl) (hln : X.env.kindOf n = some .local := by rfl) (hly : X.env.scope.names.lookup y = some .local := by rfl) (hvn : Vis X.env.scope n := by first | exact Or.inl rfl | exact Or.inr (Or.inl rfl) | exact Or.inr (Or.inr rfl))
    (hg : Gl X x := by rfl) (hdb : (x == ("__debug__" : Str)) = false := by decide) (hd : (n == ("__debug__" : Str)) = false := by decide) (hcd : (n == ("__classdict__" : Str)) = false := by decide)
    (hsw : swapsWith (.Name n pe) (some (.Name y py)) pa.line X.env = pure false := by rfl) :
    PS X (.Try body [.ExceptHandler (some (.Name x np)) (some n) [.Assign [.Name y py] (.Name n pe) pa] pos'] [] [] pos) (US X F0 (zTry cs i j zb)) := by
  refine ps_imp (ps_try_keep (tb := fun W D s H => ∃ F1 zE, Wok X.K X.mg F1 W zE ∧ upS X.K X.mg F1 (zb zE) D s H) hs hf hex hN hi hln ⟨hg, hdb, .inl gL⟩ (fun W pn xe tk hp => ⟨fun pins s r H E I ⟨F1, zE, wk, q⟩ => (hb F1 W zE pn xe tk hp wk).run pins s r H E I q⟩)
    (fun a oe cls d pn hz hfl => pss_one (ps_set (X := X.suite a ((a, oe) :: pn)) (i := j) hN hj (.inl hly) (pe_var (X := X.suite a ((a, oe) :: pn)) hi hvn hd hcd) hsw (.inr hly)))) fun E s H h => ?_
  obtain ⟨F, rr, M, Z, s0, w, e, h, k⟩ := h
  refine ⟨F, _, ?_, F, rr, M, Z, Ge.refl _, w, e, h, k⟩
  rintro c fs r' M' ⟨hc, hfs, hlt, hz⟩ F2 s2 H2 cls d g w2 e2 ⟨C, gC, rfl, hx⟩
  have hd : d = none := by
    rcases hx with ⟨_, hd⟩ | ⟨_, _, z, _⟩
    · exact hd
    · exact absurd hfs z
  subst hd
  refine ⟨hcs c hc C gC, C, rfl, fun a ha => ⟨.ref a, ?_, ?_⟩⟩
  · rw [List.getElem?_set_self (by rw [e2.1]; exact hlt)]
  · have w3 : Wd X.K X.mg ⟨F2.f, F.u⟩ H2 M' := w2.less g.u
    obtain ⟨s4, w4⟩ := w3.laidF (o := ExZ C none a) ha
    have e3 : RepE X.K X.mg ⟨F2.f, F.u⟩ s2 r' := ⟨e2.1, fun i d q => let ⟨v, a, b⟩ := e2.2 i d q; ⟨v, a, b.monoF (F := F2) (F' := ⟨F2.f, F.u⟩) (Same.refl _)⟩⟩
    refine k.nx _ M' hz _ _ _ (Le.trans (⟨g.f, rfl⟩ : Le F ⟨F2.f, F.u⟩) s4) w4 ?_
    exact (((e3.mono s4).any (x := some (.ref a)) i).set j (.exc gC (show upd F2.f a (ExZ C none a) a = some (ExZ C none a) from upd_same) fun _ z => nomatch z)).unset i
/-! ### isinstance of what was caught -/
theorem call_isX : CallR X (.builtin "isinstance") (fun xs H Q => ∃ (a C : Addr) (d : Option Addr) (c : V) (cv : Value) (b : Bool), xs = [.ref a, c] ∧ H a = some (ExZ C d a) ∧ (∀ dx, d = some dx → ∃ fs, H dx = some (.xd fs)) ∧ ExcC X.K C ∧ (∀ u, RelV c u → u = cv) ∧ PySem.W.kitOne X.K (.ref C) cv = some b ∧ Q (.bl b) H) := by
  intro pins s σ H xs us Q I r h
  obtain ⟨a, C, d, c, cv, b, rfl, ha, hX, T, hcv, e, q⟩ := h
  cases r with
  | cons rx rr =>
    cases rr with
    | cons rt rr =>
      cases rr
      cases rx
      have ec := hcv _ rt
      subst ec
      obtain ⟨⟨oe, vs, hget, hz, hv⟩, _, _⟩ := I.hok a _ ha
      have J : ∃ od, PySem.W.InstAt s.heap a oe C od := by
        obtain ⟨oc, od, oda, osl⟩ := oe
        obtain ⟨h1, h2⟩ := hz
        dsimp only at h1 h2 hv
        subst h1 h2 hv
        cases od with
        | none => exact ⟨none, hget, rfl, rfl, trivial⟩
        | some dx =>
          obtain ⟨fs, hx⟩ := hX dx rfl
          have hx : ObjOk X.prog X.w H s.heap dx (.xd fs) := I.hok dx _ hx
          obtain ⟨mA, hns, _⟩ := hx
          obtain ⟨od, ho, _⟩ := lookIn_ns hns
          exact ⟨some od, hget, rfl, rfl, ho⟩
      obtain ⟨od, J⟩ := J
      have hcl : (PySem.W.clsIn X.K C).isSome = true := by
        obtain ⟨cd, hc, _⟩ := PySem.W.any_some T.hd
        rw [hc]; rfl
      exact PySem.W.kia_one (PySem.W.kitx_exc hcl T.hg T.hk T.hs T.ha T.hn T.ht T.hm) I.kIn J e (fun z => nomatch z) fun tk => ⟨.bl b, H, I.kept (t' := tk) fun _ _ z => z, rfl, q⟩
/-- by a table: the class's name, the answer -/
def dIsx (tab : List (Str × Bool)) (x : D) (M : Mh) (Q : QZ) : Prop := match x with
  | .exc c => (match tab.lookup c with | some b => Q (.bl b) M | none => False)
  | _ => False
variable {a : Expr} {fa : ZE} {p p2 pos : Pos}
theorem ze_isxO {x : Str} {cv : Addr} {tab : List (Str × Bool)} (ha : PE X a (UE X F0 fa)) (hm : X.mg "isinstance" = none) (hm2 : X.mg x = some (.ref cv)) (hk : ∀ c b, tab.lookup c = some b → ∀ C, X.mg c = some (.ref C) → ExcC X.K C ∧ PySem.W.kitOne X.K (.ref C) (.ref cv) = some b)
    (hg : Gl X "isinstance" := by rfl) (hg2 : Gl X x := by rfl) (hd2 : (x == ("__debug__" : Str)) = false := by decide)
    (he : starEach [a, .Name x p2] X.env = (false, eval a X.env) :: starEach [.Name x p2] X.env := by rfl) (he2 : starEach [.Name x p2] X.env = (false, eval (.Name x p2) X.env) :: starEach [] X.env := by rfl) (hpl : (backTo pos (starEach [.Name x p2] X.env)).any (·.1) = false := by rfl) :
    PE X (.Call (.Name "isinstance" p) [a, .Name x p2] [] pos) (UE X F0 (z1 (dIsx tab) fa)) := by
  refine pe_imp (pe_callB call_isX hg hm (by decide +kernel) (pa_cons ha (pa_cons (pe_glob (v := .ref cv) hg2 hm2 rfl hd2) pa_nil he2) he) (by decide) (by decide) he hpl) fun s H Q h => ?_
  obtain ⟨F, rr, M, R, s0, w, e, h, k⟩ := h
  refine ⟨F, rr, M, _, s0, w, e, h, fun d M1 h1 F1 H1 v s1 w1 r1 => ?_⟩
  cases d with
  | exc c =>
    have h1' : (match tab.lookup c with | some b => R (.bl b) M1 | none => False) := h1
    cases q : tab.lookup c with
    | none => rw [q] at h1'; exact h1'.elim
    | some b =>
      rw [q] at h1'
      cases r1 with
      | exc gC hF hX =>
        obtain ⟨T, kk⟩ := hk c b q _ gC
        exact ⟨_, _, _, .ref cv, .ref cv, b, rfl, w1.sub _ _ hF, (fun dx z => let ⟨fs, q⟩ := hX dx z; ⟨fs, w1.sub _ _ q⟩), T, fun u hu => hu, kk, k _ _ h1' _ _ _ s1 w1 (.bl _)⟩
  | _ => exact False.elim h1
theorem ze_isxB {x : Str} {T : String} {tab : List (Str × Bool)} (ha : PE X a (UE X F0 fa)) (hm : X.mg "isinstance" = none) (hm2 : X.mg x = none) (hv2 : bootBuiltins x = some (.type T)) (hk : ∀ c b, tab.lookup c = some b → ∀ C, X.mg c = some (.ref C) → ExcC X.K C ∧ PySem.W.kitOne X.K (.ref C) (.type T) = some b)
    (hg : Gl X "isinstance" := by rfl) (hg2 : Gl X x := by rfl) (hn2 : x ≠ "__name__" := by decide) (hd2 : (x == ("__debug__" : Str)) = false := by decide)
    (he : starEach [a, .Name x p2] X.env = (false, eval a X.env) :: starEach [.Name x p2] X.env := by rfl) (he2 : starEach [.Name x p2] X.env = (false, eval (.Name x p2) X.env) :: starEach [] X.env := by rfl) (hpl : (backTo pos (starEach [.Name x p2] X.env)).any (·.1) = false := by rfl) :
    PE X (.Call (.Name "isinstance" p) [a, .Name x p2] [] pos) (UE X F0 (z1 (dIsx tab) fa)) := by
  refine pe_imp (pe_callB call_isX hg hm (by decide +kernel) (pa_cons ha (pa_cons (pe_bltn (v := .ty T) hg2 hm2 hv2 rfl hn2 hd2) pa_nil he2) he) (by decide) (by decide) he hpl) fun s H Q h => ?_
  obtain ⟨F, rr, M, R, s0, w, e, h, k⟩ := h
  refine ⟨F, rr, M, _, s0, w, e, h, fun d M1 h1 F1 H1 v s1 w1 r1 => ?_⟩
  cases d with
  | exc c =>
    have h1' : (match tab.lookup c with | some b => R (.bl b) M1 | none => False) := h1
    cases q : tab.lookup c with
    | none => rw [q] at h1'; exact h1'.elim
    | some b =>
      rw [q] at h1'
      cases r1 with
      | exc gC hF hX =>
        obtain ⟨T', kk⟩ := hk c b q _ gC
        exact ⟨_, _, _, .ty T, .type T, b, rfl, w1.sub _ _ hF, (fun dx z => let ⟨fs, q⟩ := hX dx z; ⟨fs, w1.sub _ _ q⟩), T', fun u hu => hu, kk, k _ _ h1' _ _ _ s1 w1 (.bl _)⟩
  | _ => exact False.elim h1
/-! ### {} -/
def zDct : ZE := fun _ M Q => Q .dct M
theorem ze_dct : PE X (.Dict [] [] pos) (UE X F0 zDct) := pe_imp pe_dnewK fun s H Q h => by
  obtain ⟨F, rr, M, R, s0, w, e, h, k⟩ := h
  intro p hp
  obtain ⟨s1, w1⟩ := w.laidF (o := .dK []) hp
  exact k _ _ h _ _ _ s1 w1 (.dct upd_same)
end
/-! ### the facts of a class, as one question -/
def clB (K : PySem.W.Frag) (C : Addr) : Bool := PySem.W.plainGet K C Str.empty && (PySem.W.hasDictIn K C && (PySem.W.plainOver K C && decide (PySem.W.findIn K (.ref C) "__setattr__" = some (some (.builtin "object.__setattr__")))))
theorem clB_ok {K : PySem.W.Frag} {C : Addr} (h : clB K C = true) : Cls K C := by
  obtain ⟨h1, h⟩ := Bool.and_eq_true_iff.mp h
  obtain ⟨h2, h⟩ := Bool.and_eq_true_iff.mp h
  obtain ⟨h3, h4⟩ := Bool.and_eq_true_iff.mp h
  exact ⟨h1, h2, h3, of_decide_eq_true h4⟩
def mkB (K : PySem.W.Frag) (C f : Addr) : Bool := PySem.W.makesIn K C && (decide (PySem.W.findIn K (.ref C) "__init__" = some (some (.ref f))) && (PySem.W.isFn K (.ref f) && PySem.W.keepIn K (.ref C)))
theorem mkB_ok {K : PySem.W.Frag} {C f : Addr} (h : mkB K C f = true) : Mk K C f := by
  obtain ⟨h1, h⟩ := Bool.and_eq_true_iff.mp h
  obtain ⟨h2, h⟩ := Bool.and_eq_true_iff.mp h
  obtain ⟨h3, h4⟩ := Bool.and_eq_true_iff.mp h
  exact ⟨h1, of_decide_eq_true h2, h3, h4⟩
def naB (K : PySem.W.Frag) (C : Addr) (fs : List Str) : Bool := fs.all fun f => decide (PySem.W.findIn K (.ref C) f = some none)
theorem naB_ok {K : PySem.W.Frag} {C : Addr} {fs : List Str} {f : Str} (h : naB K C fs = true) (hf : fs.contains f = true) : NoAttr K C f := of_decide_eq_true (p := PySem.W.findIn K (.ref C) f = some none) (List.all_eq_true.mp h f (List.contains_iff_mem.mp hf))
def ecB (K : PySem.W.Frag) (C : Addr) : Bool := decide (PySem.W.findIn K (.ref C) "__getattribute__" = some (some (.builtin "BaseException.__getattribute__"))) && (decide (PySem.W.findIn K (.ref C) "__getattr__" = some none) && (decide (PySem.W.subIn K (.ref C) (.type "BaseException") = some true) && (PySem.W.hasDictIn K C &&
  (decide (PySem.W.findIn K (.ref C) "__class__" = some (some (.builtin "object.__class__"))) && (decide (PySem.W.specialIn K (.builtin "object.__class__") "__get__" = some (some (.builtin "getset_descriptor.__get__"))) && (decide (PySem.W.takesIn K (.builtin "object.__class__") = some true) && decide (PySem.W.mroIn K C (.type "object") = some true)))))))
theorem ecB_ok {K : PySem.W.Frag} {C : Addr} (h : ecB K C = true) : ExcC K C := by
  obtain ⟨h1, h⟩ := Bool.and_eq_true_iff.mp h
  obtain ⟨h2, h⟩ := Bool.and_eq_true_iff.mp h
  obtain ⟨h3, h⟩ := Bool.and_eq_true_iff.mp h
  obtain ⟨h4, h⟩ := Bool.and_eq_true_iff.mp h
  obtain ⟨h5, h⟩ := Bool.and_eq_true_iff.mp h
  obtain ⟨h6, h⟩ := Bool.and_eq_true_iff.mp h
  obtain ⟨h7, h8⟩ := Bool.and_eq_true_iff.mp h
  exact ⟨of_decide_eq_true h1, of_decide_eq_true h2, of_decide_eq_true h3, h4, of_decide_eq_true h5, of_decide_eq_true h6, of_decide_eq_true h7, of_decide_eq_true h8⟩
/-- the classes by name, as they stand -/
def kitB2 (K : PySem.W.Frag) (cv : Value) : List (Addr × Bool) → Bool
  | [] => true
  | (C, b) :: r => decide (PySem.W.kitOne K (.ref C) cv = some b) && kitB2 K cv r
theorem kitB2_ok {K : PySem.W.Frag} {cv : Value} {C : Addr} {b : Bool} : ∀ {l : List (Addr × Bool)}, kitB2 K cv l = true → (C, b) ∈ l → PySem.W.kitOne K (.ref C) cv = some b
  | (C', b') :: r, h, hm => by
    obtain ⟨h1, h2⟩ := Bool.and_eq_true_iff.mp h
    rcases List.mem_cons.mp hm with e | hm
    · cases e; exact of_decide_eq_true h1
    · exact kitB2_ok h2 hm
theorem lookup_mem {c : Str} {b : Bool} : ∀ {l : List (Str × Bool)}, l.lookup c = some b → (c, b) ∈ l
  | (k, x) :: r, h => by
    by_cases e : c = k
    · have hb : (c == k) = true := beq_iff_eq.mpr e
      simp only [List.lookup, hb] at h
      cases h; rw [e]; exact List.mem_cons_self
    · have hb : (c == k) = false := beq_eq_false_iff_ne.mpr e
      simp only [List.lookup, hb] at h
      exact List.mem_cons_of_mem _ (lookup_mem h)
/-! ### steps -/
section
variable {r : Env} {M : Mh} {Q : QZ} {a b : ZE} {t : ZA}
theorem mup_get {p q : Addr} {o o' : MO} (h : M q = none) (e : M p = some o) : mup M q o' p = some o := by rw [mup_ne (ne_of_m e h)]; exact e
theorem i_fld {c f : Str} (h : a r M fun d M1 => onIns M1 c d fun _ fs => onFd fs f fun v => Q v M1) : zFld c f a r M Q := h
theorem i_onIns {c : Str} {p : Addr} {fs : List (Str × D)} {k : Addr → List (Str × D) → Prop} (e : M p = some (.ins c fs)) (h : k p fs) : onIns M c (.ref p) k := by
  show (match M p with | some (.ins c' fs) => c' = c ∧ k p fs | _ => False); rw [e]; exact ⟨rfl, h⟩
theorem i_onFd {fs : List (Str × D)} {f : Str} {d : D} {k : D → Prop} (e : fs.lookup f = some d) (h : k d) : onFd fs f k := by
  unfold onFd; rw [e]; exact h
theorem i_setA {c f : Str} {E : ZEnds} (h : b r M fun y M1 => a r M1 fun d M2 => onIns M2 c d fun p fs => fs.length < 1000 ∧ E.nx r (mup M2 p (.ins c (putD f y fs)))) : zSetA c f a b E r M := h
theorem i_f1000 {fs : List (Str × D)} {P : Prop} (h : fs.length < 1000) (q : P) : fs.length < 1000 ∧ P := ⟨h, q⟩
theorem i_lkN {fs : List (Str × D)} {m : Str} {P : Prop} (h : fs.lookup m = none) (q : P) : fs.lookup m = none ∧ P := ⟨h, q⟩
theorem i_meth {c m : Str} {zs : ZSp} {zE : ZW} (h : a r M fun d M1 => onIns M1 c d fun p fs => fs.lookup m = none ∧ t r M1 fun ds M2 => zs (.ref p :: ds) M2 Q fun c fs M' => zE c fs r M') : zMeth c m zs zE a t r M Q := h
theorem i_make {c : Str} {zs : ZSp} {zE : ZW} (h : t r M fun ds M1 => ∀ p, M1 p = none → zs (.ref p :: ds) (mup M1 p (.ins c [])) (fun d M2 => d = .non ∧ Q (.ref p) M2) fun c fs M' => zE c fs r M') : zMake c zs zE t r M Q := h
theorem i_try {cs : List Str} {i j : Nat} {zb : ZW → ZS} {E : ZEnds} (h : zb (fun c fs r' M' => c ∈ cs ∧ fs = [] ∧ i < r'.length ∧ E.nx (st (st (st r' i none) j (some (.exc c))) i none) M') E r M) : zTry cs i j zb E r M := h
theorem i_isx {tab : List (Str × Bool)} {c : Str} {v : Bool} (e : tab.lookup c = some v) (q : Q (.bl v) M) : dIsx tab (.exc c) M Q := by
  show (match tab.lookup c with | some b => Q (.bl b) M | none => False); rw [e]; exact q
theorem i_tryx {cs : List Str} {i : Nat} {c : Str} {P : Prop} (h1 : decide (c ∈ cs) = true) (h2 : decide (i < r.length) = true) (q : P) : c ∈ cs ∧ ([] : List (Str × D)) = [] ∧ i < r.length ∧ P := ⟨of_decide_eq_true h1, rfl, of_decide_eq_true h2, q⟩
theorem i_dct (q : Q .dct M) : zDct r M Q := q
end
end Zl

/-! Zl11: x in a tuple of tuples; xs[::-1]; defs with defaults -/
namespace Zl
open PySem L2
theorem units65 {k : Nat} {A : Around} (r : Room k A) : A.units + 65 < cLine := by have := r.un; omega
def rInDT (K : PySem.W.Frag) : R2 := fun x y H Q => ∃ d ds, Dp K H x d ∧ Dp K H y (.tuple ds) ∧ SeqAt.shaped d = true ∧ SeqAt.shaped (.tuple ds) = true ∧ Q (.bl (ds.any fun z => PyData.eqv z d)) H
theorem op_inT {X : Cx} (hu : X.A.units + 65 < cLine) : OpR X (compareOp .In) (rInDT X.K) := by
  intro pins s σ H x y v u Q I rx ry h
  obtain ⟨d, ds, hd, he, sd, se, q⟩ := h
  obtain ⟨as, r1⟩ := Dp.reads I d x v hd rx
  obtain ⟨bs, r2⟩ := Dp.reads I (.tuple ds) y u he ry
  exact SeqAt.in_tuple_reads r2 r1 (SeqAt.canLay_of_shaped se) (SeqAt.canLay_of_shaped sd) (PyProof.Rows.room_in_shaped sd hu) ⟨.bl _, H, I, rfl, q⟩
/-- x in y, data in a tuple of data -/
def dInT (x y : D) (M : Mh) (Q : QZ) : Prop := match y with
  | .tup ys => plain x = true ∧ plains ys = true ∧ dep x ≤ 64 ∧ dep (.tup ys) ≤ 64 ∧ Q (.bl (ys.any fun z => eqD z x)) M
  | _ => False
theorem any_toP (x : D) : ∀ ys : List D, ((toPs ys).any fun z => PyData.eqv z (toP x)) = ys.any fun z => eqD z x
  | [] => rfl
  | y :: r => by
    show (PyData.eqv (toP y) (toP x) || (toPs r).any _) = _
    rw [any_toP x r]; rfl
theorem snd_inT {K : PySem.W.Frag} {mg : Str → Option Value} : Snd2 K mg (rInDT K) dInT := by
  intro F H M x y p q Q R w rx ry h k
  cases q with
  | tup ys =>
    obtain ⟨h1, h2, h3, h4, h5⟩ := (show plain p = true ∧ plains ys = true ∧ dep p ≤ 64 ∧ dep (.tup ys) ≤ 64 ∧ R (.bl (ys.any fun z => eqD z p)) M from h)
    refine ⟨toP p, toPs ys, rx.dp w.same h1, ry.dp w.same (d := .tup ys) h2, ?_, ?_, ?_⟩
    · show ((toP p).canLay0 && decide ((toP p).depth ≤ 64)) = true
      rw [rx.lay, decide_eq_true (show (toP p).depth ≤ 64 from h3)]; rfl
    · show ((toP (.tup ys)).canLay0 && decide ((toP (.tup ys)).depth ≤ 64)) = true
      rw [ry.lay, decide_eq_true (show (toP (.tup ys)).depth ≤ 64 from h4)]; rfl
    · rw [any_toP]
      exact k _ _ h5 _ _ _ (Le.refl F) w (.bl _)
  | _ => exact False.elim h
/-! ### xs[::-1] -/
def zRev (b : Bool) (a : ZE) : ZE := fun r M Q => a r M fun x M1 => zL M1 x fun ds => zNew b ds.reverse M1 Q
theorem ze_rev {X : Cx} {F0 : Fz} (b : Bool) {e : Expr} {fa : ZE} {k : Nat} {p1 p2 p3 pos : Pos} (he : PE X e (UE X F0 fa)) : PE X (.Subscript e (.Slice none none (some (.UnaryOp .USub (.Constant (.int 1) k p1) p2)) p3) pos) (UE X F0 (zRev b fa)) :=
  pe_imp (pe_revL he) fun s H Q h => by
  obtain ⟨F, rr, M, R, s0, w, e, h, k⟩ := h
  refine ⟨F, rr, M, _, s0, w, e, h, fun x M1 h1 F1 H1 v s1 w1 r1 => ?_⟩
  obtain ⟨p, vs, ds, rfl, e1, l, rl, h2⟩ := zL_out w1 r1 h1
  exact ⟨p, vs, rfl, SqL.of e1, zNew_out w1 (by rw [List.length_reverse]; exact l) rl.reverse h2 (k.mono s1)⟩
/-! ### defs with defaults -/
section
variable {P : Program} {w : World} {K : PySem.W.Frag} {mg : Str → Option Value} {base : Heap}
theorem z_okD (g : Bool) {x qual : Str} {st1 : Stmt} {dvs : List V} {f : Addr} {fd : FuncData} {N ps : List Str} {k n : Nat} {zs : ZSp} {zb : ZW → ZS} (FF : FunD K x qual (defArgs st1) (defBody st1) (defScope st1) dvs [] f fd) (S : FnScope N ps (defScope st1)) (hn : N.length - ps.length = n)
    (hz : ∀ ds M R RE, zs ds M R RE → ds.length = ps.length ∧ zFn g zb (ds.map some ++ List.replicate n none) M R RE)
    (hbody : ∀ (cdv : Value) (A : Around) (outer : List PySem.Env) (s : Shared) (H : Hp) (E : XK) (F0 : Fz) (zE : ZW), Room k (A.deeper (PyProof.Rows.envOfC qual (defScope st1) s.heap.objs.size f cdv)) → Wok K mg F0 (fun cls d _ H => E cls d H) zE →
      PSs (cxOf (L2.CX P w) P w K mg base N qual (defScope st1) f cdv A outer s H E) (defBody st1) (upS K mg F0 (zb zE))) : FnOk P w K mg base (L2.CX P w) (k + 1) f fd ps (liftSp K mg zs) := by
  refine FunD.ok FF S (fun vs H Q E h => ?_) fun cdv A outer s H vs Q E hr h => ?_
  · obtain ⟨F, M, ds, R, RE, w, rl, h, _⟩ := h
    rw [rl.length]; exact (hz ds M R RE h).1
  · obtain ⟨F, M, ds, R, RE, w, rl, h, kq, kx⟩ := h
    obtain ⟨hl, hb⟩ := hz ds M R RE h
    have wk : Wok K mg F (fun cls d _ H => E cls d H) (exB g RE) := by
      cases g with
      | true => exact wok_def kx
      | false => exact wok_def0 kx
    refine ⟨_, hbody cdv A outer s H E F _ hr wk, F, _, M, enB g R, Ge.refl _, w, ?_, hb, ?_⟩
    · have q := repE_start (K := K) (mg := mg) n rl
      have e : L2.start N vs = vs.map some ++ List.replicate n none := by
        show vs.map some ++ List.replicate (N.length - vs.length) none = _
        rw [rl.length, hl, hn]
      rw [e]; exact q
    · cases g with
      | true =>
        refine ⟨fun r M' ⟨M2, l, h⟩ F' s' H' s1 w1 e1 => kq _ _ h F' H' _ s1 (w1.drop l) .non, fun d M' ⟨d', M2, g, h⟩ F' H' v s1 w1 r1 => ?_, fun _ _ h => h.elim, fun _ _ h => h.elim⟩
        obtain ⟨F2, s2, w2, r2⟩ := g.sound w1 r1
        exact kq _ _ h F2 H' v (s1.trans s2) w2 r2
      | false => exact ⟨fun r M' h F' s' H' s1 w1 e1 => kq _ _ h F' H' _ s1 w1 .non, kq, fun _ _ h => h.elim, fun _ _ h => h.elim⟩
/-- the def's facts, from the written part -/
theorem funD_mk {x qual : Str} {st1 : Stmt} {f : Addr} {oc : Value} {od an : Option Addr} {osl : Array (Option Value)} {T : Addr} {ci : List Value} {cn : Nat} {cs : Array (Option Value)} {kV doc pm cdv ct : Value} {dvs : List V} (l : K.lookup f = some ⟨oc, od, .func (PySem.W.fnOf x qual (defArgs st1) (defBody st1) (defScope st1) (.ref T) kV doc pm an cdv ct), osl⟩)
    (c : PySem.W.codeIn K cdv qual = true) (k : PySem.W.keepIn K (.ref f) = true) (lT : K.lookup T = some ⟨.type "tuple", none, .seq ci.toArray cn, cs⟩) (hv : ci.map absV = dvs.map some) (hd : dvs ≠ []) : FunD K x qual (defArgs st1) (defBody st1) (defScope st1) dvs [] f (PySem.W.fnOf x qual (defArgs st1) (defBody st1) (defScope st1) (.ref T) kV doc pm an cdv ct) :=
  ⟨⟨oc, od, .ref T, kV, doc, pm, an, cdv, ct, osl, rfl, l, c, .inr ⟨hd, T, _, ci, cn, rfl, lT, rfl, vals_of_abs hv⟩, .inl rfl⟩, k⟩
end
section
variable {r : Env} {M : Mh} {Q : QZ} {a : ZE}
theorem i_rev {b : Bool} (h : a r M fun x M1 => zL M1 x fun ds => zNew b ds.reverse M1 Q) : zRev b a r M Q := h
theorem i_zLl {ds : List D} {k : List D → Prop} (h : k ds) : zL M (.lst ds) k := h
end
end Zl

/-! Zi: how readings are answered, step by step, outermost first -/
namespace Zl
open PySem L2
section
variable {r : Env} {M M1 : Mh} {Q : QZ} {QB : Bool → Mh → Prop} {QA : List D → Mh → Prop} {d x y : D} {ds xs ys : List D} {i j k : Int} {a b c : ZE} {t u : ZT} {f g : D → D → Mh → QZ → Prop}
theorem i_var {n : Nat} (h : gt r n = some d) (q : Q d M) : zVar n r M Q := by
  unfold zVar; rw [h]; exact q
theorem i_c (q : Q d M) : zC d r M Q := q
theorem i_2 (h : a r M fun x M1 => b r M1 fun y M2 => f x y M2 Q) : z2 f a b r M Q := h
theorem i_1 {f : D → Mh → QZ → Prop} (h : a r M fun x M1 => f x M1 Q) : z1 f a r M Q := h
theorem i_newF (q : Q (.lst ds) M) : zNew false ds M Q := q
theorem i_newT (q : ∀ p, M p = none → Q (.ref p) (mup M p (.lst ds))) : zNew true ds M Q := q
theorem i_addI {n : Bool} (q : Q (.int (i + j)) M) : dAdd n (.int i) (.int j) M Q := q
theorem i_addS {n : Bool} {s t : Str} (h : s.length + t.length ≤ sizeLine) (q : Q (.str (s ++ t)) M) : dAdd n (.str s) (.str t) M Q := ⟨h, q⟩
theorem i_addL {n : Bool} (h : xs.length + ys.length ≤ sizeLine) (q : zNew n (xs ++ ys) M Q) : dAdd n (.lst xs) (.lst ys) M Q := ⟨h, q⟩
theorem i_addLR {n : Bool} {p : Addr} (e : M p = some (.lst ys)) (h : xs.length + ys.length ≤ sizeLine) (q : zNew n (xs ++ ys) M Q) : dAdd n (.lst xs) (.ref p) M Q := by
  show zL M (.ref p) _; rw [zL_ref e]; exact ⟨h, q⟩
theorem i_addRL {n : Bool} {p : Addr} (e : M p = some (.lst xs)) (h : xs.length + ys.length ≤ sizeLine) (q : zNew n (xs ++ ys) M Q) : dAdd n (.ref p) (.lst ys) M Q := by
  show zL M (.ref p) _; rw [zL_ref e]; exact ⟨h, q⟩
theorem i_addRR {n : Bool} {p p' : Addr} (e : M p = some (.lst xs)) (e' : M p' = some (.lst ys)) (h : xs.length + ys.length ≤ sizeLine) (q : zNew n (xs ++ ys) M Q) : dAdd n (.ref p) (.ref p') M Q := by
  show zL M (.ref p) _; rw [zL_ref e, zL_ref e']; exact ⟨h, q⟩
theorem i_sub (q : Q (.int (i - j)) M) : dSub (.int i) (.int j) M Q := q
theorem i_mulI {n : Bool} (h : CMul i j) (q : Q (.int (i * j)) M) : dMul n (.int i) (.int j) M Q := ⟨h, q⟩
theorem i_mulL {n : Bool} (h1 : -(2 ^ 63) ≤ k) (h2 : k < 2 ^ 63) (h : xs.length * k.toNat ≤ sizeLine) (q : zNew n (List.replicate k.toNat xs).flatten M Q) : dMul n (.lst xs) (.int k) M Q := ⟨h1, h2, h, q⟩
theorem i_div (h : CDiv i j) (q : Q (.int (i / j)) M) : dDiv (.int i) (.int j) M Q := ⟨h, q⟩
theorem i_mod (h : 0 < j) (q : Q (.int (i % j)) M) : dMod (.int i) (.int j) M Q := ⟨h, q⟩
theorem i_pow (h : CPow i j) (q : Q (.int (i ^ j.toNat)) M) : dPow (.int i) (.int j) M Q := ⟨h, q⟩
theorem i_shr (h : 0 ≤ j) (q : Q (.int (i / 2 ^ j.toNat)) M) : dShr (.int i) (.int j) M Q := ⟨h, q⟩
theorem i_band (q : Q (.int (Builtin.bitAnd i j)) M) : dAnd (.int i) (.int j) M Q := q
theorem i_bxor (q : Q (.int (Builtin.bitXor i j)) M) : dXor (.int i) (.int j) M Q := q
theorem i_neg (q : Q (.int (-i)) M) : dNeg (.int i) M Q := q
theorem i_lt (q : Q (.bl (decide (i < j))) M) : dCmp pLt (.int i) (.int j) M Q := q
theorem i_le (q : Q (.bl (decide (i ≤ j))) M) : dCmp pLe (.int i) (.int j) M Q := q
theorem i_gt (q : Q (.bl (decide (j < i))) M) : dCmp pGt (.int i) (.int j) M Q := q
theorem i_ge (q : Q (.bl (decide (j ≤ i))) M) : dCmp pGe (.int i) (.int j) M Q := q
/-! equality -/
def nref : D → Bool
  | .ref _ => false
  | _ => true
/-- plain, and not deeper than n -/
structure Pl (n : Nat) (x : D) : Prop where
  p : Zl.plain x = true
  d : dep x ≤ n
theorem Pl.nref {n : Nat} (h : Pl n x) : Zl.nref x = true := by
  cases x <;> first | rfl | exact absurd h.p (by simp [Zl.plain])
theorem Pl.mono {n m : Nat} (h : Pl n x) (l : n ≤ m) : Pl m x := ⟨h.p, Nat.le_trans h.d l⟩
theorem Pl.int (n : Nat) (i : Int) : Pl n (.int i) := ⟨rfl, Nat.zero_le _⟩
theorem Pl.bl (n : Nat) (b : Bool) : Pl n (.bl b) := ⟨rfl, Nat.zero_le _⟩
theorem Pl.str (n : Nat) (s : Str) : Pl n (.str s) := ⟨rfl, Nat.zero_le _⟩
theorem Pl.non (n : Nat) : Pl n .non := ⟨rfl, Nat.zero_le _⟩
theorem plains_all : ∀ {ds : List D}, (∀ x ∈ ds, Zl.plain x = true) → plains ds = true
  | [], _ => rfl
  | d :: r, h => by
    show (Zl.plain d && plains r) = true
    rw [h d List.mem_cons_self, plains_all fun x hx => h x (List.mem_cons_of_mem _ hx)]; rfl
theorem deps_all {n : Nat} : ∀ {ds : List D}, (∀ x ∈ ds, dep x ≤ n) → PyData.depthAll (toPs ds) ≤ n
  | [], _ => Nat.zero_le _
  | d :: r, h => by
    show max (toP d).depth (PyData.depthAll (toPs r)) ≤ n
    exact Nat.max_le.mpr ⟨h d List.mem_cons_self, deps_all fun x hx => h x (List.mem_cons_of_mem _ hx)⟩
theorem Pl.lst {n : Nat} (h : ∀ x ∈ ds, Pl n x) : Pl (n + 1) (.lst ds) := ⟨plains_all fun x hx => (h x hx).p, Nat.succ_le_succ (deps_all fun x hx => (h x hx).d)⟩
theorem Pl.tup {n : Nat} (h : ∀ x ∈ ds, Pl n x) : Pl (n + 1) (.tup ds) := ⟨plains_all fun x hx => (h x hx).p, Nat.succ_le_succ (deps_all fun x hx => (h x hx).d)⟩
theorem Pl.flat {n : Nat} (h : flatD x = true) : Pl n x := by
  cases x with
  | non => exact .non n
  | bl b => exact .bl n b
  | int i => exact .int n i
  | str s => exact .str n s
  | _ => cases h
theorem Pl.lflat {n : Nat} (h : ds.all flatD = true) : Pl (n + 1) (.lst ds) := .lst fun x hx => .flat (List.all_eq_true.mp h x hx)
theorem Pl.tflat {n : Nat} (h : ds.all flatD = true) : Pl (n + 1) (.tup ds) := .tup fun x hx => .flat (List.all_eq_true.mp h x hx)
theorem Pl.ints {n : Nat} (ns : List Int) : Pl (n + 1) (.lst (ns.map D.int)) := .lst fun x hx => by
  obtain ⟨i, _, e⟩ := List.mem_map.mp hx
  subst e; exact .int n i
theorem Pl.two {n : Nat} (h : Pl n x) (h' : Pl n y) : Pl (n + 1) (.tup [x, y]) := .tup fun z hz => by
  rcases List.mem_cons.mp hz with e | hz
  · subst e; exact h
  · rcases List.mem_cons.mp hz with e | hz
    · subst e; exact h'
    · cases hz
theorem i_eqG {x' y' : D} (rx : Rs M x x') (ry : Rs M y y') (hx : Pl 64 x') (hy : Pl 64 y') (q : Q (.bl (eqD x' y')) M) : dEq x y M Q := ⟨x', rx, y', ry, hx.p, hy.p, .inl hx.d, q⟩
theorem i_neG {x' y' : D} (rx : Rs M x x') (ry : Rs M y y') (hx : Pl 64 x') (hy : Pl 64 y') (q : Q (.bl (!eqD x' y')) M) : dNe x y M Q := ⟨x', rx, y', ry, hx.p, hy.p, .inl hx.d, q⟩
theorem Rs.at {p : Addr} (e : M p = some (.lst xs)) : Rs M (.ref p) (.lst xs) := .ref e (.refl M xs)
theorem i_eq (hx : Pl 64 x) (hy : Pl 64 y) (q : Q (.bl (eqD x y)) M) : dEq x y M Q := i_eqG (.refl _) (.refl _) hx hy q
theorem i_ne (hx : Pl 64 x) (hy : Pl 64 y) (q : Q (.bl (!eqD x y)) M) : dNe x y M Q := i_neG (.refl _) (.refl _) hx hy q
theorem i_eqR {p : Addr} (e : M p = some (.lst xs)) (hx : Pl 64 (.lst xs)) (hy : Pl 64 y) (q : Q (.bl (eqD (.lst xs) y)) M) : dEq (.ref p) y M Q := i_eqG (.at e) (.refl _) hx hy q
theorem i_neR {p : Addr} (e : M p = some (.lst xs)) (hx : Pl 64 (.lst xs)) (hy : Pl 64 y) (q : Q (.bl (!eqD (.lst xs) y)) M) : dNe (.ref p) y M Q := i_neG (.at e) (.refl _) hx hy q
theorem i_eqLR {p : Addr} (e : M p = some (.lst ys)) (hx : Pl 64 x) (hy : Pl 64 (.lst ys)) (q : Q (.bl (eqD x (.lst ys))) M) : dEq x (.ref p) M Q := i_eqG (.refl _) (.at e) hx hy q
theorem i_neLR {p : Addr} (e : M p = some (.lst ys)) (hx : Pl 64 x) (hy : Pl 64 (.lst ys)) (q : Q (.bl (!eqD x (.lst ys))) M) : dNe x (.ref p) M Q := i_neG (.refl _) (.at e) hx hy q
@[simp] theorem eqD_int (i j : Int) : eqD (.int i) (.int j) = (i == j) := rfl
@[simp] theorem eqD_str (s t : Str) : eqD (.str s) (.str t) = (s == t) := rfl
@[simp] theorem eqD_bl (s t : Bool) : eqD (.bl s) (.bl t) = (s == t) := rfl
@[simp] theorem eqD_lst (s t : List D) : eqD (.lst s) (.lst t) = eqDs s t := rfl
@[simp] theorem eqD_tup (s t : List D) : eqD (.tup s) (.tup t) = eqDs s t := rfl
@[simp] theorem eqD_is (i : Int) (s : Str) : eqD (.int i) (.str s) = false := rfl
@[simp] theorem eqD_si (i : Int) (s : Str) : eqD (.str s) (.int i) = false := rfl
@[simp] theorem eqDs_nil : eqDs [] [] = true := rfl
@[simp] theorem eqDs_cons (x y : D) (s t : List D) : eqDs (x :: s) (y :: t) = (eqD x y && eqDs s t) := rfl
@[simp] theorem eqDs_nc (y : D) (t : List D) : eqDs [] (y :: t) = false := rfl
@[simp] theorem eqDs_cn (x : D) (s : List D) : eqDs (x :: s) [] = false := rfl
/-! in, is -/
theorem i_inL {n : Bool} (h1 : flatD x = true) (h2 : ys.all flatD = true) (q : Q (.bl (if n then !inD x ys else inD x ys)) M) : dIn n x (.lst ys) M Q := ⟨h1, h2, q⟩
theorem i_inT {n : Bool} (h1 : flatD x = true) (h2 : ys.all flatD = true) (q : Q (.bl (if n then !inD x ys else inD x ys)) M) : dIn n x (.tup ys) M Q := ⟨h1, h2, q⟩
theorem i_isN (q : Q (.bl (isN x)) M) : dIs x .non M Q := q
theorem i_isNotN (q : Q (.bl (!isN x)) M) : dIsNot x .non M Q := q
theorem i_isB {s t : Bool} (q : Q (.bl (decide (s = t))) M) : dIs (.bl s) (.bl t) M Q := q
theorem i_isNotB {s t : Bool} (q : Q (.bl (!decide (s = t))) M) : dIsNot (.bl s) (.bl t) M Q := q
/-! subscripts -/
theorem i_ixL (h : atI ds i = some d) (q : Q d M) : dIx (.lst ds) (.int i) M Q := by
  show (match atI ds i with | some d => Q d M | none => False); rw [h]; exact q
theorem i_ixT (h : atI ds i = some d) (q : Q d M) : dIx (.tup ds) (.int i) M Q := by
  show (match atI ds i with | some d => Q d M | none => False); rw [h]; exact q
theorem i_ixR {p : Addr} (e : M p = some (.lst ds)) (h : atI ds i = some d) (q : Q d M) : dIx (.ref p) (.int i) M Q := by
  show zLT M (.ref p) _; rw [zLT_ref e, h]; exact q
theorem i_ixS {s : Str} {ch : Nat} (h : atI s.cps.toList i = some ch) (q : Q (.str ⟨#[ch]⟩) M) : dIx (.str s) (.int i) M Q := by
  show (match atI s.cps.toList i with | some c => Q (.str ⟨#[c]⟩) M | none => False); rw [h]; exact q
/-- slices, by the values of their parts -/
def dSl (n : Bool) (x : D) (l h : Option Int) (M : Mh) (Q : QZ) : Prop := match x with
  | .str s => Q (.str (cutS s l h)) M
  | x => zL M x fun ds => zNew n (cutD ds l h) M Q
theorem i_sl {n : Bool} {lo hi : ZO} (h : a r M fun x M1 => lo r M1 fun l M2 => hi r M2 fun h M3 => dSl n x l h M3 Q) : zSl n a lo hi r M Q := h
theorem i_part {Q : Option Int → Mh → Prop} (h : a r M fun d M1 => onInt d fun i => Q (some i) M1) : zPart a r M Q := h
theorem i_nopart {Q : Option Int → Mh → Prop} (q : Q none M) : zNoPart r M Q := q
theorem i_onInt {k : Int → Prop} (h : k i) : onInt (.int i) k := h
theorem i_slL {n : Bool} {l h : Option Int} (q : zNew n (cutD ds l h) M Q) : dSl n (.lst ds) l h M Q := q
theorem i_slR {n : Bool} {l h : Option Int} {p : Addr} (e : M p = some (.lst ds)) (q : zNew n (cutD ds l h) M Q) : dSl n (.ref p) l h M Q := by
  show zL M (.ref p) _; rw [zL_ref e]; exact q
theorem i_slS {n : Bool} {l h : Option Int} {s : Str} (q : Q (.str (cutS s l h)) M) : dSl n (.str s) l h M Q := q
/-! truth -/
theorem i_B (h : a r M fun d M1 => onBl d fun b => QB b M1) : zB a r M QB := h
theorem i_onBl {k : Bool → Prop} {b : Bool} (h : k b) : onBl (.bl b) k := h
theorem i_and (h : t r M fun b M1 => bsel b (u r M1 QB) (QB false M1)) : zAnd t u r M QB := h
theorem i_or (h : t r M fun b M1 => bsel b (QB true M1) (u r M1 QB)) : zOr t u r M QB := h
theorem i_not (h : t r M fun b M1 => QB (!b) M1) : zNot t r M QB := h
theorem i_andV (h : a r M fun d M1 => onBl d fun c => bsel c (b r M1 Q) (Q (.bl false) M1)) : zAndV a b r M Q := h
theorem i_orV (h : a r M fun d M1 => onBl d fun c => bsel c (Q (.bl true) M1) (b r M1 Q)) : zOrV a b r M Q := h
theorem i_notV (h : a r M fun d M1 => onBl d fun b => Q (.bl (!b)) M1) : zNotV a r M Q := h
theorem i_ifE (h : t r M fun c M1 => bsel c (a r M1 Q) (b r M1 Q)) : zIfE t a b r M Q := h
theorem i_chain (h : a r M fun x M1 => b r M1 fun y M2 => f x y M2 fun z M3 => onBl z fun k => bsel k (c r M3 fun u M4 => g y u M4 Q) (Q (.bl false) M3)) : zChain f g a b c r M Q := h
theorem i_bT {A B : Prop} (h : A) : bsel true A B := h
theorem i_bF {A B : Prop} (h : B) : bsel false A B := h
theorem i_b {A B : Prop} {b : Bool} (h1 : b = true → A) (h2 : b = false → B) : bsel b A B := by cases b with | true => exact h1 rfl | false => exact h2 rfl
theorem i_bd {A B C : Prop} [Decidable C] (h1 : C → A) (h2 : ¬ C → B) : bsel (decide C) A B := i_b (fun e => h1 (of_decide_eq_true e)) fun e => h2 (of_decide_eq_false e)
theorem i_bdT {A B C : Prop} [Decidable C] (c : C) (h : A) : bsel (decide C) A B := by rw [decide_eq_true c]; exact h
theorem i_bdF {A B C : Prop} [Decidable C] (c : ¬ C) (h : B) : bsel (decide C) A B := by rw [decide_eq_false c]; exact h
theorem i_bnT {A B : Prop} {b : Bool} (e : b = true) (h : B) : bsel (!b) A B := by rw [e]; exact h
theorem i_bnF {A B : Prop} {b : Bool} (e : b = false) (h : A) : bsel (!b) A B := by rw [e]; exact h
theorem i_beT {A B : Prop} {b : Bool} (e : b = true) (h : A) : bsel b A B := by rw [e]; exact h
theorem i_beF {A B : Prop} {b : Bool} (e : b = false) (h : B) : bsel b A B := by rw [e]; exact h
/-! arguments, displays, calls -/
theorem i_nil (q : QA [] M) : zNil r M QA := q
theorem i_cons {t : ZA} (h : a r M fun x M1 => t r M1 fun xs M2 => QA (x :: xs) M2) : zCons a t r M QA := h
theorem i_tup {t : ZA} (h : t r M fun ds M1 => ds.length ≤ sizeLine ∧ Q (.tup ds) M1) : zTup t r M Q := h
theorem i_lst {n : Bool} {t : ZA} (h : t r M fun ds M1 => ds.length ≤ sizeLine ∧ zNew n ds M1 Q) : zLst n t r M Q := h
theorem i_call {zs : ZSp} {zE : ZW} {t : ZA} (h : t r M fun ds M1 => zs ds M1 Q fun c fs M' => zE c fs r M') : zCall zs zE t r M Q := h
theorem i_cb {f : List D → Mh → QZ → Prop} {t : ZA} (h : t r M fun ds M1 => f ds M1 Q) : zCB f t r M Q := h
theorem i_lenL (q : Q (.int ds.length) M) : dLen [.lst ds] M Q := q
theorem i_lenT (q : Q (.int ds.length) M) : dLen [.tup ds] M Q := q
theorem i_lenS {s : Str} (q : Q (.int s.length) M) : dLen [.str s] M Q := q
theorem i_lenR {p : Addr} (e : M p = some (.lst ds)) (q : Q (.int ds.length) M) : dLen [.ref p] M Q := by
  show zLT M (.ref p) _; rw [zLT_ref e]; exact q
theorem i_isi {T t : String} (h : tyD M x = some t) (q : Q (.bl (isiB t T)) M) : dIsi T x M Q := by
  unfold dIsi; rw [h]; exact q
theorem i_sumL {ns : List Int} (q : Q (.int ns.sum) M) : dSum [.lst (ns.map D.int)] M Q := ⟨ns, rfl, q⟩
theorem i_sumE {ns : List Int} (h : ds = ns.map D.int) (q : Q (.int ns.sum) M) : dSum [.lst ds] M Q := ⟨ns, h, q⟩
theorem i_allE {bs : List Bool} (h : ds = bs.map D.bl) (q : Q (.bl (bs.all id)) M) : dAll [.lst ds] M Q := ⟨bs, h, q⟩
theorem i_max2 (q : Q (.int (if j > i then j else i)) M) : dMaxL [.int i, .int j] M Q := q
theorem i_min2 (q : Q (.int (if j < i then j else i)) M) : dMinL [.int i, .int j] M Q := q
theorem i_listL {n : Bool} (q : zNew n ds M Q) : dList n [.lst ds] M Q := q
theorem i_listT {n : Bool} (q : zNew n ds M Q) : dList n [.tup ds] M Q := q
theorem i_listR {n : Bool} {p : Addr} (e : M p = some (.lst ds)) (q : zNew n ds M Q) : dList n [.ref p] M Q := by
  show zLT M (.ref p) _; rw [zLT_ref e]; exact q
theorem i_tuple (q : Q (.tup ds) M) : dTuple [.lst ds] M Q := q
theorem i_divmod (h : CDiv i j) (q : Q (.tup [.int (i / j), .int (i % j)]) M) : dDivmod [.int i, .int j] M Q := ⟨h, q⟩
theorem i_abs (q : Q (.int (if i < 0 then -i else i)) M) : dAbs [.int i] M Q := q
theorem i_m {T : String} {f : D → List D → Mh → QZ → Prop} {t : ZA} (h : a r M fun x M1 => tyD M1 x = some T ∧ t r M1 fun ds M2 => f x ds M2 Q) : zM T f a t r M Q := h
theorem i_app {p : Addr} (e : M p = some (.lst ds)) (h : ds.length < sizeLine) (q : Q .non (mup M p (.lst (ds ++ [d])))) : dApp (.ref p) [d] M Q := by
  have z : dApp (.ref p) [d] M Q = zR M (.ref p) (fun p l => l.length < sizeLine ∧ Q .non (mup M p (.lst (l ++ [d])))) := rfl
  rw [z, zR_ref e]; exact ⟨h, q⟩
theorem i_ext {p : Addr} (e : M p = some (.lst ds)) (h : ds.length + ys.length ≤ sizeLine) (q : Q .non (mup M p (.lst (ds ++ ys)))) : dExt (.ref p) [.lst ys] M Q := by
  have z : dExt (.ref p) [.lst ys] M Q = zR M (.ref p) (fun p l => zL M (.lst ys) fun m => l.length + m.length ≤ sizeLine ∧ Q .non (mup M p (.lst (l ++ m)))) := rfl
  rw [z, zR_ref e]; exact ⟨h, q⟩
theorem tyD_ref {p : Addr} (e : M p = some (.lst ds)) : tyD M (.ref p) = some "list" := by
  show (match M p with | some (.lst _) => some "list" | _ => none) = _; rw [e]
theorem i_tix {t : ZA} (h : t r M fun es M1 => match es with
  | [y] => flatD y = true ∧ (match idxD y ds with | some j => Q (.int (j : Nat)) M1 | none => False)
  | _ => False) : zTIx ds t r M Q := h
end
section
variable {E : ZEnds} {r : Env} {M : Mh} {t u : ZS} {a : ZE} {c : ZT} {g : ZG} {d : D} {Q : Env → Mh → Prop}
theorem i_seq (h : t { nx := u E, rt := E.rt, bk := E.bk, ct := E.ct } r M) : zSeq t u E r M := h
theorem i_asg (h : a r M fun d M1 => g d r M1 E.nx) : zAsg a g E r M := h
theorem i_name {i : Nat} (h : Q (st r i (some d)) M) : zgName i d r M Q := h
theorem i_gtup {n : Nat} {gs : ZGs} {ds : List D} (e : ds.length = n) (h : gs ds r M Q) : zgTup n gs (.tup ds) r M Q := ⟨e, h⟩
theorem i_gcons {gs : ZGs} {ds : List D} (h : g d r M fun r' M' => gs ds r' M' Q) : zgCons g gs (d :: ds) r M Q := h
theorem i_gnil (h : Q r M) : zgNil [] r M Q := h
theorem i_if (h : c r M fun b M1 => bsel b (t E r M1) (u E r M1)) : zIf c t u E r M := h
theorem i_ret (h : a r M E.rt) : zRet a E r M := h
theorem i_retN (h : E.rt .non M) : zRetN E r M := h
theorem i_drop (h : a r M fun _ M1 => E.nx r M1) : zDrop a E r M := h
theorem i_next (h : E.nx r M) : zNext E r M := h
theorem i_brk (h : E.bk r M) : zBreak E r M := h
theorem i_for {zi : ZI} {tb : ZS} (h : zi r M fun ds c M1 => zLoop c (zStep g tb E) E.nx ds r M1) : zFor zi g tb E r M := h
theorem i_while {tb : ZS} (n : Nat) (h : zWhileN c tb E n r M) : zWhile c tb E r M := ⟨n, h⟩
theorem i_raise {zE : ZW} {x : Str} (h : zE x [] r M) : zRaise zE x E r M := h
theorem i_gsub {o i : ZE} (h : o r M fun x M1 => i r M1 fun y M2 => dSet x y d M2 fun M3 => Q r M3) : zgSub o i d r M Q := h
theorem i_set {p : Addr} {n : Int} {j : Nat} {ds : List D} {k : Mh → Prop} (e : M p = some (.lst ds)) (h : ixN ds.length n = some j) (q : k (mup M p (.lst (ds.set j d)))) : dSet (.ref p) (.int n) d M k := by
  show (match M p with | some (.lst ds) => (match ixN ds.length n with | some j => k (mup M p (.lst (ds.set j d))) | none => False) | _ => False)
  rw [e]; simp only [h]; exact q
theorem i_rtG {R : QZ} (h : R d M) : (enB true R).rt d M := ⟨d, M, .refl, h⟩
theorem i_rtF {R : QZ} {p : Addr} {ds : List D} (e : M p = some (.lst ds)) (h : R (.lst ds) (mdel M p)) : (enB true R).rt (.ref p) M := ⟨_, _, .frz e, by unfold frzD; rw [if_pos rfl]; exact h⟩
theorem i_rt0 {R : QZ} (h : R d M) : (enB false R).rt d M := h
theorem i_ex0 {RE : ZX} {x : Str} {fs : List (Str × D)} (h : RE x fs M) : exB false RE x fs r M := h
theorem i_exG {RE : ZX} {x : Str} {fs : List (Str × D)} (h : RE x fs M) : exB true RE x fs r M := ⟨M, Less.refl M, h⟩
theorem i_nx0 {R : QZ} (h : R .non M) : (enB false R).nx r M := h
theorem i_nxG {R : QZ} (h : R .non M) : (enB true R).nx r M := ⟨M, Less.refl M, h⟩
end
/-! ### loops and comprehensions by what holds -/
theorem zLoop_ind {c : Ck} {step : D → (Env → Mh → Prop) → Env → Mh → Prop} {nx : Env → Mh → Prop} (P : List D → Env → Mh → Prop) (hd : ∀ r M, P [] r M → zck c M (nx r M)) (hs : ∀ d l r M (k : Env → Mh → Prop), P (d :: l) r M → (∀ r' M', P l r' M' → k r' M') → zck c M (step d k r M)) :
    ∀ {ds : List D} {r : Env} {M : Mh}, P ds r M → zLoop c step nx ds r M
  | [], r, M, h => hd r M h
  | d :: l, r, M, h => hs d l r M _ h fun r' M' h' => zLoop_ind P hd hs h'
theorem zLcL_ind {c : Ck} {step : D → Mh → (Option D → Mh → Prop) → Prop} {k : List D → Mh → Prop} (P : List D → List D → Mh → Prop) (hd : ∀ acc M, P [] acc M → zck c M (k acc M))
    (hs : ∀ d l acc M (q : Option D → Mh → Prop), P (d :: l) acc M → (∀ M', P l acc M' → q none M') → (∀ y M', P l (acc ++ [y]) M' → q (some y) M') → zck c M (step d M q)) :
    ∀ {ds acc : List D} {M : Mh}, P ds acc M → zLcL c step k ds acc M
  | [], acc, M, h => hd acc M h
  | d :: l, acc, M, h => hs d l acc M _ h (fun M' h' => zLcL_ind P hd hs h') (fun y M' h' => zLcL_ind P hd hs h')
/-- a comprehension that only reckons -/
theorem zLcL_map {step : D → Mh → (Option D → Mh → Prop) → Prop} {k : List D → Mh → Prop} (f : D → D) {M : Mh} : ∀ {ds acc : List D}, (∀ d, d ∈ ds → ∀ Q : Option D → Mh → Prop, Q (some (f d)) M → step d M Q) → k (acc ++ ds.map f) M → zLcL none step k ds acc M
  | [], acc, _, h => by
    show k acc M
    simpa using h
  | d :: l, acc, hs, h => by
    show step d M _
    refine hs d List.mem_cons_self _ ?_
    show zLcL none step k l (acc ++ [f d]) M
    exact zLcL_map f (fun e he => hs e (List.mem_cons_of_mem _ he)) (by simpa using h)
/-- .. with a test -/
theorem zLcL_filter {step : D → Mh → (Option D → Mh → Prop) → Prop} {k : List D → Mh → Prop} (p : D → Bool) (f : D → D) {M : Mh} : ∀ {ds acc : List D}, (∀ d, d ∈ ds → ∀ Q : Option D → Mh → Prop, (p d = true → Q (some (f d)) M) → (p d = false → Q none M) → step d M Q) → k (acc ++ (ds.filter p).map f) M → zLcL none step k ds acc M
  | [], acc, _, h => by
    show k acc M
    simpa using h
  | d :: l, acc, hs, h => by
    show step d M _
    refine hs d List.mem_cons_self _ (fun hp => ?_) (fun hp => ?_)
    · show zLcL none step k l (acc ++ [f d]) M
      exact zLcL_filter p f (fun e he => hs e (List.mem_cons_of_mem _ he)) (by simpa [List.filter_cons, hp] using h)
    · show zLcL none step k l acc M
      exact zLcL_filter p f (fun e he => hs e (List.mem_cons_of_mem _ he)) (by simpa [List.filter_cons, hp] using h)
theorem i_lc {nb : Bool} {zi : ZI} {g : ZG} {tt : ZT} {te : ZE} {vs : List Nat} {r : Env} {M : Mh} {Q : QZ} (h : zi r M fun ds c M1 => zLcL c (zLcS g tt te (zwipe r vs)) (fun acc M2 => zNew nb acc M2 Q) ds [] M1) : zLc nb zi g tt te vs r M Q := h
theorem i_lcS {g : ZG} {tt : ZT} {te : ZE} {r : Env} {d : D} {M : Mh} {Q : Option D → Mh → Prop} (h : g d r M fun r' M' => tt r' M' fun b M1 => bsel b (te r' M1 fun y M2 => Q (some y) M2) (Q none M1)) : zLcS g tt te r d M Q := h
theorem i_yes {r : Env} {M : Mh} {Q : Bool → Mh → Prop} (h : Q true M) : zYes r M Q := h
theorem i_iLl {r : Env} {M : Mh} {a : ZE} {Q : List D → Ck → Mh → Prop} (h : a r M fun d M1 => onLst d M1 fun ds c => Q ds c M1) : ziList a r M Q := h
theorem i_onL {M : Mh} {ds : List D} {k : List D → Ck → Prop} (h : k ds none) : onLst (.lst ds) M k := h
theorem i_onR {M : Mh} {p : Addr} {ds : List D} {k : List D → Ck → Prop} (e : M p = some (.lst ds)) (h : k ds (some (p, ds))) : onLst (.ref p) M k := by
  show (match M p with | some (.lst ds) => k ds (some (p, ds)) | _ => False); rw [e]; exact h
theorem i_range {r : Env} {M : Mh} {ta : ZA} {Q : List D → Ck → Mh → Prop} (h : ta r M fun ds M1 => onI1 ds fun j => -(2 ^ 62) ≤ j ∧ j ≤ 16777216 ∧ Q (rangeD 0 1 j.toNat) none M1) : ziRange ta r M Q := h
theorem i_range2 {r : Env} {M : Mh} {ta : ZA} {Q : List D → Ck → Mh → Prop} (h : ta r M fun ds M1 => onI2 ds fun i j => -(2 ^ 62) ≤ i ∧ i < 2 ^ 62 ∧ -(2 ^ 62) ≤ j ∧ j < 2 ^ 62 ∧ j - i ≤ 16777216 ∧ Q (rangeD i 1 (j - i).toNat) none M1) : ziRange2 ta r M Q := h
theorem i_onI1 {k : Int → Prop} {i : Int} (h : k i) : onI1 [.int i] k := h
theorem i_onI2 {k : Int → Int → Prop} {i j : Int} (h : k i j) : onI2 [.int i, .int j] k := h
theorem i_iT {r : Env} {M : Mh} {a : ZE} {Q : List D → Ck → Mh → Prop} (h : a r M fun d M1 => onTup d fun ds => Q ds none M1) : ziTup a r M Q := h
theorem i_onT {ds : List D} {k : List D → Prop} (h : k ds) : onTup (.tup ds) k := h
theorem i_iS {r : Env} {M : Mh} {a : ZE} {Q : List D → Ck → Mh → Prop} (h : a r M fun d M1 => onStr d fun s => Q (charsD s) none M1) : ziStr a r M Q := h
theorem i_onS {s : Str} {k : Str → Prop} (h : k s) : onStr (.str s) k := h
theorem i_par2 {E : ZEnds} {r : Env} {M : Mh} {i j : Nat} {ta : ZA} (h : ta r M fun ds M1 => on2 ds fun x y => E.nx (st (st r i (some x)) j (some y)) M1) : zPar i j ta E r M := h
theorem i_on2 {x y : D} {k : D → D → Prop} (h : k x y) : on2 [x, y] k := h
theorem rangeD_map (lo : Int) : ∀ (n : Nat), rangeD lo 1 n = (List.range n).map fun (k : Nat) => D.int (lo + (k : Nat)) := by
  intro n
  apply List.ext_getElem?
  intro i
  by_cases h : i < n
  · have h1 : i < (rangeD lo 1 n).length := by rw [rangeD_len]; exact h
    obtain ⟨_, e⟩ := rangeD_get n lo 1 i _ (List.getElem?_eq_getElem h1)
    rw [List.getElem?_eq_getElem h1, e, List.getElem?_map, List.getElem?_range h]
    simp
  · rw [List.getElem?_eq_none (by rw [rangeD_len]; omega), List.getElem?_eq_none (by simp; omega)]
theorem i_ck0 {M : Mh} {P : Prop} (h : P) : zck none M P := h
theorem i_step {g : ZG} {tb : ZS} {E : ZEnds} {d : D} {k : Env → Mh → Prop} {r : Env} {M : Mh} (h : g d r M fun r' M' => tb { nx := k, rt := E.rt, bk := E.nx, ct := k } r' M') : zStep g tb E d k r M := h
/-- a new list goes out, as one that stays -/
theorem i_rtN {R : QZ} {M : Mh} {p : Addr} {ds : List D} (hp : M p = none) (h : R (.lst ds) M) : (enB true R).rt (.ref p) (mup M p (.lst ds)) := i_rtF mup_same (by rw [mdel_mup hp]; exact h)
/-! steps that close their own conditions -/
theorem i_sz {n : Nat} {P : Prop} (h : n ≤ sizeLine) (q : P) : n ≤ sizeLine ∧ P := ⟨h, q⟩
theorem i_rg {j : Int} {P : Prop} (h : -(2 ^ 62) ≤ j) (h' : j ≤ 16777216) (q : P) : -(2 ^ 62) ≤ j ∧ j ≤ 16777216 ∧ P := ⟨h, h', q⟩
theorem i_ty {M : Mh} {x : D} {T : String} {P : Prop} (h : tyD M x = some T) (q : P) : tyD M x = some T ∧ P := ⟨h, q⟩
theorem i_lenIs {M : Mh} {Q : QZ} {α : Type} {f : α → D} {as : List α} (q : Q (.int as.length) M) : dLen [.lst (as.map f)] M Q := by
  show Q (.int (as.map f).length) M; rw [List.length_map]; exact q
theorem i_lenRs {M : Mh} {Q : QZ} {α : Type} {f : α → D} {as : List α} {p : Addr} (e : M p = some (.lst (as.map f))) (q : Q (.int as.length) M) : dLen [.ref p] M Q := i_lenR e (by rw [List.length_map]; exact q)
theorem i_eqII {M : Mh} {Q : QZ} {i j : Int} (q : Q (.bl (decide (i = j))) M) : dEq (.int i) (.int j) M Q := i_eq (.int _ _) (.int _ _) (by
  rw [show eqD (.int i) (.int j) = decide (i = j) from rfl]; exact q)
theorem i_neII {M : Mh} {Q : QZ} {i j : Int} (q : Q (.bl (!decide (i = j))) M) : dNe (.int i) (.int j) M Q := i_ne (.int _ _) (.int _ _) (by
  rw [show eqD (.int i) (.int j) = decide (i = j) from rfl]; exact q)
theorem i_eqSS {M : Mh} {Q : QZ} {i j : Str} (q : Q (.bl (decide (i = j))) M) : dEq (.str i) (.str j) M Q := i_eq (.str _ _) (.str _ _) (by
  rw [show eqD (.str i) (.str j) = decide (i = j) from rfl]; exact q)
theorem i_neSS {M : Mh} {Q : QZ} {i j : Str} (q : Q (.bl (!decide (i = j))) M) : dNe (.str i) (.str j) M Q := i_ne (.str _ _) (.str _ _) (by
  rw [show eqD (.str i) (.str j) = decide (i = j) from rfl]; exact q)
theorem i_eqIS {M : Mh} {Q : QZ} {i : Int} {j : Str} (q : Q (.bl false) M) : dEq (.int i) (.str j) M Q := i_eq (.int _ _) (.str _ _) q
theorem i_neIS {M : Mh} {Q : QZ} {i : Int} {j : Str} (q : Q (.bl true) M) : dNe (.int i) (.str j) M Q := i_ne (.int _ _) (.str _ _) q
theorem i_bN {A B : Prop} {b : Bool} (h : bsel b B A) : bsel (!b) A B := by cases b <;> exact h
theorem i_cif {M : Mh} {Q : QZ} {b : Bool} (q : Q (.bl b) M) : Q (.bl (if false = true then !b else b)) M := q
theorem i_enum {r : Env} {M : Mh} {n : Nat} {ds : List D} {Q : List D → Ck → Mh → Prop} (h : gt r n = some (.lst ds)) (q : Q (enumD 0 ds) none M) : ziEnum (zCons (zVar n) zNil) r M Q := i_cons (i_var h (i_nil q))
theorem i_pair {r : Env} {M : Mh} {i j : Nat} {x y : D} {Q : Env → Mh → Prop} (q : Q (st (st r i (some x)) j (some y)) M) : zgPair i j (.tup [x, y]) r M Q := ⟨rfl, q⟩
theorem enumD_map {α : Type} {f : α → D} : ∀ (as : List α) (k : Nat), enumD k (as.map f) = (as.zipIdx k).map fun x => .tup [.int (x.2 : Nat), f x.1]
  | [], _ => rfl
  | a :: r, k => by
    show .tup [.int (k : Nat), f a] :: enumD (k + 1) (r.map f) = _
    rw [enumD_map r (k + 1)]; rfl
theorem i_inTT {M : Mh} {Q : QZ} {x : D} {ys : List D} (h1 : Pl 64 x) (h2 : Pl 64 (.tup ys)) (q : Q (.bl (ys.any fun z => eqD z x)) M) : dInT x (.tup ys) M Q := ⟨h1.p, h2.p, h1.d, h2.d, q⟩
theorem atI_hd {d : D} {l : List D} : atI (d :: l) (0 : Int) = some d := by
  unfold atI ixN
  rw [if_pos (by decide), if_pos (by rw [List.length_cons]; omega)]; rfl
theorem i_ixH {M : Mh} {Q : QZ} {d : D} {l : List D} (q : Q d M) : dIx (.lst (d :: l)) (.int 0) M Q := i_ixL atI_hd q
end Zl

/-! Zl12: what is never reached; xs[a:b:c]; sorted(xs, reverse=True); list(range(..)); left-out defaults -/
namespace Zl
open PySem L2
section
variable {X : Cx} {F0 : Fz}
/-- a statement that is never reached -/
def zNo : ZS := fun _ _ _ => False
theorem zs_no {st1 : Stmt} : PS X st1 (US X F0 zNo) := ⟨fun pins s r H E I h => by
  obtain ⟨F, rr, M, Z, s0, w, e, h, k⟩ := h
  exact h.elim⟩
def zNoE : ZE := fun _ _ _ => False
theorem ze_no {e : Expr} : PE X e (UE X F0 zNoE) := ⟨fun pins s r H Q I h => by
  obtain ⟨F, rr, M, R, s0, w, e, h, k⟩ := h
  exact h.elim⟩
/-! ### xs[a:b:c] -/
/-- the places of a slice -/
def pickN (n : Nat) (lo hi st : Option Int) : List Nat := sliceRange (sliceBounds lo hi st n).1 (sliceBounds lo hi st n).2.1 (sliceBounds lo hi st n).2.2
def pickL {α : Type} (ds : List α) (lo hi st : Option Int) : List α := (pickN ds.length lo hi st).filterMap (ds[·]?)
theorem pickL_map {α β : Type} (f : α → β) (ds : List α) (lo hi st : Option Int) : pickL (ds.map f) lo hi st = (pickL ds lo hi st).map f := by
  unfold pickL
  rw [List.length_map, List.map_filterMap]
  congr 1
  funext i
  rw [List.getElem?_map]
theorem vals_pick {vs : List V} {us : List Value} (h : Vals vs us) : ∀ l : List Nat, Vals (l.filterMap (vs[·]?)) (l.filterMap (us[·]?))
  | [] => .nil
  | i :: l => by
    cases e : vs[i]? with
    | none =>
      have e2 : us[i]? = none := by
        rw [List.getElem?_eq_none_iff] at e ⊢
        rw [← h.length]; exact e
      rw [List.filterMap_cons_none e, List.filterMap_cons_none e2]
      exact vals_pick h l
    | some v =>
      obtain ⟨u, e2, r⟩ := h.get e
      rw [List.filterMap_cons_some e, List.filterMap_cons_some e2]
      exact .cons r (vals_pick h l)
theorem repL_pick {K : PySem.W.Frag} {mg : Str → Option Value} {F : Fz} {vs : List V} {ds : List D} (h : RepL K mg F vs ds) : ∀ l : List Nat, RepL K mg F (l.filterMap (vs[·]?)) (l.filterMap (ds[·]?))
  | [] => .nil
  | i :: l => by
    cases e : ds[i]? with
    | none =>
      have e2 : vs[i]? = none := by
        rw [List.getElem?_eq_none_iff] at e ⊢
        rw [h.length]; exact e
      rw [List.filterMap_cons_none e, List.filterMap_cons_none e2]
      exact repL_pick h l
    | some d =>
      obtain ⟨v, e2, r⟩ := h.get e
      rw [List.filterMap_cons_some e, List.filterMap_cons_some e2]
      exact .cons r (repL_pick h l)
def tSlS (K : PySem.W.Frag) (te : TE) (tl th ts : TO) : TE := fun σ H Q => te σ H fun x H1 => tl σ H1 fun l H2 => th σ H2 fun h H3 => ts σ H3 fun c H4 => c ≠ some 0 ∧ ∃ a xs, x = .ref a ∧ SqL K H4 a xs ∧ (pickL xs l h c).length ≤ sizeLine ∧ ∀ p, H4 p = none → Q (.ref p) (upd H4 p (.lst (pickL xs l h c)))
theorem pe_slS {e sp : Expr} {te : TE} {lo hi : Option Expr} {tl th ts : TO} {p3 pos : Pos} (he : PE X e te) (hl : PO X lo tl) (hh : PO X hi th) (hs : PO X (some sp) ts) : PE X (.Subscript e (.Slice lo hi (some sp) p3) pos) (tSlS X.K te tl th ts) := by
  refine ⟨fun pins s σ H Q I h => ?_⟩
  refine PyProof.Rows.Subscript_ (thn (he.run pins s σ H _ I h) fun v s1 ⟨x, H1, I1, r1, q1⟩ => ?_)
  refine wpAny_Slice (thn (hl.run pins s1 σ H1 _ I1 q1) fun vl s2 ⟨l, H2, I2, pl, q2⟩ => ?_)
  refine thn (hh.run pins s2 σ H2 _ I2 q2) fun vu s3 ⟨u, H3, I3, pu, q3⟩ => ?_
  refine thn (hs.run pins s3 σ H3 _ I3 q3) fun vs s4 ⟨o, H4, I4, ps, q4⟩ => ?_
  obtain ⟨h0, a, xs, ex, hx, hsz, q⟩ := q4
  subst ex
  cases r1
  have I5 : Inv X pins σ H4 { s4 with heap := s4.heap.push { cls := .type "slice", data := .fields #[vl, vu, vs] } } := I4.kept (t' := s4.toks) fun b ob q => Heap.get?_push_of_some _ q
  obtain ⟨its, r, ht, hz⟩ := I5.list hx
  have hlen := r.length
  show wpAny (model X.prog X.w) X.A (PyProof.Rows.subscriptTail e (.Slice lo hi (some sp) p3) (.ref a) (.ref s4.heap.objs.size)) (EP X pins σ Q) X.xe { s4 with heap := s4.heap.push { cls := .type "slice", data := .fields #[vl, vu, vs] } }
  refine PyProof.Rows.tail_any (ops := [.ref a, .ref s4.heap.objs.size]) ht.isList.typeIs (PySem.slot_list_getitem.lookup) ?_ (by with_unfolding_all rfl)
  refine wpAny_getItem_list_slice ht.isList (Heap.IsSliceOf.new _ vl vu vs) pl pu ps h0 ?_ (by rw [List.size_toArray]; omega)
  have e1 : slicePick its.toArray l u o = (((pickN xs.length l u o).filterMap (its[·]?))).toArray := by
    unfold slicePick pickN
    rw [List.size_toArray, ← hlen]
    congr 1
    congr 1
    funext i
    simp
  rw [e1]
  refine ⟨.ref _, _, I5.laid (t' := s4.toks) (o := .lst (pickL xs l u o)) (fun b ob q => Heap.get?_push_of_some _ q) (Nat.le_refl _) ?_, rfl, q _ (I5.hok.fresh (Nat.le_refl _))⟩
  exact ⟨hsz, _, 0, vals_pick r _, Heap.get?_push_size _ rfl⟩
def zSlS (b : Bool) (a : ZE) (lo hi sp : ZO) : ZE := fun r M Q => a r M fun x M1 => lo r M1 fun l M2 => hi r M2 fun h M3 => sp r M3 fun c M4 => c ≠ some 0 ∧ zL M4 x fun ds => (pickL ds l h c).length ≤ sizeLine ∧ zNew b (pickL ds l h c) M4 Q
theorem ze_slS (b : Bool) {e sp : Expr} {fa : ZE} {lo hi : Option Expr} {fl fh fs : ZO} {p3 pos : Pos} (he : PE X e (UE X F0 fa)) (hl : PO X lo (upO X.K X.mg F0 fl)) (hh : PO X hi (upO X.K X.mg F0 fh)) (hs : PO X (some sp) (upO X.K X.mg F0 fs)) : PE X (.Subscript e (.Slice lo hi (some sp) p3) pos) (UE X F0 (zSlS b fa fl fh fs)) :=
  pe_imp (pe_slS he hl hh hs) fun s H Q h => by
  obtain ⟨F, rr, M, R, s0, w, e, h, k⟩ := h
  refine ⟨F, rr, M, _, s0, w, e, h, fun x M1 h1 F1 H1 v s1 w1 r1 => ⟨F1, rr, M1, _, s0.trans s1, w1, e.mono s1, h1, fun l M2 h2 F2 H2 s2 w2 => ⟨F2, rr, M2, _, s0.trans (s1.trans s2), w2, e.mono (s1.trans s2), h2, fun l2 M3 h3 F3 H3 s3 w3 => ⟨F3, rr, M3, _, s0.trans (s1.trans (s2.trans s3)), w3, e.mono (s1.trans (s2.trans s3)), h3, fun c M4 h4 F4 H4 s4 w4 => ?_⟩⟩⟩⟩
  obtain ⟨h0, h4⟩ := h4
  obtain ⟨p, vs, ds, rfl, e1, len, rl, h5, h6⟩ := zL_out w4 (r1.mono (s2.trans (s3.trans s4))) h4
  have el : vs.length = ds.length := rl.length
  have rp : RepL X.K X.mg F4 (pickL vs l l2 c) (pickL ds l l2 c) := by unfold pickL; rw [el]; exact repL_pick rl _
  exact ⟨h0, p, vs, rfl, SqL.of e1, by rw [rp.length]; exact h5, zNew_out w4 (by rw [rp.length]; exact h5) rp h6 (k.mono (s1.trans (s2.trans (s3.trans s4))))⟩
/-! ### sorted(xs, reverse=True) -/
def dSortedR (b : Bool) (ds : List D) (M : Mh) (Q : QZ) : Prop := match ds with
  | [x] => zL M x fun l => ∃ ns : List Int, l = ns.map D.int ∧ ∀ ns' : List Int, ns'.Perm ns → ns'.Pairwise (· ≥ ·) → zNew b (ns'.map D.int) M Q
  | _ => False
theorem ze_sortedR (b : Bool) {a : Expr} {t : ZA} {j : Nat} {p pos kpos kp2 : Pos} (hm : X.mg "sorted" = none) (hv : bootBuiltins "sorted" = some (.builtin "sorted")) (ha : PA X [a] (UA X F0 t)) (hg : Gl X "sorted" := by rfl)
    (he : backTo pos (starEach [a] X.env) = (false, eval a X.env) :: backTo pos (starEach [] X.env) := by rfl) (hpl : (backTo pos (starEach [a] X.env)).any (·.1) = false := by rfl)
    (hall : (backToKw pos (keywordEach [⟨some (Str.ofString "reverse"), .Constant (.bool true) j kp2, kpos⟩] X.env)).all (·.1.isSome) = true := by rfl) (hnone : (backToKw pos (keywordEach [⟨some (Str.ofString "reverse"), .Constant (.bool true) j kp2, kpos⟩] X.env)).any (·.1.isNone) = false := by rfl) (hks : (backToKw pos (keywordEach [⟨some (Str.ofString "reverse"), .Constant (.bool true) j kp2, kpos⟩] X.env)).filterMap (·.1) = [Str.ofString "reverse"] := by rfl) :
    PE X (.Call (.Name "sorted" p) [a] [⟨some (Str.ofString "reverse"), .Constant (.bool true) j kp2, kpos⟩] pos) (UE X F0 (zCB (dSortedR b) t)) :=
  pe_imp (pe_callBK (cr_sortedRev (b := true)) hg hm hv ha (pk_cons pe_bl pk_nil) (by decide) (by decide) he hpl hall hnone hks) fun s H Q h => by
  obtain ⟨F, rr, M, R, s0, w, e, h, k⟩ := h
  refine ⟨F, rr, M, _, s0, w, e, h, fun ds M1 h1 F1 H1 vs s1 w1 r1 => ?_⟩
  unfold dSortedR at h1
  split at h1
  · cases r1 with
    | cons r1 rl =>
      cases rl
      obtain ⟨a, vs, es, rfl, e, l, rl, ns, rfl, h⟩ := zL_out w1 r1 h1
      have hv := rl.ints_of
      subst hv
      refine ⟨a, ns, rfl, rfl, SqL.of e, fun ns' p hp hs hn => zNew_out w1 ?_ (RepL.ints ns') (h ns' hp hs) (k.mono s1) p hn⟩
      rw [List.length_map, hp.length_eq]; rw [List.length_map] at l; exact l
  · exact h1.elim
/-! ### list(range(..)) -/
def dLrg (b : Bool) (i j : Int) (M : Mh) (Q : QZ) : Prop := RgOk i j ∧ zNew b (rangeD i 1 (j - i).toNat) M Q
def zLrg1 (b : Bool) (ta : ZA) : ZE := fun r M Q => ta r M fun ds M1 => onI1 ds fun j => dLrg b 0 j M1 Q
def zLrg2 (b : Bool) (ta : ZA) : ZE := fun r M Q => ta r M fun ds M1 => onI2 ds fun i j => dLrg b i j M1 Q
theorem rgV_rep {K : PySem.W.Frag} {mg : Str → Option Value} {F : Fz} (i j : Int) : RepL K mg F (rgV i j) (rangeD i 1 (j - i).toNat) := by
  rw [rangeD_map]
  unfold rgV
  generalize List.range (j - i).toNat = l
  induction l with
  | nil => exact .nil
  | cons a l ih => exact .cons (.int _) ih
theorem rg_out {K : PySem.W.Frag} {mg : Str → Option Value} {F : Fz} {H : Hp} {M : Mh} {b : Bool} {i j : Int} {R : QZ} {Q : VK} (w : Wd K mg F H M) (h : dLrg b i j M R) (k : Kq K mg F R Q) : RgOk i j ∧ ∀ q, H q = none → Q (.ref q) (upd H q (.lst (rgV i j))) :=
  ⟨h.1, zNew_out w (by rw [rgV_length, sizeLine_eq]; have := h.1.2.2.2.2; omega) (rgV_rep i j) h.2 k⟩
theorem ze_lrg1 (b : Bool) {a : Expr} {fa : ZE} {p p2 pos pos2 : Pos} (hc : X.calm = true) (hm : X.mg "list" = none) (hm2 : X.mg "range" = none) (ha : PE X a (UE X F0 fa)) (hg : Gl X "list" := by rfl) (hg2 : Gl X "range" := by rfl)
    (na : starEach [a] X.env = (false, eval a X.env) :: starEach [] X.env := by rfl) (na2 : starEach [(.Call (.Name "range" p) [a] [] pos : Expr)] X.env = (false, eval (.Call (.Name "range" p) [a] [] pos) X.env) :: starEach [] X.env := by rfl) : PE X (.Call (.Name "list" p2) [.Call (.Name "range" p) [a] [] pos] [] pos2) (UE X F0 (zLrg1 b (zCons fa zNil))) :=
  pe_imp (pe_listRg hc hg hm (prg_1 hg2 hm2 ha na) na2) fun s H Q h => by
  obtain ⟨F, rr, M, R, s0, w, e, h, k⟩ := h
  refine ⟨F, rr, M, _, s0, w, e, h, fun x M1 h1 F1 H1 v s1 w1 r1 => ?_⟩
  have h1 : onI1 [x] fun j => dLrg b 0 j M1 R := h1
  cases x with
  | int j => cases r1; exact ⟨j, rfl, rg_out w1 h1 (k.mono s1)⟩
  | _ => exact h1.elim
theorem ze_lrg2 (b : Bool) {a c : Expr} {fa fc : ZE} {p p2 pos pos2 : Pos} (hc : X.calm = true) (hm : X.mg "list" = none) (hm2 : X.mg "range" = none) (ha : PE X a (UE X F0 fa)) (hc2 : PE X c (UE X F0 fc)) (hg : Gl X "list" := by rfl) (hg2 : Gl X "range" := by rfl)
    (na : starEach [a, c] X.env = (false, eval a X.env) :: starEach [c] X.env := by rfl) (nb : starEach [c] X.env = (false, eval c X.env) :: starEach [] X.env := by rfl) (hp : (backTo pos (starEach [c] X.env)).any (·.1) = false := by rfl)
    (na2 : starEach [(.Call (.Name "range" p) [a, c] [] pos : Expr)] X.env = (false, eval (.Call (.Name "range" p) [a, c] [] pos) X.env) :: starEach [] X.env := by rfl) : PE X (.Call (.Name "list" p2) [.Call (.Name "range" p) [a, c] [] pos] [] pos2) (UE X F0 (zLrg2 b (zCons fa (zCons fc zNil)))) :=
  pe_imp (pe_listRg hc hg hm (prg_2 hg2 hm2 ha hc2 na nb hp) na2) fun s H Q h => by
  obtain ⟨F, rr, M, R, s0, w, e, h, k⟩ := h
  refine ⟨F, rr, M, _, s0, w, e, h, fun x M1 h1 F1 H1 v s1 w1 r1 => ⟨F1, rr, M1, _, s0.trans s1, w1, e.mono s1, h1, fun y M2 h2 F2 H2 u s2 w2 r2 => ?_⟩⟩
  have h2 : onI2 [x, y] fun i j => dLrg b i j M2 R := h2
  cases x with
  | int i =>
    cases r1
    cases y with
    | int j => cases r2; exact ⟨i, j, rfl, rfl, rg_out w2 h2 (k.mono (s1.trans s2))⟩
    | _ => exact h2.elim
  | _ => exact h2.elim
/-! ### left-out defaults -/
/-- f(e, ..) with the last parameters left out: es their values -/
def zCallD (zs : ZSp) (zE : ZW) (es : List D) (t : ZA) : ZE := fun r M Q => t r M fun ds M1 => zs (ds ++ es) M1 Q fun c fs M' => zE c fs r M'
theorem ze_callD {f : Addr} {fd : FuncData} {ps : List Str} {k : Nat} {zs : ZSp} {zE : ZW} {W : WX} {x : Str} {a : Expr} {es : List Expr} {t : ZA} {p pos : Pos} {dvs : List V} {dws : List Value} {dds : List D} (FO : FnOk X.prog X.w X.K X.mg X.base (L2.CX X.prog X.w) k f fd ps (liftSp X.K X.mg zs)) (hr : Room k X.A) (hm : X.mg x = some (.ref f))
    (hk : PySem.W.keepIn X.K (.ref f) = true) (hb : Binds X.K fd ps dws) (hd : Vals dvs dws) (hdd : ∀ F, RepL X.K X.mg F dvs dds) (tk : Takes X W) (wk : Wok X.K X.mg F0 W zE) (ha : PA X (a :: es) (UA X F0 t)) (hg : Gl X x := by rfl) (hdb : (x == ("__debug__" : Str)) = false := by decide)
    (he : starEach (a :: es) X.env = (false, eval a X.env) :: starEach es X.env := by rfl) (hpl : (backTo pos (starEach es X.env)).any (·.1) = false := by rfl) : PE X (.Call (.Name x p) (a :: es) [] pos) (UE X F0 (zCallD zs zE dds t)) :=
  pe_imp (pe_callSD FO hr hg hm hk hb hd (fun s => passAt tk s) ha hdb he hpl) fun s H Q h => by
  obtain ⟨F, rr, M, R, s0, w, e, h, k⟩ := h
  refine ⟨F, rr, M, _, s0, w, e, h, fun ds M1 h1 F1 H1 vs s1 w1 r1 => ⟨F1, M1, ds ++ dds, R, _, w1, r1.append (hdd F1), h1, k.mono s1, fun c fs M' hx F' H' cls d s2 w2 rx => ?_⟩⟩
  exact wk c fs rr M' hx F' s H' cls d (s0.trans (s1.trans s2)) w2 (e.mono (s1.trans s2)) rx
end
section
variable {r : Env} {M : Mh} {Q : QZ} {a : ZE} {t : ZA}
theorem i_slStep {b : Bool} {lo hi sp : ZO} (h : a r M fun x M1 => lo r M1 fun l M2 => hi r M2 fun h M3 => sp r M3 fun c M4 => c ≠ some 0 ∧ zL M4 x fun ds => (pickL ds l h c).length ≤ sizeLine ∧ zNew b (pickL ds l h c) M4 Q) : zSlS b a lo hi sp r M Q := h
theorem i_lrg1 {b : Bool} (h : t r M fun ds M1 => onI1 ds fun j => dLrg b 0 j M1 Q) : zLrg1 b t r M Q := h
theorem i_lrg2 {b : Bool} (h : t r M fun ds M1 => onI2 ds fun i j => dLrg b i j M1 Q) : zLrg2 b t r M Q := h
theorem i_callD {zs : ZSp} {zE : ZW} {es : List D} (h : t r M fun ds M1 => zs (ds ++ es) M1 Q fun c fs M' => zE c fs r M') : zCallD zs zE es t r M Q := h
end
end Zl

/-! Zl13: len of an own object; calls with keywords; making with defaults -/
namespace Zl
open PySem L2
section
variable {X : Cx} {F0 : Fz}
/-! ### len(o), o of a class with a __len__ of its own -/
theorem call_lenO {C g : Addr} {fd : FuncData} {ps : List Str} {k : Nat} {sp : Sp} (FO : FnOk X.prog X.w X.K X.mg X.base (L2.CX X.prog X.w) k g fd ps sp) (hr : Room (k + 1) X.A) (hm : Meth X.K C "__len__" g) (hb : Binds X.K fd ps []) :
    CallR X (.builtin "len") (fun xs H Q => ∃ a dx fs, xs = [.ref a] ∧ H a = some (.ins C dx fs) ∧ sp [.ref a] H (fun v H' => ∃ n : Int, v = .int n ∧ 0 ≤ n ∧ n < 2 ^ 63 ∧ Q (.int n) H') E0) := by
  intro pins s σ H xs us Q I r h
  obtain ⟨a, dx, fs, rfl, ha, hsp⟩ := h
  obtain ⟨u, rfl, ru⟩ := vals1 r
  obtain rfl : u = Value.ref a := ru
  obtain ⟨mA, J, _⟩ := ins_get I.hok ha
  obtain ⟨od, J, _⟩ := J.look
  refine Calls.call_function_entry kind_len plain_len entry_len (args_len1 _) ?_
  unfold Builtin.«len»
  refine wpAny_bind (m := oneArg "len" _) (wpAny_pure ?_)
  refine wpAny_bind (m := callSpecial? (.ref a) (PySem.Str.ofString "__len__")) (PySem.W.special_fn I.kIn J hm.at_ (beq_iff_eq.mp hm.fn) ?_)
  have e0 : Env0 X.prog X.w X.K X.mg X.base X.A.in1 X.stack s H := by
    have e := I.env0
    exact ⟨e.frames, e.mod, e.bs, e.bsz, e.funs, e.frf, e.hok, e.bare⟩
  have r2 : Vals [V.ref a] [Value.ref a] := .cons rfl .nil
  have hl := FO.len _ _ _ _ hsp
  refine wpAny_call (codeAny_mono (FO.run X.A.in1 X.stack s H ⟨[.ref a], []⟩ [.ref a] [.ref a] _ E0 hr.in1 e0 (by
    have := hb s [.ref a] I.kIn (by simpa using hl)
    simpa using this) r2 hsp) fun r s' hq => ?_)
  cases r with
  | error e => exact passL pins σ H s e s' I hq
  | ok fl =>
    cases fl with
    | ret u =>
      obtain ⟨z, H', I', rz, n, ez, h0, h1, q⟩ := I.after hq
      subst ez
      obtain ⟨t, rfl⟩ := rz
      refine wpAny_bind (wpAny_holding (wpAny_pure ?_))
      refine wpAny_bind (wpAny_letGo ?_)
      show wpAny _ _ (if n < 0 then _ else _) _ _ _
      rw [if_neg (by omega)]
      show wpAny _ _ (if n ≥ 2 ^ 63 then _ else _) _ _ _
      rw [if_neg (by omega)]
      exact wpAny_bind (wpAny_mkInt (wpAny_pure ⟨_, rfl, .int n, H', I'.tok _, ⟨_, rfl⟩, q⟩))
    | next => exact False.elim hq
    | brk => exact False.elim hq
    | cont => exact False.elim hq
def zLenO (c : Str) (zs : ZSp) (a : ZE) : ZE := fun r M Q => a r M fun d M1 => onIns M1 c d fun p _ => zs [.ref p] M1 (fun v M2 => onInt v fun n => 0 ≤ n ∧ n < 2 ^ 63 ∧ Q (.int n) M2) fun _ _ _ => False
theorem ze_lenO {c : Str} {C g : Addr} {fd : FuncData} {ps : List Str} {k : Nat} {zs : ZSp} {a : Expr} {fa : ZE} {p pos : Pos} (gC : X.mg c = some (.ref C)) (hm : Meth X.K C "__len__" g) (FO : FnOk X.prog X.w X.K X.mg X.base (L2.CX X.prog X.w) k g fd ps (liftSp X.K X.mg zs)) (hr : Room (k + 1) X.A) (hb : Binds X.K fd ps [])
    (hn : X.mg "len" = none) (ha : PE X a (UE X F0 fa)) (hg : Gl X "len" := by rfl) (he : starEach [a] X.env = (false, eval a X.env) :: starEach [] X.env := by rfl) (hpl : (backTo pos (starEach [] X.env)).any (·.1) = false := by rfl) : PE X (.Call (.Name "len" p) [a] [] pos) (UE X F0 (zLenO c zs fa)) :=
  pe_imp (pe_callB (call_lenO FO hr hm hb) hg hn (by decide +kernel) (pa_cons ha pa_nil he) (by decide) (by decide) he hpl) fun s H Q h => by
  obtain ⟨F, rr, M, R, s0, w, e, h, k⟩ := h
  refine ⟨F, rr, M, _, s0, w, e, h, fun d M1 h1 F1 H1 v s1 w1 r1 => ?_⟩
  obtain ⟨q, fs, C', dx, vs, rfl, rfl, hM, gC', hH, rv, h2⟩ := onIns_out w1 r1 h1
  cases ref_inj gC gC'
  refine ⟨q, dx, _, rfl, hH, F1, M1, [.ref q], _, _, w1, .cons (.ref q) .nil, h2, fun v M2 h3 F' H' u s2 w2 r2 => ?_, fun _ _ _ z => z.elim⟩
  cases v with
  | int n =>
    cases r2
    obtain ⟨a1, a2, a3⟩ := (show 0 ≤ n ∧ n < 2 ^ 63 ∧ R (.int n) M2 from h3)
    exact ⟨n, rfl, a1, a2, k _ _ a3 F' H' _ (s1.trans s2) w2 (.int n)⟩
  | _ => exact h3.elim
/-! ### f(e, .., k = v, ..), which lets nothing out -/
def zCallK (zs : ZSp) (n m : Nat) (g : List D → List D → List D) (t tk : ZA) : ZE := fun r M Q => t r M fun ds M1 => tk r M1 fun es M2 => ds.length = n ∧ es.length = m ∧ zs (g ds es) M2 Q fun _ _ _ => False
theorem ze_callK {f : Addr} {fd : FuncData} {ps ks : List Str} {k n m : Nat} {zs : ZSp} {x : Str} {a : Expr} {es : List Expr} {kws : List Keyword} {t : ZA} {zk : ZA} {p pos : Pos} {gg : List Value → List Value → List Value} {gV : List V → List V → List V} {gD : List D → List D → List D}
    (FO : FnOk X.prog X.w X.K X.mg X.base (L2.CX X.prog X.w) k f fd ps (liftSp X.K X.mg zs)) (hr : Room k X.A) (hm : X.mg x = some (.ref f)) (hk : PySem.W.keepIn X.K (.ref f) = true) (hb : KBn X.K fd ps n ks gg gV) (hkl : ks.length = m)
    (hgd : ∀ (F : Fz) (vs zs : List V) (ds es : List D), RepL X.K X.mg F vs ds → RepL X.K X.mg F zs es → ds.length = n → es.length = ks.length → RepL X.K X.mg F (gV vs zs) (gD ds es))
    (ha : PA X (a :: es) (UA X F0 t)) (hkw : PK X kws (UA X F0 zk)) (hall : (backToKw pos (keywordEach kws X.env)).all (·.1.isSome) = true := by rfl) (hks : (backToKw pos (keywordEach kws X.env)).filterMap (·.1) = ks := by rfl) (hg : Gl X x := by rfl)
    (hdb : (x == ("__debug__" : Str)) = false := by decide) (he : starEach (a :: es) X.env = (false, eval a X.env) :: starEach es X.env := by rfl)
    (hpl : ((backTo pos (starEach (a :: es) X.env)).any (·.1) || (backToKw pos (keywordEach kws X.env)).any (·.1.isNone)) = false := by rfl) : PE X (.Call (.Name x p) (a :: es) kws pos) (UE X F0 (zCallK zs n m gD t zk)) := by
  subst hkl
  refine pe_imp (pe_callN FO hr hg hm hk hb passL ha hkw hall hks hdb he hpl) fun s H Q h => ?_
  obtain ⟨F, rr, M, R, s0, w, e, h, k⟩ := h
  refine ⟨F, rr, M, _, s0, w, e, h, fun ds M1 h1 F1 H1 vs s1 w1 r1 => ⟨F1, rr, M1, _, s0.trans s1, w1, e.mono s1, h1, fun es M2 h2 F2 H2 us s2 w2 r2 => ⟨by rw [r1.length]; exact h2.1, by rw [r2.length]; exact h2.2.1, F2, M2, _, R, _, w2, hgd F2 vs us ds es (r1.mono s2) r2 h2.1 h2.2.1, h2.2.2, k.mono (s1.trans s2), fun _ _ _ z => z.elim⟩⟩⟩
/-- the keywords' values -/
theorem zk_nil : PK X [] (UA X F0 zNil) := ⟨fun pos pins s σ H Q I h => by
  obtain ⟨F, rr, M, R, s0, w, e, h, k⟩ := h
  exact pk_nil.run pos pins s σ H Q I (k [] M h F H [] (Le.refl F) w .nil)⟩
theorem zk_cons {a : Expr} {fa : ZE} {t : ZA} {kws : List Keyword} {nm : Option Str} {kpos : Pos} (ha : PE X a (UE X F0 fa)) (ht : PK X kws (UA X F0 t)) : PK X (⟨nm, a, kpos⟩ :: kws) (UA X F0 (zCons fa t)) := ⟨fun pos pins s σ H Q I h => by
  obtain ⟨F, rr, M, R, s0, w, e, h, k⟩ := h
  refine (pk_cons (nm := nm) (kpos := kpos) ha ht).run pos pins s σ H Q I ⟨F, rr, M, _, s0, w, e, h, fun d M1 h1 F1 H1 v s1 w1 r1 => ⟨F1, rr, M1, _, s0.trans s1, w1, e.mono s1, h1, fun ds M2 h2 F2 H2 vs s2 w2 r2 => k (d :: ds) M2 h2 F2 H2 (v :: vs) (s1.trans s2) w2 (.cons (r1.mono s2) r2)⟩⟩⟩
/-! ### C(): all defaults; C(k = v, ..): keywords alone; nothing is let out -/
def zMakeD0 (c : Str) (zs : ZSp) (es : List D) : ZE := fun _ M Q => ∀ p, M p = none → zs (.ref p :: es) (mup M p (.ins c [])) (fun d M2 => d = .non ∧ Q (.ref p) M2) fun _ _ _ => False
theorem make_low0 {c : Str} {C : Addr} {zs : ZSp} (gC : X.mg c = some (.ref C)) {F : Fz} {M1 : Mh} {R : QZ} {H1 : Hp} {Q : VK} {ds : List D} {vs : List V} (w : Wd X.K X.mg F H1 M1) (rl : RepL X.K X.mg F vs ds)
    (h : ∀ p, M1 p = none → zs (.ref p :: ds) (mup M1 p (.ins c [])) (fun d M2 => d = .non ∧ R (.ref p) M2) fun _ _ _ => False) (k : Kq X.K X.mg F R Q) : ∀ y dx, H1 y = none → H1 dx = none → dx ≠ y →
    liftSp X.K X.mg zs (.ref y :: vs) (upd (upd H1 dx (.own y)) y (.ins C dx [])) (fun v H2 => v = .non ∧ Q (.ref y) H2) E0 := by
  intro y dx hy hdx ne
  obtain ⟨s1, w1⟩ := w.laidF (o := .own y) hdx
  have hy' : upd H1 dx (.own y) y = none := by rw [upd_ne (Ne.symm ne)]; exact hy
  obtain ⟨m0, _, _⟩ := w1.free hy'
  have w2 : Wd X.K X.mg (F.up dx (.own y)) (upd (upd H1 dx (.own y)) y (.ins C dx [])) (mup M1 y (.ins c [])) := w1.laidM hy' (by intro z; cases z) ⟨C, dx, [], gC, upd_same, .nil⟩
  refine ⟨_, _, _, _, _, w2, .cons (.ref y) (rl.mono s1), h y m0, fun d M2 ⟨hd, hR⟩ F' H' v s2 w3 r3 => ?_, fun _ _ _ z => z.elim⟩
  subst hd
  cases r3
  exact ⟨rfl, k _ _ hR F' H' _ (s1.trans s2) w3 (.ref y)⟩
theorem ze_makeD0 {c : Str} {C : Addr} {k : Nat} {g : Addr} {fd : FuncData} {ps : List Str} {zs : ZSp} {dvs : List V} {dws : List Value} {dds : List D} {p pos : Pos} (gC : X.mg c = some (.ref C)) (Mm : Mk X.K C g) (FO : FnOk X.prog X.w X.K X.mg X.base (L2.CX X.prog X.w) k g fd ps (liftSp X.K X.mg zs)) (hr : Room (k + 1) X.A) (hb : Binds X.K fd ps dws) (hd : Vals dvs dws)
    (hdd : ∀ F, RepL X.K X.mg F dvs dds) (hg : Gl X c := by rfl) (hdb : (c == ("__debug__" : Str)) = false := by decide) : PE X (.Call (.Name c p) [] [] pos) (UE X F0 (zMakeD0 c zs dds)) :=
  pe_imp (pe_make0 (E := E0) Mm FO hr hg gC hb hd passL hdb) fun s H Q h => by
  obtain ⟨F, rr, M, R, s0, w, e, h, k⟩ := h
  exact make_low0 gC w (hdd F) h k
def zMakeK0 (c : Str) (zs : ZSp) (m : Nat) (gD : List D → List D) (tk : ZA) : ZE := fun r M Q => tk r M fun es M1 => es.length = m ∧ ∀ p, M1 p = none → zs (.ref p :: gD es) (mup M1 p (.ins c [])) (fun d M2 => d = .non ∧ Q (.ref p) M2) fun _ _ _ => False
theorem ze_makeK0 {c : Str} {C : Addr} {k m : Nat} {g : Addr} {fd : FuncData} {ps ks : List Str} {zs : ZSp} {kws : List Keyword} {zk : ZA} {p pos : Pos} {gg : List Value → List Value → List Value} {gV : List V → List V → List V} {gD : List D → List D} (gC : X.mg c = some (.ref C)) (Mm : Mk X.K C g) (FO : FnOk X.prog X.w X.K X.mg X.base (L2.CX X.prog X.w) k g fd ps (liftSp X.K X.mg zs)) (hr : Room (k + 1) X.A) (hb : KBn X.K fd ps 1 ks gg gV) (hkl : ks.length = m)
    (hgd : ∀ (x : V) (zs : List V), zs.length = ks.length → ∃ us, gV [x] zs = x :: us ∧ ∀ (F : Fz) (es : List D), RepL X.K X.mg F zs es → RepL X.K X.mg F us (gD es))
    (hkw : PK X kws (UA X F0 zk)) (hall : (backToKw pos (keywordEach kws X.env)).all (·.1.isSome) = true := by rfl) (hks : (backToKw pos (keywordEach kws X.env)).filterMap (·.1) = ks := by rfl) (hg : Gl X c := by rfl)
    (hdb : (c == ("__debug__" : Str)) = false := by decide) (hpl : ((backTo pos (starEach [] X.env)).any (·.1) || (backToKw pos (keywordEach kws X.env)).any (·.1.isNone)) = false := by rfl) : PE X (.Call (.Name c p) [] kws pos) (UE X F0 (zMakeK0 c zs m gD zk)) := by
  subst hkl
  refine pe_imp (pe_makeK0 (E := E0) Mm FO hr hg gC hb passL hkw hall hks hdb hpl) fun s H Q h => ?_
  obtain ⟨F, rr, M, R, s0, w, e, h, k⟩ := h
  refine ⟨F, rr, M, _, s0, w, e, h, fun es M1 h1 F1 H1 vs s1 w1 r1 => ?_⟩
  have hl : vs.length = ks.length := by rw [r1.length]; exact h1.1
  refine ⟨rfl, hl, fun y dx hy hdx ne => ?_⟩
  obtain ⟨us, e1, e2⟩ := hgd (.ref y) vs hl
  rw [e1]
  exact make_low0 gC w1 (e2 F1 es r1) h1.2 (k.mono s1) y dx hy hdx ne
end
/-! ### a choice of readings -/
section
variable {X : Cx} {F0 : Fz}
def zAny (a b : ZE) : ZE := fun r M Q => a r M Q ∨ b r M Q
theorem ze_any {e : Expr} {a b : ZE} (ha : PE X e (UE X F0 a)) (hb : PE X e (UE X F0 b)) : PE X e (UE X F0 (zAny a b)) := ⟨fun pins s r H Q I h => by
  obtain ⟨F, rr, M, R, s0, w, e, h, k⟩ := h
  rcases h with h | h
  · exact ha.run pins s r H Q I ⟨F, rr, M, R, s0, w, e, h, k⟩
  · exact hb.run pins s r H Q I ⟨F, rr, M, R, s0, w, e, h, k⟩⟩
end
section
variable {r : Env} {M : Mh} {Q : QZ} {a : ZE} {t tk : ZA}
/-- the frozen one, the changing one -/
theorem i_anyF {b : ZE} (h : a r M Q) : zAny a b r M Q := .inl h
theorem i_anyT {b : ZE} (h : b r M Q) : zAny a b r M Q := .inr h
theorem i_lenO {c : Str} {zs : ZSp} (h : a r M fun d M1 => onIns M1 c d fun p _ => zs [.ref p] M1 (fun v M2 => onInt v fun n => 0 ≤ n ∧ n < 2 ^ 63 ∧ Q (.int n) M2) fun _ _ _ => False) : zLenO c zs a r M Q := h
theorem i_callK {zs : ZSp} {n m : Nat} {g : List D → List D → List D} (h : t r M fun ds M1 => tk r M1 fun es M2 => ds.length = n ∧ es.length = m ∧ zs (g ds es) M2 Q fun _ _ _ => False) : zCallK zs n m g t tk r M Q := h
theorem i_makeD0 {c : Str} {zs : ZSp} {es : List D} (h : ∀ p, M p = none → zs (.ref p :: es) (mup M p (.ins c [])) (fun d M2 => d = .non ∧ Q (.ref p) M2) fun _ _ _ => False) : zMakeD0 c zs es r M Q := h
theorem i_makeK0 {c : Str} {zs : ZSp} {m : Nat} {gD : List D → List D} (h : tk r M fun es M1 => es.length = m ∧ ∀ p, M1 p = none → zs (.ref p :: gD es) (mup M1 p (.ins c [])) (fun d M2 => d = .non ∧ Q (.ref p) M2) fun _ _ _ => False) : zMakeK0 c zs m gD tk r M Q := h
end
end Zl

/-! Zl16: the end, with how great the script's numbers are all together -/
namespace Zl
open PySem PySem.W PySem.Calls PyProof.Rows L2 Att
theorem log2_bits (n : Int) : n.natAbs.log2 ≤ Builtin.Int.intBits n := by
  unfold Builtin.Int.intBits
  by_cases h : n = 0
  · subst h; decide
  · rw [if_neg (by simpa using h)]; omega
theorem weight_sum : ∀ ns : List Int, (ns.map fun x : Int => x.natAbs.log2).sum ≤ WData.weightAll (ns.map WData.int)
  | [] => Nat.zero_le _
  | n :: r => by
    rw [List.map_cons, List.map_cons, List.sum_cons, Att.weight_cons, Att.weight_int]
    have := weight_sum r
    have := log2_bits n
    omega
theorem script_cells {ns : List Int} (hl : ns.length ≤ 63) (h : WData.layableAll [WData.list (ns.map WData.int)] = true) : cellsOk ns := by
  have h2 : WData.layable (WData.list (ns.map WData.int)) = true := by
    have h0 := h
    simp only [WData.layableAll, List.all_cons, List.all_nil, Bool.and_true] at h0
    exact h0
  have h3 : WData.weight (WData.list (ns.map WData.int)) ≤ 1048576 := by
    unfold WData.layable at h2
    simp only [Bool.and_eq_true, decide_eq_true_eq] at h2
    exact h2.2
  rw [Att.weight_list] at h3
  exact ⟨hl, Nat.le_trans (weight_sum ns) h3⟩
theorem walk_cells {l : OpenLaw} {k : Nat} {q : Program} {loose : List Str} {XP : (Str → Option Value) → Heap → Prop} {YP : World → Heap → Prop} {d : DefRec} {K : Params → PySem.W.Frag} {CX : World → CXT} {sp : World → Sp} {x : Str}
    (hn : l.most = some 63) (hdf : d.params.defaults = []) (hr : Room k callerA) (hY : ∀ (w : World) (h : Heap), YP w h → (K w.params).In h)
    (F : ∀ (w : World) (mg : Str → Option Value) (fa : Addr) (h : Heap), (K w.params).In h → h.Ns mainGlobals mg → mg d.name = some (.ref fa) →
      ∃ fd : FuncData, (∀ (s : Shared) (u : Value), BindsTo s fd ⟨[u], []⟩ [(x, u)]) ∧ ∀ base : Heap, (K w.params).In base → base.Ns mainGlobals mg → FnOk l.prog w (K w.params) mg base (CX w) k fa fd [x] (sp w))
    (hsp : ∀ (w : World) (H : Hp) (a : Addr) (ns : List Int), cellsOk ns → SqL (K w.params) H a (ns.map V.int) → sp w [.ref a] H (fun v _ => v = .bl true) fun _ _ _ => False)
    (hCX : ∀ (w : World) (H : Hp) (s : Shared) (e : Value) (s' : Shared), CX w [] H s (fun _ _ _ => False) e s' → False) : WalkO q loose XP YP l.row.toRowW d [] (fun f vs => PySem.call f vs) := by
  intro w s₀ s₁ mg mb G Y fa o pm cd doc dV kV ho hd hcd hD hmg hg args vals as hpre hlay hrd hwl hlo
  obtain rfl : dV = .none := Dflts.none hD hdf
  obtain rfl : kV = .none := Dflts.noKw hD
  obtain ⟨a, vs, ns, rfl, rfl, hobj, hints, hlen⟩ := script_of hn hpre hwl
  have KX := hY w _ Y
  obtain ⟨fd, hb, hF⟩ := F w mg fa _ KX G.T.g hmg
  refine enter_call (codeAny_mono (law_call KX G.T.g G.T.b G.T.builtins G.T.nolimit hg hobj hints (Nat.le_trans hlen (by decide)) hr hF hb (fun H _ hS => hsp w H a ns (script_cells hlen hlay) hS) fun H e s' => hCX w H s₁ e s') fun r s' hq => ?_)
  obtain ⟨rfl, h2, h3, h4⟩ := hq
  exact ⟨.inl ⟨.bool true, .bool true, [], rfl, fun _ => rfl, .bool true, post_true l _, fun _ => ⟨List.Pairwise.nil, fun _ hm => (nomatch hm)⟩⟩, h2, h3, h4⟩
end Zl

/-! Zl19: texts: str(..), int(..), join, split -/
namespace Zl
open PySem L2 TL
/-- the text of a whole number -/
def numS (n : Nat) : Str := Str.ofString (toString ((n : Nat) : Int))
theorem numS_tl (n : Nat) : tl (numS n) = numL n := tl_num n
theorem strOk_tl {x : Str} : PyData.strOk x = true ↔ ∀ c ∈ tl x, c < 0x110000 := by
  unfold PyData.strOk tl
  rw [Array.all_eq_true_iff_forall_mem]
  constructor
  · intro h c hc; exact of_decide_eq_true (h c (by simpa using hc))
  · intro h c hc; exact decide_eq_true (h c (by simpa using hc))
theorem numS_ok (n : Nat) : PyData.strOk (numS n) = true := strOk_tl.mpr fun c hc => by
  rw [numS_tl] at hc
  have := numL_digits n c hc
  omega
theorem numS_len {n : Nat} (h : n < 1000) : (numS n).length ≤ 3 := by
  rw [len_tl, numS_tl]
  exact numL_len (by omega) (by omega)
section
variable {K : PySem.W.Frag} {mg : Str → Option Value}
def dStr (ds : List D) (M : Mh) (Q : QZ) : Prop := match ds with
  | [.int i] => 0 ≤ i ∧ i < 1000 ∧ Q (.str (numS i.toNat)) M
  | [.str s] => Q (.str s) M
  | _ => False
theorem snd_str : SndA K mg (fun xs H Q => (∃ i, xs = [.int i] ∧ i.natAbs.log2 < 1920 ∧ Q (.str (toString i)) H) ∨ ∃ a, xs = [.str a] ∧ Q (.str a) H) dStr := by
  intro F H M xs ds Q R w rl h k
  unfold dStr at h
  split at h
  · rename_i i
    cases rl with
    | cons r1 rl =>
      cases rl
      cases r1
      obtain ⟨h0, h1, h⟩ := h
      refine .inl ⟨i, rfl, ?_, ?_⟩
      · have : i.natAbs < 2 ^ 1920 := Nat.lt_of_lt_of_le (show i.natAbs < 2 ^ 10 by omega) (Nat.pow_le_pow_right (by decide) (by decide : 10 ≤ 1920))
        by_cases z : i.natAbs = 0
        · rw [z]; decide
        · exact (Nat.log2_lt z).mpr this
      · have e : (toString i : Str) = numS i.toNat := by
          unfold numS
          rw [Int.toNat_of_nonneg h0]
        have q := k _ _ h _ _ (V.str (numS i.toNat)) (Le.refl F) w (.str (numS_ok _) (Nat.le_trans (numS_len (by omega)) (by decide)))
        rw [← e] at q
        exact q
  · cases rl with
    | cons r1 rl =>
      cases rl
      cases r1 with
      | str h1 h2 => exact .inr ⟨_, rfl, k _ _ h _ _ _ (Le.refl F) w (.str h1 h2)⟩
  · exact h.elim
def dInt (ds : List D) (M : Mh) (Q : QZ) : Prop := match ds with
  | [.str a] => ∃ n, intText? a = some n ∧ a.length ≤ 640 ∧ Q (.int n) M
  | _ => False
theorem snd_int : SndA K mg (fun xs H Q => ∃ a n, xs = [.str a] ∧ PySem.intText? a = some n ∧ a.length ≤ 640 ∧ Q (.int n) H) dInt := by
  intro F H M xs ds Q R w rl h k
  unfold dInt at h
  split at h
  · cases rl with
    | cons r1 rl =>
      cases rl
      cases r1
      obtain ⟨n, h0, h1, h⟩ := h
      exact ⟨_, n, rfl, h0, h1, k _ _ h _ _ _ (Le.refl F) w (.int n)⟩
  · exact h.elim
/-! join -/
theorem joinL_mem {S : List Nat} {c : Nat} : ∀ {ps : List (List Nat)}, c ∈ joinL S ps → c ∈ S ∨ ∃ p ∈ ps, c ∈ p
  | [], h => by simp [joinL] at h
  | [p], h => .inr ⟨p, by simp, by simpa [joinL] using h⟩
  | p :: q :: r, h => by
    rw [joinL] at h
    simp only [List.mem_append] at h
    rcases h with h | h | h
    · exact .inr ⟨p, by simp, h⟩
    · exact .inl h
    · rcases joinL_mem h with h | ⟨p', hp, h⟩
      · exact .inl h
      · exact .inr ⟨p', List.mem_cons_of_mem _ hp, h⟩
theorem joinL_len {S : List Nat} : ∀ (ps : List (List Nat)), (joinL S ps).length ≤ (ps.map List.length).sum + ps.length * S.length
  | [] => by simp [joinL]
  | [p] => by simp [joinL]
  | p :: q :: r => by
    have ih := joinL_len (S := S) (q :: r)
    rw [joinL]
    simp only [List.length_append, List.map_cons, List.sum_cons, List.length_cons, Nat.add_mul] at *
    omega
theorem map_len_tl (ys : List Str) : (ys.map tl).map List.length = ys.map (·.length) := by
  rw [List.map_map]
  exact List.map_congr_left fun y _ => (len_tl y).symm
def dJoin (x : D) (ds : List D) (M : Mh) (Q : QZ) : Prop := match x, ds with
  | .str a, [y] => zL M y fun l => ∃ ys : List Str, l = ys.map D.str ∧ (ys.map (·.length)).sum + ys.length * a.length ≤ 16777216 ∧ Q (.str (Txt.join a ys)) M
  | _, _ => False
theorem strs_okL {F : Fz} : ∀ {vs : List V} {ys : List Str}, RepL K mg F vs (ys.map D.str) → ∀ y ∈ ys, PyData.strOk y = true
  | _, [], _, _, h => nomatch h
  | _, y :: r, .cons a t, z, h => by
    rcases List.mem_cons.mp h with rfl | h
    · cases a with | str h1 _ => exact h1
    · exact strs_okL t z h
theorem snd_join : SndM K mg (fun x xs H Q => ∃ a p, ∃ ys : List Str, x = .str a ∧ xs = [.ref p] ∧ (SqL K H p (ys.map V.str) ∨ SqT K H p (ys.map V.str)) ∧
    (ys.map (·.length)).sum + ys.length * a.length ≤ 16777216 ∧ Q (.str (Txt.join a ys)) H) dJoin := by
  intro F H M x xs d ds Q R w r rl h k
  unfold dJoin at h
  split at h
  · rename_i a y
    cases r with
    | str ha1 ha2 =>
    cases rl with
    | cons r1 rl =>
      cases rl
      obtain ⟨p, vs, es, rfl, hp, hl, q, ys, rfl, hz, h⟩ := zL_out w r1 h
      have e := q.strs_of
      subst e
      refine ⟨_, p, ys, rfl, rfl, .inl (SqL.of hp), hz, k _ _ h _ _ _ (Le.refl F) w (.str ?_ ?_)⟩
      · refine strOk_tl.mpr fun c hc => ?_
        rw [join_eq, tl_join] at hc
        rcases joinL_mem hc with hc | ⟨p, hp, hc⟩
        · exact strOk_tl.mp ha1 c hc
        · obtain ⟨y, hy, rfl⟩ := List.mem_map.mp hp
          exact strOk_tl.mp (strs_okL q y hy) c hc
      · rw [len_tl, join_eq, tl_join, sizeLine_eq]
        have := joinL_len (S := tl a) (ys.map tl)
        rw [map_len_tl, List.length_map, ← len_tl] at this
        exact Nat.le_trans this hz
  · exact h.elim
/-! split -/
theorem spl_mem {S : List Nat} {c : Nat} : ∀ (l : List Nat) (k : Nat) (acc : List Nat), ∀ p ∈ spl S k acc l, (c ∈ p → c ∈ acc ∨ c ∈ l) ∧ p.length ≤ acc.length + l.length
  | [], k, acc, p, h => by
    rw [spl_nil] at h
    simp at h
    subst h
    exact ⟨fun h => .inl h, by simp⟩
  | x :: r, 0, acc, p, h => by
    cases hp : pre S (x :: r)
    · rw [spl_miss hp] at h
      obtain ⟨h1, h2⟩ := spl_mem (c := c) r 0 (acc ++ [x]) p h
      refine ⟨fun hc => ?_, by simp at h2 ⊢; omega⟩
      rcases h1 hc with h | h
      · rcases List.mem_append.mp h with h | h
        · exact .inl h
        · exact .inr (by simp at h; simp [h])
      · exact .inr (List.mem_cons_of_mem _ h)
    · rw [spl_hit hp] at h
      rcases List.mem_cons.mp h with rfl | h
      · exact ⟨fun h => .inl h, by omega⟩
      · obtain ⟨h1, h2⟩ := spl_mem (c := c) r (S.length - 1) [] p h
        refine ⟨fun hc => ?_, by simp at h2 ⊢; omega⟩
        rcases h1 hc with h | h
        · simp at h
        · exact .inr (List.mem_cons_of_mem _ h)
  | x :: r, k + 1, acc, p, h => by
    rw [spl_pass, List.drop_succ_cons, ← spl_pass] at h
    obtain ⟨h1, h2⟩ := spl_mem (c := c) r k acc p h
    refine ⟨fun hc => ?_, by simp; omega⟩
    rcases h1 hc with h | h
    · exact .inl h
    · exact .inr (List.mem_cons_of_mem _ h)
theorem repL_strs' {F : Fz} : ∀ (ns : List Str), (∀ x ∈ ns, PyData.strOk x = true ∧ x.length ≤ sizeLine) → RepL K mg F (ns.map V.str) (ns.map D.str)
  | [], _ => .nil
  | x :: r, h => .cons (.str (h x (by simp)).1 (h x (by simp)).2) (repL_strs' r fun y hy => h y (List.mem_cons_of_mem _ hy))
/-- x.split(b), b of signs below 256 -/
def dSplit (n : Bool) (x : D) (ds : List D) (M : Mh) (Q : QZ) : Prop := match x, ds with
  | .str a, [.str b] => tl b ≠ [] ∧ b.cps.all (· < 256) = true ∧ a.length + 2 ≤ sizeLine ∧ zNew n ((Txt.split a b).map D.str) M Q
  | _, _ => False
theorem snd_split (n : Bool) : SndM K mg (fun x xs H Q => ∃ a b, x = .str a ∧ xs = [.str b] ∧ (b.length == 0) = false ∧ a.length + 2 ≤ sizeLine ∧ rNewStrs (Txt.split a b) H Q) (dSplit n) := by
  intro F H M x xs d ds Q R w r rl h k
  unfold dSplit at h
  split at h
  · rename_i a b
    cases r with
    | str ha1 ha2 =>
    cases rl with
    | cons r1 rl =>
      cases rl
      cases r1
      obtain ⟨hb, hk, hz, h⟩ := h
      refine ⟨a, b, rfl, rfl, ?_, hz, zNew_out w ?_ ?_ h k⟩
      · have := len1 hb
        cases e : (b.length == 0)
        · rfl
        · have := eq_of_beq e; omega
      · rw [List.length_map]
        exact Nat.le_trans (PyProof.Rows.split_le a b) hz
      · refine repL_strs' _ fun y hy => ?_
        have e := split_spl a b hb (kind_ok hk)
        have hy' : tl y ∈ spl (tl b) 0 [] (tl a) := by rw [← e]; exact List.mem_map_of_mem hy
        refine ⟨strOk_tl.mpr fun c hc => ?_, ?_⟩
        · rcases (spl_mem (c := c) _ _ _ _ hy').1 hc with h | h
          · simp at h
          · exact strOk_tl.mp ha1 c h
        · have := (spl_mem (c := 0) _ _ _ _ hy').2
          rw [← len_tl a, ← len_tl y, List.length_nil] at this
          omega
  · exact h.elim
/-! steps -/
theorem i_strI {M : Mh} {Q : QZ} {i : Int} (h0 : 0 ≤ i) (h1 : i < 1000) (q : Q (.str (numS i.toNat)) M) : dStr [.int i] M Q := ⟨h0, h1, q⟩
theorem i_strS {M : Mh} {Q : QZ} {s : Str} (q : Q (.str s) M) : dStr [.str s] M Q := q
theorem i_int {M : Mh} {Q : QZ} {a : Str} {n : Int} (h : intText? a = some n) (h1 : a.length ≤ 640) (q : Q (.int n) M) : dInt [.str a] M Q := ⟨n, h, h1, q⟩
theorem i_join {M : Mh} {Q : QZ} {a : Str} {ys : List Str} (h : (ys.map (·.length)).sum + ys.length * a.length ≤ 16777216) (q : Q (.str (Txt.join a ys)) M) : dJoin (.str a) [.lst (ys.map D.str)] M Q := ⟨ys, rfl, h, q⟩
theorem i_joinE {M : Mh} {Q : QZ} {a : Str} {ds : List D} {ys : List Str} (e : ds = ys.map D.str) (h : (ys.map (·.length)).sum + ys.length * a.length ≤ 16777216) (q : Q (.str (Txt.join a ys)) M) : dJoin (.str a) [.lst ds] M Q := ⟨ys, e, h, q⟩
theorem i_joinR {M : Mh} {Q : QZ} {a : Str} {ys : List Str} {p : Addr} (e : M p = some (.lst (ys.map D.str))) (h : (ys.map (·.length)).sum + ys.length * a.length ≤ 16777216) (q : Q (.str (Txt.join a ys)) M) : dJoin (.str a) [.ref p] M Q := by
  show zL M (.ref p) _
  rw [zL_ref e]
  exact ⟨ys, rfl, h, q⟩
theorem i_split {M : Mh} {Q : QZ} {n : Bool} {a b : Str} (h1 : tl b ≠ []) (h2 : b.cps.all (· < 256) = true) (h3 : a.length + 2 ≤ sizeLine) (q : zNew n ((Txt.split a b).map D.str) M Q) : dSplit n (.str a) [.str b] M Q := ⟨h1, h2, h3, q⟩
/-! range of three -/
def onI3 (ds : List D) (k : Int → Int → Int → Prop) : Prop := match ds with | [.int i, .int j, .int s] => k i j s | _ => False
theorem i_range3 {r : Env} {M : Mh} {ta : ZA} {Q : List D → Ck → Mh → Prop} (h : ta r M fun ds M1 => onI3 ds fun i j s => ∃ n, RgC i j s n ∧ n ≤ 16777216 ∧ Q (rangeD i s n) none M1) : ziRange3 ta r M Q := h
theorem i_onI3 {k : Int → Int → Int → Prop} {i j s : Int} (h : k i j s) : onI3 [.int i, .int j, .int s] k := h
theorem fitsL {i : Int} (h : 0 ≤ i) (h2 : i < 2 ^ 31) : Builtin.Range.rangeFitsLong i = true := by
  unfold Builtin.Range.rangeFitsLong
  rw [decide_eq_true (by omega), decide_eq_true (by omega)]; rfl
theorem rgc_ten {len : Nat} (h2 : len < 2 ^ 30) : RgC 0 (len : Int) 10 ((len + 9) / 10) := by
  have e := PyProof.Rows.rangeSize_pos (len := (len : Int)) (c := 10) (by omega) (by omega)
  refine ⟨by omega, by omega, ?_, ?_⟩
  · unfold Builtin.Range.small
    rw [e, fitsL (by omega) (by omega), fitsL (by omega) (by omega), fitsL (by omega) (by omega), fitsL (by omega) (by omega), if_pos (by decide), fitsL (by omega) (by omega), Bool.or_true]
    rfl
  · rw [e]; omega
end
end Zl

/-! Zl22: an exception that leaves a list comprehension -/
namespace Zl
open PySem L2 PySem.Spec PyProof.Rows
section
variable {M : Model} {A : Around} {E : Value → Shared → Prop} {s : Shared} {env : PySem.Env}
/-- what the block of a comprehension is to reach -/
def compEnd (M : Model) (A : Around) (E : Value → Shared → Prop) (Q : Value → Shared → Prop) (acc : Value) (cenv : PySem.Env) (r : Result) (s' : Shared) : Prop := match r with
  | .ok _ => ∃ m, s'.heap.Ns cenv.locals m ∧ ∀ h', Heap.SameBut cenv.locals s'.heap h' → Q acc { s' with heap := h' }
  | .error x => ∃ m, s'.heap.Ns cenv.locals m ∧ ∀ h', Heap.SameBut cenv.locals s'.heap h' → wpAny M A (PySem.passOn "comprehension.variables-let-go" x cenv : Sem Value) (fun _ _ => False) E { s' with heap := h' }
theorem comp_end {e : Expr} {scope : Scope} {pos : Pos} {newAcc first : Sem Value} {g : Comprehension} {gs : List Comprehension} {cl : List (Str × Addr)} {Q : Value → Shared → Prop}
    (hcl : clausesOf e = g :: gs) (hs : ∀ x, foldedSetIterable g.iter env x = pure x) (hclos : closureFor scope env = pure cl) (hkind : scope.kind = .function) (hnames : ∀ x ∈ scope.names, x.2 = .local → scope.names.lookup x.1 = some .local)
    (h : wpAny M A first (fun x s1 => wpAny M A (pyIter x) (fun it s2 => wpAny M A newAcc (fun acc s3 => wpAny M A (newFunctionEnv scope env.globals cl [] env.qual none .none (some env)) (fun cenv s4 =>
        codeAny M A (.compStart e 0 it acc { cenv with scope := relabel scope env }) (compEnd M A E Q acc { cenv with scope := relabel scope env }) s4) E s3) E s2) E s1) E s) :
    wpAny M A (comprehension e scope env pos newAcc false first none) Q E s := by
  unfold comprehension; rw [hclos, hcl]
  refine wpAny_bind (wpAny_mono h (fun x s1 h1 => wpAny_bind (wpAny_standAt (wpAny_bind (wpAny_of_eq (hs x) (wpAny_bind (wpAny_holding (wpAny_mono h1 (fun it s2 h2 => wpAny_standIf (wpAny_bind (wpAny_mono h2 (fun acc s3 h3 => wpAny_bind (wpAny_pure (wpAny_bind (wpAny_mono h3 (fun cenv s4 h4 => ?_) fun _ _ z => z)))) fun _ _ z => z))) fun _ _ z => z))))))) fun _ _ z => z)
  dsimp only
  have hv : ∀ x ∈ (scope.names.filter fun x => (x.2 == .local || x.2 == .cell) && x.1 != (".0" : Str)).reverse, x.2 = .local → PySem.Env.kindOf { cenv with scope := relabel scope env } x.1 = some .local := fun x hx hl => lookup_relabel_local (hnames x (List.mem_filter.mp (List.mem_reverse.mp hx)).1 hl)
  refine wpAny_holding (wpAny_bind (wpAny_attempt (wpAny_holding (wpAny_run (codeAny_mono h4 fun r s' hr => ?_)))))
  cases r with
  | ok f =>
    obtain ⟨m, hn, hr⟩ := hr
    exact wpAny_bind (wpAny_holding (wpAny_comp_letGo (cenv := { cenv with scope := relabel scope env }) hkind _ s' m hv hn fun h' m' _ sb => wpAny_pure (hr h' sb)))
  | error x =>
    obtain ⟨m, hn, hr⟩ := hr
    exact wpAny_bind (wpAny_holding (wpAny_comp_letGo (cenv := { cenv with scope := relabel scope env }) hkind _ s' m hv hn fun h' m' _ sb => wpAny_mono (hr h' sb) (fun _ _ f => f.elim) fun _ _ y => y))
end
section
variable {X : Cx}
/-- a call's exception, still flying -/
theorem fly_call {pins : List (Addr × Obj)} {σ : L2.St} {H : Hp} {s s' : Shared} {E : XK} {u : Value} (I : Inv X pins σ H s) (c : L2.CX X.prog X.w X.stack H s E u s') :
    ∃ (a : Addr) (B : Heap) (sI : Shared) (H' : Hp) (cls : Value) (d : Option Addr), u = .ref a ∧ Inv X pins σ H' sI ∧ (∀ b o, sI.heap.get? b = some o → b ∉ frs X.stack → B.get? b = some o) ∧ sI.heap.UpToSlots s'.heap ∧ HandSPX.FlyingZ B X.stack a (Zc cls d) s'.heap ∧ H' a = none ∧ s'.os = sI.os ∧ AllBare s'.gens ∧ E cls d H' := by
  obtain ⟨a, B, H', cls, d, rfl, fl, hok, ub, na, os, ag, hE⟩ := c
  obtain ⟨G, k1, k2⟩ := restrict s'.heap fun b => (B.get? b).isSome || decide (b ∈ frs X.stack)
  have inB : ∀ b o, B.get? b = some o → G.get? b = some o := fun b o e => by rw [k1 b (by simp [e])]; exact fl.1 b o e
  have inF : ∀ b, b ∈ frs X.stack → G.get? b = s'.heap.get? b := fun b hb => k1 b (by simp [hb])
  have back : ∀ b o, G.get? b = some o → s'.heap.get? b = some o ∧ ((B.get? b).isSome = true ∨ b ∈ frs X.stack) := fun b o e => by
    cases q : ((B.get? b).isSome || decide (b ∈ frs X.stack)) with
    | false => rw [k2 b q] at e; cases e
    | true => rw [k1 b q] at e; exact ⟨e, by simpa [Bool.or_eq_true] using q⟩
  refine ⟨a, B, { s with heap := G, gens := s'.gens, drawn := s'.drawn, toks := s'.toks }, H', cls, d, rfl, ?_, fun b o e hb => ?_, Heap.UpToSlots.of_keeps fun b o e => (back b o e).1, fl, na, os, ag, hE⟩
  · refine I.call (ch := []) ⟨fun b o e n hb _ => inB b o (ub.keep b o e n hb), fun b o e n hb _ => ?_, fun b o e n _ => ub.free b o e n, fun b o e _ => ?_, ub.tups, ub.frzs, ub.tbls⟩ (hok.kept inB) ag (fun _ z => nomatch z)
    · obtain ⟨sl, q⟩ := ub.slot b o e hb; exact ⟨sl, by rw [inF b hb]; exact q⟩
    · by_cases hb : b ∈ frs X.stack
      · obtain ⟨sl, q⟩ := ub.slot b o e hb; exact ⟨_, by rw [inF b hb]; exact q⟩
      · obtain ⟨o', q⟩ := ub.there b o e hb; exact ⟨o', inB b o' q⟩
  · obtain ⟨e1, e2⟩ := back b o e
    rcases e2 with e2 | e2
    · obtain ⟨o', e3⟩ := Option.isSome_iff_exists.mp e2
      rw [fl.1 b o' e3] at e1; cases e1; exact e3
    · exact absurd e2 hb
theorem funFrames_less {h h2 B B2 : Heap} {C : Addr} (sb : ∀ b, b ≠ C → h2.get? b = h.get? b) (hB : ∀ b, b ≠ C → B2.get? b = B.get? b) : ∀ {l : List PySem.Env}, C ∉ frs l → h.FunFrames B l → h2.FunFrames B2 l
  | [], _, _ => trivial
  | env :: l, hC, hl => by
    obtain ⟨hk, ⟨L, o, hf, hn, ho, hd⟩, hr⟩ := hl
    have hL : L ≠ C := fun z => hC (List.mem_filterMap.mpr ⟨env, List.mem_cons_self, by rw [hf, z]⟩)
    refine ⟨hk, ⟨L, o, hf, by rw [hB L hL]; exact hn, by rw [sb L hL]; exact ho, hd⟩, funFrames_less sb hB (fun z => hC ?_) hr⟩
    obtain ⟨e, he, q⟩ := List.mem_filterMap.mp z
    exact List.mem_filterMap.mpr ⟨e, List.mem_cons_of_mem _ he, q⟩
/-- it passes the block's end -/
theorem blk_pass {W : WX} {pins pins2 : List (Addr × Obj)} {σ σ2 : L2.St} {H H3 : Hp} {s s' s3 : Shared} {u acc : Value} {scope : Scope} {ce : PySem.Env} {fp : List Addr} {xe : Value → Shared → Prop} {Q : Value → Shared → Prop} (hst : X.stack = X.env :: X.outer) (hf : X.env.frame = some X.env.locals) (tk : Takes X W)
    (I3 : Inv X pins σ H3 s3) (f3 : ∀ b ∈ fp, FpOk X pins H3 b ∧ b < s3.heap.objs.size) (cf : ce.frame = X.env.frame) (cL : s3.heap.objs.size ≤ ce.locals) (J : Inv ((X.blk s3 H3 scope ce fp).tr [] xe) pins2 σ2 H s) (c : L2.CX X.prog X.w X.stack H s (fun cls d H' => W cls d σ H') u s') :
    wpAny (model X.prog X.w) X.A (noteFrame u ce) (fun _ s2 => compEnd (model X.prog X.w) X.A X.xe Q acc ce (.error u) s2) (fun e s2 => compEnd (model X.prog X.w) X.A X.xe Q acc ce (.error e) s2) s' := by
  obtain ⟨a, B, sI, H', cls, d, rfl, J', nb, up, fl, na, os, ag, w⟩ := fly_call J c
  have I7 : Inv X pins σ H' sI := I3.call' (ch := fp) J'.os J'.base J'.hok J'.bare fun b hb => ⟨(f3 b hb).1.2.2.2.1, (f3 b hb).1.2.1, (f3 b hb).1.2.2.2.2.1, (f3 b hb).1.2.2.2.2.2⟩
  have hfr : X.A.frames = some (X.env :: X.outer) := by rw [I3.ok.frames, hst]
  have en : noteFrame (.ref a) ce = noteFrame (.ref a) X.env := by unfold noteFrame PySem.frameOf; rw [cf]
  have nC : H' ce.locals = none := J'.free
  have fC := I3.fpOk (H' := H') cL nC
  have fl : HandSPX.FlyingZ B X.stack a (Zc cls d) s'.heap := fl
  rw [hst] at fl
  rw [en]
  refine HandSPX.looks_onZ Zc.steady hfr hf fl fun h1 hh up1 => ?_
  obtain ⟨m, hm, _⟩ := J'.loc
  have hm : sI.heap.Ns ce.locals m := hm
  have hm1 : h1.Ns ce.locals m := (up.trans up1).ns hm
  have cStack : ce.locals ∉ frs (X.env :: X.outer) := fun z => by
    obtain ⟨_, o, ho, _⟩ := fl.2.2.1.mem z
    obtain ⟨e, he, q⟩ := List.mem_filterMap.mp z
    rcases List.mem_cons.mp he with rfl | he
    · rw [hf] at q; injection q with q; exact fC.2.1 q.symm
    · exact fC.2.2.1 (List.mem_filterMap.mpr ⟨e, he, q⟩)
  refine ⟨m, hm1, fun h2 sb => ?_⟩
  -- the ground without the block's names
  obtain ⟨B2, b1, b2⟩ := restrict B fun b => decide (b ≠ ce.locals)
  obtain ⟨G2, g1, g2⟩ := restrict sI.heap fun b => decide (b ≠ ce.locals)
  have b1 : ∀ b, b ≠ ce.locals → B2.get? b = B.get? b := fun b hb => b1 b (decide_eq_true hb)
  have b2 : B2.get? ce.locals = none := b2 _ (decide_eq_false fun z => z rfl)
  have g1 : ∀ b, b ≠ ce.locals → G2.get? b = sI.heap.get? b := fun b hb => g1 b (decide_eq_true hb)
  have g2 : G2.get? ce.locals = none := g2 _ (decide_eq_false fun z => z rfl)
  have notC : ∀ b o vs, h1.get? b = some o → o.data = .fields vs → b ≠ ce.locals := fun b o vs e q z => by
    obtain ⟨o', es, ep, ho', hd', _⟩ := hm1
    rw [z, ho'] at e; cases e; rw [hd'] at q; cases q
  have hh2 : HandSPX.HeldZ B2 (X.env :: X.outer) a (Zc cls d) X.env.locals h2 := by
    obtain ⟨x1, x2, x3, oe, vs, T, oT, ts, he, hz, hd, q1, hnT, hTe, hT, hdT, q3⟩ := hh
    have na' := notC a oe vs he hd
    have nT' := notC T oT ts hT hdT
    refine ⟨fun b o e => ?_, by rw [b1 a na']; exact x2, funFrames_less sb.2 b1 cStack x3, oe, vs, T, oT, ts, by rw [sb.2 a na']; exact he, hz, hd, q1, by rw [b1 T nT']; exact hnT, hTe, by rw [sb.2 T nT']; exact hT, hdT, q3⟩
    have hb : b ≠ ce.locals := fun z => by rw [z, b2] at e; cases e
    rw [b1 b hb] at e
    rw [sb.2 b hb]; exact x1 b o e
  have I8 : Inv X pins σ H' { sI with heap := G2, toks := sI.toks } := I7.turned (it := ce.locals) (fun b o hb e => by rw [g1 b hb]; exact e) nC fC.2.1 fC.2.2.2.1 fC.2.2.2.2.1 fC.2.2.2.2.2
  obtain ⟨x1, x2, x3, oe, vs, T, oT, ts, he, hz, hd, q1, hnT, hTe, hT, hdT, q3⟩ := id hh2
  unfold PySem.passOn
  refine wpAny_bind (wpAny_field he hd q1 ?_)
  rw [if_neg (show ¬ ((Value.ref T == Value.none) = true) by simp), cf, hf]
  refine wpAny_bind (HandSPX.setFlight_onZ hh2 fun h3 hh3 up3 => ?_)
  refine wpAny_throw (tk _ _ ⟨a, B2, _, pins, σ, H', cls, d, rfl, I8, fun b o e hb => ?_, fun b o e hn => ?_, .inr (.inr (by rw [hst]; exact hh3)), na, os, ag, w⟩)
  · have hb2 : b ≠ ce.locals := fun z => by rw [z, g2] at e; cases e
    rw [g1 b hb2] at e
    rw [b1 b hb2]; exact nb b o e hb
  · have hb2 : b ≠ ce.locals := fun z => by rw [z, g2] at e; cases e
    rw [g1 b hb2] at e
    obtain ⟨sl, e1⟩ := up.trans up1 b o e hn
    have e2 : h2.get? b = some { o with slots := sl } := by rw [sb.2 b hb2]; exact e1
    obtain ⟨sl', e3⟩ := up3 b _ e2 hn
    exact ⟨sl', e3⟩
/-- the block's context, its exceptions told by xe -/
abbrev blkX (X : Cx) (s : Shared) (H : Hp) (scope : Scope) (ce : PySem.Env) (fp : List Addr) (xe : Value → Shared → Prop) : Cx := (X.blk s H scope ce fp).tr [] xe
theorem lcX_core {W : WX} {pins : List (Addr × Obj)} {s : Shared} {σ : L2.St} {H : Hp} {Q : VK} {elt tg iter : Expr} {scope : Scope} {own : List (Str × Nat)} {pos pos' : Pos} {wi : TI} {g : TG} {te : XK → TE} (hc : X.calm = true) (hN : X.N.Nodup) (hst : X.stack = X.env :: X.outer) (hf : X.env.frame = some X.env.locals) (tk : Takes X W)
    (I : Inv X pins σ H s) (hi : PI X tg iter wi) (ok : BlkOk X.N X.env.scope scope own) (hg : ∀ (s : Shared) (H : Hp) (C : Addr) (cl : List (Str × Addr)) (fp : List Addr) (xe : Value → Shared → Prop), PG (blkX X s H scope (compEnvC scope cl C X.env) fp xe) tg g)
    (he : ∀ (WB : XK) (s : Shared) (H : Hp) (C : Addr) (cl : List (Str × Addr)) (fp : List Addr) (xe : Value → Shared → Prop), (∀ σ2, PassesAt (L2.CX X.prog X.w) (blkX X s H scope (compEnvC scope cl C X.env) fp xe) σ2 WB) → PE (blkX X s H scope (compEnvC scope cl C X.env) fp xe) elt (te WB)) (hs : ∀ x, foldedSetIterable iter X.env x = pure x)
    (h : tLc wi g tYes (te fun cls d H' => W cls d σ H') (own.map (·.2)) σ H Q) :
    wpAny (model X.prog X.w) X.A (comprehension (.ListComp elt [⟨tg, iter, [], 0⟩] scope pos) scope X.env pos' (newList []) false (eval iter X.env) none) (EP X pins σ Q) X.xe s := by
  have hfr : ∀ y ∈ scope.names, y.2 = .free → ∃ c, X.env.cells.lookup y.1 = some c := fun y hy e => (ok.free y hy e).elim (fun k => I.ok.has _ (.inl k)) fun k => I.ok.has _ (.inr k)
  refine comp_end (g := ⟨tg, iter, [], 0⟩) (gs := []) rfl hs (closure_ok hfr) ok.kind (fun y hy e => by rw [ok.uniq y hy, e]) (thn (hi.run pins s σ H _ I h) fun xv s1 hx => thn hx fun itv s2 h2 => ?_)
  obtain ⟨it, fp, tn, J, H2, rfl, I2, T, st2, f2, q⟩ := h2
  refine wpAny_newObj_type (newEnv_comp ?_) (by show 0 ≤ sizeLine; decide)
  generalize hD : s2.heap.objs.size = D
  have dn : H2 D = none := I2.hok.fresh (Nat.le_of_eq hD)
  obtain ⟨Wm, ⟨m0, w0⟩, turn⟩ := q D dn
  generalize hs3 : ({ s2 with heap := s2.heap.push { cls := .type "list", data := .seq ([] : List Value).toArray } } : Shared) = s3
  have h3 : s3.heap = s2.heap.push { cls := .type "list", data := .seq ([] : List Value).toArray } := by rw [← hs3]
  have I3 : Inv X pins σ (upd H2 D (.lst [])) s3 := by
    rw [← hs3]; refine I2.laid (t' := s2.toks) (fun b o e => Heap.get?_push_of_some _ e) (Nat.le_of_eq hD) ⟨Nat.zero_le _, [], 0, .nil, ?_⟩; rw [← hD]; exact Heap.get?_push_size _ rfl
  have f3 : ∀ b ∈ fp, FpOk X pins (upd H2 D (.lst [])) b ∧ b < s3.heap.objs.size := fun b hb => by
    obtain ⟨o, e, _⟩ := T.obj _ _ st2 b hb
    have lt := Heap.lt_size e
    exact ⟨⟨by rw [upd_ne (by rw [← hD]; exact Nat.ne_of_lt lt)]; exact (f2 b hb).1, (f2 b hb).2⟩, by rw [h3, Heap.size_push]; exact Nat.lt_succ_of_lt lt⟩
  have st3 : tn 0 s3.heap := T.keep _ _ _ st2 fun b _ o e => by rw [h3]; exact Heap.get?_push_of_some _ e
  have I4 := block_start I3 ok hN f3
  generalize hce : compEnvC scope (cellsFrom (s3.heap.objs.size + 1) scope.names (cloFrom X.env.cells scope.names [])) s3.heap.objs.size X.env = ce at I4
  have cl : ce.locals = s3.heap.objs.size := by subst hce; rfl
  have cf : ce.frame = X.env.frame := by subst hce; rfl
  show codeAny _ _ (.compStart (.ListComp elt [⟨tg, iter, [], 0⟩] scope pos) 0 (.ref it) (.ref D) (compEnvC scope (cellsFrom (s3.heap.objs.size + 1) scope.names (cloFrom X.env.cells scope.names [])) s3.heap.objs.size X.env)) (compEnd (model X.prog X.w) X.A X.xe (EP X pins σ Q) (.ref D) (compEnvC scope (cellsFrom (s3.heap.objs.size + 1) scope.names (cloFrom X.env.cells scope.names [])) s3.heap.objs.size X.env)) { s3 with heap := pushCells (s3.heap.push { cls := .type "dict", data := .dict #[] }) scope.names }
  rw [hce]
  generalize hR : compEnd (model X.prog X.w) X.A X.xe (EP X pins σ Q) (.ref D) ce = R
  generalize hxe : notedBy (model X.prog X.w) X.A ce (fun e s' => R (.error e) s') = xe
  have nfp : ∀ b ∈ fp, (upd H2 D (.lst [])) b = none := fun b hb => (f3 b hb).1.1
  generalize hH3 : upd H2 D (.lst []) = H3 at I3 I4 w0 nfp f3
  have px : ∀ σ2, PassesAt (L2.CX X.prog X.w) (blkX X s3 H3 scope ce fp xe) σ2 (fun cls d H' => W cls d σ H') := fun σ2 pins2 Hx sx e sx' Jx cx => by
    show xe e sx'
    rw [← hxe, ← hR]
    exact blk_pass hst hf tk I3 f3 cf (Nat.le_of_eq cl.symm) Jx cx
  have pe : PE (blkX X s3 H3 scope ce fp xe) elt (te fun cls d H' => W cls d σ H') := by
    have z := he (fun cls d H' => W cls d σ H') s3 H3 s3.heap.objs.size (cellsFrom (s3.heap.objs.size + 1) scope.names (cloFrom X.env.cells scope.names [])) fp xe
    rw [hce] at z; exact z px
  have pg : PG (blkX X s3 H3 scope ce fp xe) tg g := by
    have z := hg s3 H3 s3.heap.objs.size (cellsFrom (s3.heap.objs.size + 1) scope.names (cloFrom X.env.cells scope.names [])) fp xe
    rw [hce] at z; exact z
  generalize hs4 : ({ s3 with heap := pushCells (s3.heap.push { cls := .type "dict", data := .dict #[] }) scope.names } : Shared) = s4 at I4 ⊢
  have st4 : tn 0 s4.heap := T.keep _ _ _ st3 fun b _ o e => by rw [← hs4]; exact pushCells_keeps _ _ _ _ (Heap.get?_push_of_some _ e)
  have I4' : Inv (blkX X s3 H3 scope ce fp xe) [] (wipe σ (own.map (·.2))) H3 s4 := I4.toTry xe
  have stat : ∀ {σ' : L2.St} {H' : Hp} {s' : Shared}, Inv (blkX X s3 H3 scope ce fp xe) [] σ' H' s' → (∀ b ∈ fp, H' b = none) → ∀ b ∈ fp, FpOk (blkX X s3 H3 scope ce fp xe) [] H' b := fun {σ' H' s'} I' hn b hb => ⟨hn b hb, (I'.ok.exf b hb).1, I'.ok.exfs b hb, .inl hb, fun x c e => (I'.ok.exf b hb).2 x c e, fun p hp => absurd (show p ∈ ([] : List (Addr × Obj)) ++ [] from hp) (by simp)⟩
  have loop : codeAny (model X.prog X.w) X.A (.compLoop (.ListComp elt [⟨tg, iter, [], 0⟩] scope pos) 0 (.ref it) (.ref D) ce) R s4 := by
    refine compLoop_any (fun n s' => ∃ i H', Inv (blkX X s3 H3 scope ce fp xe) [] (wipe σ (own.map (·.2))) H' s' ∧ tn i s'.heap ∧ (∀ b ∈ fp, H' b = none) ∧ Wm i n H') ?_ m0 ⟨0, H3, I4', st4, nfp, w0⟩
    rintro n s5 ⟨i, H5, I5, st5, n5, w5⟩
    rw [hxe]
    rcases turn i n H5 w5 with ⟨stop, qq⟩ | ⟨go, Nx, hNx, step⟩
    · refine thnF (T.done (blkX X s3 H3 scope ce fp xe) rfl rfl rfl hc i [] s5 _ H5 (fun _ _ => False) I5 (stat I5 n5) st5 stop) fun r s6 ⟨hr, I6⟩ => ?_
      subst hr
      have I7 : Inv X pins σ H5 s6 := I3.call' (ch := fp) I6.os I6.base I6.hok I6.bare fun b hb => ⟨(f3 b hb).1.2.2.2.1, (f3 b hb).1.2.1, (f3 b hb).1.2.2.2.2.1, (f3 b hb).1.2.2.2.2.2⟩
      have nC : H5 ce.locals = none := I6.free
      obtain ⟨m, hn, _⟩ := I6.loc
      have hn : s6.heap.Ns ce.locals m := hn
      obtain ⟨z0, z1, z2, z3, z4, z5⟩ := I3.fpOk (H' := H5) (Nat.le_of_eq cl.symm) nC
      rw [← hR]
      exact ⟨m, hn, fun h'' sb => ⟨.ref D, H5, I7.turned (t' := s6.toks) (fun b o hb e => (sb.2 b hb).trans e) z0 z1 z3 z4 z5, rfl, qq⟩⟩
    · refine thnF (T.item (blkX X s3 H3 scope ce fp xe) rfl rfl rfl hc i [] s5 _ H5 (fun _ _ => False) I5 (stat I5 n5) st5 go) fun r s6 ⟨u, hr, h6⟩ => ?_
      subst hr
      refine thnF h6 fun _ s7 ⟨x, H7, I7, r7, y7, st7, n7⟩ => ?_
      have I7' := I7.pinned (stat I7 n7) (T.obj _ _ st7)
      refine wpAny_mono (pg.run _ s7 _ H7 x u _ I7' r7 (step x H7 y7)) (fun _ s8 ⟨σ8, H8, I8, hw8, q8⟩ => ?_) fun _ _ z => z
      have fin : ∀ {s' : Shared} {H' : Hp}, Inv (blkX X s3 H3 scope ce fp xe) ([] ++ pinsAt fp s7.heap) σ8 H' s' → Nx H' → ∃ m, m < n ∧ ∃ i H', Inv (blkX X s3 H3 scope ce fp xe) [] (wipe σ (own.map (·.2))) H' s' ∧ tn i s'.heap ∧ (∀ b ∈ fp, H' b = none) ∧ Wm i m H' := fun {s' H'} I' nx => by
        obtain ⟨m', hm, w'⟩ := hNx H' nx
        have pinned : ∀ b ∈ fp, ∀ o, s7.heap.get? b = some o → s'.heap.get? b = some o ∧ H' b = none := fun b hb o e => let z := I'.pin (b, o) (List.mem_append_right _ (List.mem_append_right _ (mem_pinsAt hb e))); ⟨z.1, z.2.1⟩
        have hl : (wipe σ (own.map (·.2))).length = σ8.length := by rw [← hw8, wipe_length]
        refine ⟨m', hm, i + 1, H', (I'.unpinned (pins := [])).weak hl (fun j v e => ?_), T.keep _ _ _ st7 fun b hb o e => (pinned b hb o e).1, fun b hb => ?_, w'⟩
        · rw [← hw8] at e; exact (wipe_some e).1
        · obtain ⟨o, e, _⟩ := T.obj _ _ st7 b hb; exact (pinned b hb o e).2
      refine wpAny_mono ((pts_nil (X := blkX X s3 H3 scope ce fp xe)).run _ s8 σ8 H8 _ I8 q8) (fun b s9 ⟨H9, I9, q9⟩ => ?_) fun _ _ z => z
      cases b with
      | false => simp only [Bool.false_eq_true, if_false] at q9 ⊢; exact fin I9 q9
      | true =>
        simp only [if_true] at q9 ⊢
        refine wpAny_mono (pe.run _ s9 σ8 H9 _ I9 q9) (fun z s10 ⟨yv, H10, I10, r10, acc, hD10, hz10, nx⟩ => ?_) fun _ _ z => z
        exact app_ok (X := blkX X s3 H3 scope ce fp xe) I10 hD10 hz10 r10 fun s11 I11 => fin I11 nx
  exact codeAny_compStart_list loop (T.self X.A 0 _ _ _ st4 loop)
theorem pe_lcX {W : WX} {elt tg iter : Expr} {scope : Scope} {own : List (Str × Nat)} {pos : Pos} {wi : TI} {g : TG} {te : XK → TE} (hc : X.calm = true) (hN : X.N.Nodup) (hst : X.stack = X.env :: X.outer) (hf : X.env.frame = some X.env.locals) (tk : Takes X W) (hi : PI X tg iter wi) (ok : BlkOk X.N X.env.scope scope own)
    (hg : ∀ (s : Shared) (H : Hp) (C : Addr) (cl : List (Str × Addr)) (fp : List Addr) (xe : Value → Shared → Prop), PG (blkX X s H scope (compEnvC scope cl C X.env) fp xe) tg g)
    (he : ∀ (WB : XK) (s : Shared) (H : Hp) (C : Addr) (cl : List (Str × Addr)) (fp : List Addr) (xe : Value → Shared → Prop), (∀ σ2, PassesAt (L2.CX X.prog X.w) (blkX X s H scope (compEnvC scope cl C X.env) fp xe) σ2 WB) → PE (blkX X s H scope (compEnvC scope cl C X.env) fp xe) elt (te WB)) (hs : ∀ x, foldedSetIterable iter X.env x = pure x := by intro _; rfl) :
    PE X (.ListComp elt [⟨tg, iter, [], 0⟩] scope pos) (fun σ H Q => tLc wi g tYes (te fun cls d H' => W cls d σ H') (own.map (·.2)) σ H Q) := by
  refine ⟨fun pins s σ H Q I h => ?_⟩
  rw [eval_ListComp]
  exact lcX_core hc hN hst hf tk I hi ok hg he hs h
end
/-! ### the reading -/
def zLcX (nb : Bool) (zi : ZI) (g : ZG) (te : ZW → ZE) (vs : List Nat) (zE : ZW) : ZE := fun r M Q => zi r M fun ds c M1 => zLcL c (zLcS g zYes (te fun c fs _ M' => zE c fs r M') (zwipe r vs)) (fun acc M2 => zNew nb acc M2 Q) ds [] M1
def teX (K : PySem.W.Frag) (mg : Str → Option Value) (te : ZW → ZE) (WB : XK) : TE := fun s H Q => ∃ F1 zE', Wok K mg F1 (fun cls d _ H => WB cls d H) zE' ∧ upE K mg F1 (te zE') s H Q
section
variable {X : Cx} {F0 : Fz} {tg elt iter : Expr} {scope : Scope} {own : List (Str × Nat)} {pos : Pos} {zi : ZI} {g : TG} {zg : ZG} {te : ZW → ZE} {W : WX} {zE : ZW}
theorem yesT {P Q : Prop} (h : P) : if true = true then P else Q := by rw [if_pos rfl]; exact h
theorem lcX_low (nb : Bool) (wk : Wok X.K X.mg F0 W zE) (ok : TgOk X.K X.mg g zg (own.map (·.2))) {s : L2.St} {H : Hp} {Q : VK} (h : UE X F0 (zLcX nb zi zg te (own.map (·.2)) zE) s H Q) : tLc (upI X.K X.mg F0 zi) g tYes (teX X.K X.mg te fun cls d H' => W cls d s H') (own.map (·.2)) s H Q := by
  obtain ⟨F, rr, M, R, s0, w, e, h, k⟩ := h
  generalize own.map (·.2) = vs at *
  refine ⟨F, rr, M, _, s0, w, e, h, fun ds c M1 h1 F1 H1 J s1 w1 itz hlen Da hD => ?_⟩
  obtain ⟨_, _, u0⟩ := w1.free hD
  have e1 := e.mono s1
  refine ⟨fun i m H => i + m = ds.length ∧ ∃ (Fi : Fz) (Mi : Mh) (acc : List D) (xs : List V), Same F1.f Fi.f ∧ Fi.u = upd F1.u Da (.lst xs) ∧ Wd X.K X.mg Fi H Mi ∧ RepL X.K X.mg Fi xs acc ∧ acc.length ≤ i ∧
      zLcL c (zLcS zg zYes (te fun c fs _ M' => zE c fs rr M') (zwipe rr vs)) (fun acc M2 => zNew nb acc M2 R) (ds.drop i) acc Mi, ⟨ds.length, by omega, ⟨F1.f, upd F1.u Da (.lst [])⟩, M1, [], [], Same.refl _, rfl, w1.hide hD, .nil, Nat.le_refl _, h1⟩, ?_⟩
  rintro i m H2 ⟨hm, Fi, Mi, acc, xs, sf, eu, wi, ra, la, hl⟩
  have uD : Fi.u Da = some (.lst xs) := by rw [eu]; exact upd_same
  have su : Same F1.u Fi.u := by rw [eu]; exact same_upd u0
  cases hd : ds[i]? with
  | none =>
    have hi : i = ds.length := by
      have := List.getElem?_eq_none_iff.mp hd
      omega
    rw [hi, List.drop_length] at hl
    obtain ⟨ck, hn⟩ := zck_out hl
    refine .inl ⟨by rw [hi]; exact (itz Fi H2 Mi sf wi ck).2, ?_⟩
    have lx : xs.length ≤ sizeLine := by rw [ra.length]; omega
    cases nb with
    | false =>
      have w3 := wi.unhideF uD su u0
      refine k _ _ hn ⟨upd Fi.f Da (.lst xs), F1.u⟩ _ _ (s1.trans ⟨?_, rfl⟩) w3 (.lst upd_same lx (ra.monoF ?_))
      · exact sf.trans (same_upd (wi.un Da _ uD).2.1)
      · exact same_upd (wi.un Da _ uD).2.1
    | true =>
      have m0 := (wi.un Da _ uD).2.2
      exact k _ _ (hn Da m0) ⟨Fi.f, F1.u⟩ _ _ (s1.trans ⟨sf, rfl⟩) (wi.unhideM uD lx ra su u0) (.ref Da)
  | some d =>
    have hlt := (List.getElem?_eq_some_iff.mp hd).1
    rw [drop_some hd] at hl
    obtain ⟨ck, hn⟩ := zck_out hl
    obtain ⟨go, yl⟩ := (itz Fi H2 Mi sf wi ck).1 i d hd
    refine .inr ⟨go, _, fun H' hN => ⟨ds.length - (i + 1), by omega, by omega, hN⟩, fun x H3 hy => ?_⟩
    obtain ⟨F3, s3, w3, rx⟩ := yl x H3 hy
    have e3 : RepE X.K X.mg F3 (wipe s vs) (zwipe rr vs) := by
      have q := e1.wipe vs
      exact ⟨q.1, fun j d' z => let ⟨v, a, b⟩ := q.2 j d' z; ⟨v, a, b.monoF (sf.trans s3.f)⟩⟩
    have g3 : Ge F0 F3 := ⟨(s0.trans s1).f.trans (sf.trans s3.f), by rw [s3.u]; exact (s0.trans s1).u.trans su⟩
    have u3 : F3.u = upd F1.u Da (.lst xs) := s3.u.trans eu
    refine ok F3 H3 Mi x d _ _ _ _ w3 rx e3 hn fun r4 s4 h4 e4 hw => ⟨hw.trans wipe_wipe, ?_⟩
    refine yesT (Q := True) ?_
    refine ⟨F3, fun c fs _ M' => zE c fs rr M', fun c fs r' M' hz F' s' H' cls d gg w' e' rx' => ?_, F3, r4, Mi, _, Ge.refl _, w3, e4, h4, fun y M6 h6 F6 H6 yv s6 w6 r6 => ?_⟩
    · refine wk c fs rr M' hz F' s H' cls d ⟨g3.f.trans gg.f, g3.u.trans gg.u⟩ w' ⟨e1.1, fun j d' z => ?_⟩ rx'
      obtain ⟨v, a, b⟩ := e1.2 j d' z
      exact ⟨v, a, b.monoF ((sf.trans s3.f).trans gg.f)⟩
    · have u6 : F6.u = upd F1.u Da (.lst xs) := s6.u.trans u3
      have uD6 : F6.u Da = some (.lst xs) := by rw [u6]; exact upd_same
      refine ⟨xs, (w6.un Da _ uD6).1, by rw [ra.length]; omega, ⟨F6.f, upd F6.u Da (.lst (xs ++ [yv]))⟩, M6, acc ++ [y], xs ++ [yv], (sf.trans s3.f).trans s6.f, by rw [u6, upd_upd], w6.rehide uD6, ?_, by rw [List.length_append]; show acc.length + 1 ≤ i + 1; omega, h6⟩
      exact ((ra.monoF (F' := F6) (s3.trans s6).f).append (.cons r6 .nil)).monoF (F := F6) (F' := ⟨F6.f, upd F6.u Da (.lst (xs ++ [yv]))⟩) (Same.refl _)
theorem ze_lcX (nb : Bool) (hc : X.calm = true) (hN : X.N.Nodup) (hst : X.stack = X.env :: X.outer) (hf : X.env.frame = some X.env.locals) (tk : Takes X W) (wk : Wok X.K X.mg F0 W zE) (hi : PI X tg iter (upI X.K X.mg F0 zi)) (ok : BlkOk X.N X.env.scope scope own) (okg : TgOk X.K X.mg g zg (own.map (·.2)))
    (hg : ∀ (s : Shared) (H : Hp) (C : Addr) (cl : List (Str × Addr)) (fp : List Addr) (xe : Value → Shared → Prop), PG (blkX X s H scope (compEnvC scope cl C X.env) fp xe) tg g)
    (he : ∀ (s : Shared) (H : Hp) (C : Addr) (cl : List (Str × Addr)) (fp : List Addr) (xe : Value → Shared → Prop) (WB : XK) (F1 : Fz) (zE' : ZW), (∀ σ2, PassesAt (L2.CX X.prog X.w) (blkX X s H scope (compEnvC scope cl C X.env) fp xe) σ2 WB) → Wok X.K X.mg F1 (fun cls d _ H => WB cls d H) zE' → PE (blkX X s H scope (compEnvC scope cl C X.env) fp xe) elt (upE X.K X.mg F1 (te zE')))
    (hs : ∀ x, foldedSetIterable iter X.env x = pure x := by intro _; rfl) : PE X (.ListComp elt [⟨tg, iter, [], 0⟩] scope pos) (UE X F0 (zLcX nb zi zg te (own.map (·.2)) zE)) :=
  pe_imp (pe_lcX (te := teX X.K X.mg te) hc hN hst hf tk hi ok hg (fun WB s H C cl fp xe hx => ⟨fun pins s' r H' Q I ⟨F1, zE', w, q⟩ => (he s H C cl fp xe WB F1 zE' hx w).run pins s' r H' Q I q⟩) hs) fun s H Q h => lcX_low nb wk okg h
/-- a call whose exceptions pass by hx -/
theorem ze_callP {f : Addr} {fd : FuncData} {ps : List Str} {k : Nat} {zs : ZSp} {x : Str} {a : Expr} {es : List Expr} {t : ZA} {p pos : Pos} {WB : XK} (FO : FnOk X.prog X.w X.K X.mg X.base (L2.CX X.prog X.w) k f fd ps (liftSp X.K X.mg zs)) (hr : Room k X.A) (hm : X.mg x = some (.ref f))
    (hk : PySem.W.keepIn X.K (.ref f) = true) (hb : Binds X.K fd ps []) (hx : ∀ σ2, PassesAt (L2.CX X.prog X.w) X σ2 WB) (wk : Wok X.K X.mg F0 (fun cls d _ H => WB cls d H) zE) (ha : PA X (a :: es) (UA X F0 t)) (hg : Gl X x := by rfl) (hdb : (x == ("__debug__" : Str)) = false := by decide)
    (he : starEach (a :: es) X.env = (false, eval a X.env) :: starEach es X.env := by rfl) (hpl : (backTo pos (starEach es X.env)).any (·.1) = false := by rfl) : PE X (.Call (.Name x p) (a :: es) [] pos) (UE X F0 (zCall zs zE t)) :=
  pe_imp (pe_callS (E := fun _ => WB) FO hr hg hm hk hb hx ha hdb he hpl) fun s H Q h => by
  obtain ⟨F, rr, M, R, s0, w, e, h, k⟩ := h
  refine ⟨F, rr, M, _, s0, w, e, h, fun ds M1 h1 F1 H1 vs s1 w1 r1 => ⟨F1, M1, ds, R, _, w1, r1, h1, k.mono s1, fun c fs M' hx F' H' cls d s2 w2 rx => ?_⟩⟩
  exact wk c fs rr M' hx F' s H' cls d (s0.trans (s1.trans s2)) w2 (e.mono (s1.trans s2)) rx
end
theorem i_lcX {nb : Bool} {zi : ZI} {g : ZG} {te : ZW → ZE} {vs : List Nat} {zE : ZW} {r : Env} {M : Mh} {Q : QZ} (h : zi r M fun ds c M1 => zLcL c (zLcS g zYes (te fun c fs _ M' => zE c fs r M') (zwipe r vs)) (fun acc M2 => zNew nb acc M2 Q) ds [] M1) : zLcX nb zi g te vs zE r M Q := h
end Zl

namespace Zp
open PySem L2 Zl
def tH : List Int := [187, 189, 219, 221, 222, 235, 237, 238, 243, 245, 246, 315, 317, 347, 349, 350, 363, 365, 366, 371, 373, 374, 377, 378, 411, 413, 414, 427, 429, 430, 435, 437, 438, 441, 442, 444, 459, 461, 462, 467, 469, 470, 473, 474, 476, 483, 485, 486, 489, 490, 492, 571, 573, 603, 605, 606, 619, 621, 622, 627, 629, 630, 633, 634, 667, 669, 670, 683, 685, 686, 691, 693, 694, 697, 698, 700, 715, 717, 718, 723, 725, 726, 729, 730, 732, 739, 741, 742, 745, 746, 748, 753, 754, 756, 795, 797, 798, 811, 813, 814, 819, 821, 822, 825, 826, 828, 843, 845, 846, 851, 853, 854, 857, 858, 860, 867, 869, 870, 873, 874, 876, 881, 882, 884]
def tE : List Int := [155, 157, 158, 171, 173, 174, 179, 181, 182, 185, 186, 188, 203, 205, 206, 211, 213, 214, 217, 218, 220, 227, 229, 230, 233, 234, 236, 241, 242, 244, 283, 285, 286, 299, 301, 302, 307, 309, 310, 313, 314, 316, 331, 333, 334, 339, 341, 342, 345, 346, 348, 355, 357, 358, 361, 362, 364, 369, 370, 372, 395, 397, 398, 403, 405, 406, 409, 410, 412, 419, 421, 422, 425, 426, 428, 433, 434, 436, 451, 453, 454, 457, 458, 460, 465, 466, 468, 481, 482, 484, 539, 541, 542, 555, 557, 558, 563, 565, 566, 569, 570, 572, 587, 589, 590, 595, 597, 598, 601, 602, 604, 611, 613, 614, 617, 618, 620, 625, 626, 628, 651, 653, 654, 659, 661, 662, 665, 666, 668, 675, 677, 678, 681, 682, 684, 689, 690, 692, 707, 709, 710, 713, 714, 716, 721, 722, 724, 737, 738, 740, 779, 781, 782, 787, 789, 790, 793, 794, 796, 803, 805, 806, 809, 810, 812, 817, 818, 820, 835, 837, 838, 841, 842, 844, 849, 850, 852, 865, 866, 868]
def c_raised : List Str := ["BadBits", "BadItem", "BadText"]
def tab_Against : List (Str × Bool) := [("BadBits", false), ("BadItem", false), ("BadText", false)]
def tab_BadBits : List (Str × Bool) := [("BadBits", true), ("BadItem", false), ("BadText", false)]
def tab_BadItem : List (Str × Bool) := [("BadBits", false), ("BadItem", true), ("BadText", false)]
def tab_BadLane : List (Str × Bool) := [("BadBits", false), ("BadItem", false), ("BadText", false)]
def tab_BadPoise : List (Str × Bool) := [("BadBits", false), ("BadItem", false), ("BadText", false)]
def tab_BadPool : List (Str × Bool) := [("BadBits", false), ("BadItem", false), ("BadText", false)]
def tab_BadRow : List (Str × Bool) := [("BadBits", false), ("BadItem", false), ("BadText", false)]
def tab_BadText : List (Str × Bool) := [("BadBits", false), ("BadItem", false), ("BadText", true)]
def tab_BadWord : List (Str × Bool) := [("BadBits", false), ("BadItem", false), ("BadText", false)]
def tab_Dry : List (Str × Bool) := [("BadBits", false), ("BadItem", false), ("BadText", false)]
def tab_LineError : List (Str × Bool) := [("BadBits", true), ("BadItem", true), ("BadText", true)]
def tab_Over : List (Str × Bool) := [("BadBits", false), ("BadItem", false), ("BadText", false)]
def tab_ValueError : List (Str × Bool) := [("BadBits", true), ("BadItem", true), ("BadText", true)]
def n_CONTROLS : List Str := ["end", "rest", "skip"]
def c_CONTROLS : List D := n_CONTROLS.map D.str
def zb_is_whole (zE : ZW) : ZS := (zRet (zAndV (z1 (dIsi "int") (zVar 0)) (zAndV (zNotV (z1 (dIsi "bool") (zVar 0))) (zChain (dCmp pLe) (dCmp pLe) (zVar 1) (zVar 0) (zVar 2)))))
def z_is_whole : ZSp := fun ds M Q E => match ds with
  | [a0, a1, a2] => zFn false zb_is_whole [some a0, some a1, some a2] M Q E
  | _ => False
def zb_look_bits (zE : ZW) : ZS := (zIf (zOr (zNot (zB (z1 (dIsi "list") (zVar 0)))) (zNot (zB (zCB dAll (zCons (zLc false (ziList (zVar 0)) (zgName 1) zYes (zCall z_is_whole zNoX (zCons (zVar 1) (zCons (zC (.int 0)) (zCons (zC (.int 1)) zNil)))) [1]) zNil))))) (zRaise zE "BadBits")
  zNext)
def z_look_bits : ZSp := fun ds M Q E => match ds with
  | [a0] => zFn false zb_look_bits [some a0, none] M Q E
  | _ => False
def zb_is_item (zE : ZW) : ZS := (zSeq (zIf (zB (z1 (dIsi "str") (zVar 0))) (zRet (zOrV (z2 dEq (zVar 0) (zC (.str "begin"))) (z2 (dIn false) (zVar 0) (zC (.tup c_CONTROLS)))))
  zNext)
  (zRet (zCall z_is_whole zE (zCons (zVar 0) (zCons (zC (.int 0)) (zCons (zC (.int 255)) zNil))))))
def z_is_item : ZSp := fun ds M Q E => match ds with
  | [a0] => zFn false zb_is_item [some a0] M Q E
  | _ => False
def zb_look_items (zE : ZW) : ZS := (zIf (zOr (zNot (zB (z1 (dIsi "list") (zVar 0)))) (zNot (zB (zCB dAll (zCons (zLc false (ziList (zVar 0)) (zgName 1) zYes (zCall z_is_item zNoX (zCons (zVar 1) zNil)) [1]) zNil))))) (zRaise zE "BadItem")
  zNext)
def z_look_items : ZSp := fun ds M Q E => match ds with
  | [a0] => zFn false zb_look_items [some a0, none] M Q E
  | _ => False
def zb_items_text (zE : ZW) : ZS := (zSeq (zDrop (zCall z_look_items zE (zCons (zVar 0) zNil)))
  (zRet (zM "str" dJoin (zC (.str " ")) (zCons (zLc false (ziList (zVar 0)) (zgName 1) zYes (zCB dStr (zCons (zVar 1) zNil)) [1]) zNil))))
def z_items_text : ZSp := fun ds M Q E => match ds with
  | [a0] => zFn false zb_items_text [some a0, none] M Q E
  | _ => False
def zb_word_item (zE : ZW) : ZS := (zSeq (zIf (zOr (zB (z2 dEq (zVar 0) (zC (.str "begin")))) (zB (z2 (dIn false) (zVar 0) (zC (.tup c_CONTROLS))))) (zRet (zVar 0))
  zNext)
  (zSeq (zAsg (zAndV (zChain (dCmp pLe) (dCmp pLe) (zC (.int 1)) (zCB dLen (zCons (zVar 0) zNil)) (zC (.int 3))) (zCB dAll (zCons (zLc false (ziStr (zVar 0)) (zgName 2) zYes (z2 (dIn false) (zVar 2) (zC (.str "0123456789"))) [2]) zNil))) (zgName 1))
  (zSeq (zIf (zOr (zNot (zB (zVar 1))) (zOr (zB (z2 dNe (zCB dStr (zCons (zCB dInt (zCons (zVar 0) zNil)) zNil)) (zVar 0))) (zB (z2 (dCmp pGt) (zCB dInt (zCons (zVar 0) zNil)) (zC (.int 255)))))) (zRaise zE "BadText")
  zNext)
  (zRet (zCB dInt (zCons (zVar 0) zNil))))))
def z_word_item : ZSp := fun ds M Q E => match ds with
  | [a0] => zFn false zb_word_item [some a0, none, none] M Q E
  | _ => False
def zb_items_read (zE : ZW) : ZS := (zSeq (zIf (zNot (zB (z1 (dIsi "str") (zVar 0)))) (zRaise zE "BadText")
  zNext)
  (zRet (zIfE (zB (z2 dEq (zVar 0) (zC (.str "")))) (zLst true zNil) (zLcX true (ziList (zM "str" (dSplit false) (zVar 0) (zCons (zC (.str " ")) zNil))) (zgName 1) (fun zE => (zCall z_word_item zE (zCons (zVar 1) zNil))) [1] zE))))
def z_items_read : ZSp := fun ds M Q E => match ds with
  | [a0] => zFn true zb_items_read [some a0, none] M Q E
  | _ => False
def zb_bits_text (zE : ZW) : ZS := (zSeq (zDrop (zCall z_look_bits zE (zCons (zVar 0) zNil)))
  (zSeq (zAsg (zLst true zNil) (zgName 1))
  (zSeq (zFor (ziRange3 (zCons (zC (.int 0)) (zCons (zCB dLen (zCons (zVar 0) zNil)) (zCons (zC (.int 10)) zNil)))) (zgName 2) (zDrop (zM "list" dApp (zVar 1) (zCons (zM "str" dJoin (zC (.str "")) (zCons (zLc false (ziList (zSl false (zVar 0) (zPart (zVar 2)) (zPart (z2 (dAdd false) (zVar 2) (zC (.int 10)))))) (zgName 3) zYes (zCB dStr (zCons (zVar 3) zNil)) [3]) zNil)) zNil))))
  (zRet (zM "str" dJoin (zC (.str " ")) (zCons (zVar 1) zNil))))))
def z_bits_text : ZSp := fun ds M Q E => match ds with
  | [a0] => zFn true zb_bits_text [some a0, none, none, none] M Q E
  | _ => False
def zb_bits_read (zE : ZW) : ZS := (zSeq (zIf (zNot (zB (z1 (dIsi "str") (zVar 0)))) (zRaise zE "BadText")
  zNext)
  (zSeq (zAsg (zIfE (zB (z2 dEq (zVar 0) (zC (.str "")))) (zLst false zNil) (zM "str" (dSplit false) (zVar 0) (zCons (zC (.str " ")) zNil))) (zgName 1))
  (zSeq (zAsg (zLst true zNil) (zgName 2))
  (zSeq (zFor (ziEnum (zCons (zVar 1) zNil)) (zgTup 2 (zgCons (zgName 3) (zgCons (zgName 4) zgNil))) (zSeq (zAsg (zOrV (z2 dEq (zCB dLen (zCons (zVar 4) zNil)) (zC (.int 10))) (zAndV (z2 dEq (zVar 3) (z2 dSub (zCB dLen (zCons (zVar 1) zNil)) (zC (.int 1)))) (zChain (dCmp pLt) (dCmp pLt) (zC (.int 0)) (zCB dLen (zCons (zVar 4) zNil)) (zC (.int 10))))) (zgName 5))
  (zSeq (zIf (zOr (zNot (zB (zVar 5))) (zNot (zB (zCB dAll (zCons (zLc false (ziStr (zVar 4)) (zgName 6) zYes (z2 (dIn false) (zVar 6) (zC (.str "01"))) [6]) zNil))))) (zRaise zE "BadText")
  zNext)
  (zDrop (zM "list" dExt (zVar 2) (zCons (zLc false (ziStr (zVar 4)) (zgName 6) zYes (zCB dInt (zCons (zVar 6) zNil)) [6]) zNil))))))
  (zRet (zVar 2))))))
def z_bits_read : ZSp := fun ds M Q E => match ds with
  | [a0] => zFn true zb_bits_read [some a0, none, none, none, none, none, none] M Q E
  | _ => False
def z__law_town : ZSp := fun ds M Q _ => match ds with
  | [.scr _] => (∀ t, M t ≠ some .town) ∧ ∀ t, M t = none → Q (.ref t) (mup M t .town)
  | _ => False
def zb__law_draw (zE : ZW) : ZS := (zSeq (zAsg (z2 dIx (zVar 0) (zC (.int 0))) (zgName 2))
  (zSeq (zAsg (z2 (dAdd false) (z2 dIx (zVar 0) (zC (.int 1))) (zC (.int 1))) (zgSub (zVar 0) (zC (.int 1))))
  (zSeq (zAsg (z2 dMod (z2 dIx (zVar 0) (zC (.int 1))) (zCB dLen (zCons (zVar 2) zNil))) (zgName 3))
  (zSeq (zAsg (z2 dIx (zVar 2) (zVar 3)) (zgName 4))
  (zSeq (zIf (zB (z2 (dCmp pGe) (zVar 4) (zC (.int 1000000000000000000)))) (zSeq (zAsg (z2 dDiv (zVar 4) (zVar 1)) (zgSub (zVar 2) (zVar 3)))
  (zRet (z2 dMod (zVar 4) (zVar 1))))
  zNext)
  (zSeq (zAsg (z2 dMod (z2 (dAdd false) (zVar 4) (z2 (dMul false) (zC (.int 104729)) (z2 dIx (zVar 0) (zC (.int 1))))) (zC (.int 4294967291))) (zgName 5))
  (zSeq (zAsg (z2 dMod (z2 dPow (zVar 5) (zC (.int 5))) (zC (.int 4294967279))) (zgName 5))
  (zRet (z2 dMod (z2 dDiv (z2 dMod (z2 (dAdd false) (z2 (dMul false) (z2 dDiv (zVar 5) (zC (.int 64))) (zC (.int 69621))) (zVar 5)) (zC (.int 4294967231))) (zC (.int 8))) (zVar 1))))))))))
def z0__law_draw : ZSp := fun ds M Q E => match ds with
  | [a0, a1] => zFn true zb__law_draw [some a0, some a1, none, none, none, none] M Q E
  | _ => False
def z__law_draw : ZSp := fun ds M Q _ => match ds with
  | [.ref t, .int n] => M t = some .town ∧ 0 < n ∧ n < 1073741824 ∧ ∀ k, 0 ≤ k → k < n → Q (.int k) M
  | _ => False
def zb__law_pick (zE : ZW) : ZS := (zRet (z2 dIx (zVar 1) (zCall z__law_draw zE (zCons (zVar 0) (zCons (zCB dLen (zCons (zVar 1) zNil)) zNil)))))
def z__law_pick : ZSp := fun ds M Q E => match ds with
  | [a0, a1] => zFn false zb__law_pick [some a0, some a1] M Q E
  | _ => False
def zb__law_refusal (zE : ZW) : ZS := (zSeq (zAsg (zLst false (zCons (z1 (dIsx tab_BadBits) (zVar 0)) (zCons (z1 (dIsx tab_BadWord) (zVar 0)) (zCons (z1 (dIsx tab_BadItem) (zVar 0)) zNil)))) (zgName 1))
  (zSeq (zAsg (z2 (dAdd false) (zVar 1) (zLst false (zCons (z1 (dIsx tab_BadPoise) (zVar 0)) (zCons (z1 (dIsx tab_Against) (zVar 0)) (zCons (z1 (dIsx tab_BadRow) (zVar 0)) zNil))))) (zgName 1))
  (zSeq (zAsg (z2 (dAdd false) (zVar 1) (zLst false (zCons (z1 (dIsx tab_BadLane) (zVar 0)) (zCons (z1 (dIsx tab_BadPool) (zVar 0)) (zCons (z1 (dIsx tab_Over) (zVar 0)) zNil))))) (zgName 1))
  (zSeq (zAsg (z2 (dAdd false) (zVar 1) (zLst false (zCons (z1 (dIsx tab_Dry) (zVar 0)) (zCons (z1 (dIsx tab_BadText) (zVar 0)) zNil)))) (zgName 1))
  (zSeq (zIf (zOr (zB (z2 dNe (zM "list" dCount (zVar 1) (zCons (zC (.bl true)) zNil)) (zC (.int 1)))) (zOr (zNot (zB (z1 (dIsx tab_LineError) (zVar 0)))) (zNot (zB (z1 (dIsx tab_ValueError) (zVar 0)))))) (zRet (zC (.str "wrong")))
  zNext)
  (zSeq (zAsg (zLst false (zCons (zC (.str "bits")) (zCons (zC (.str "word")) (zCons (zC (.str "item")) (zCons (zC (.str "poise")) (zCons (zC (.str "against")) (zCons (zC (.str "row")) (zCons (zC (.str "lane")) (zCons (zC (.str "pool")) (zCons (zC (.str "over")) (zCons (zC (.str "dry")) (zCons (zC (.str "text")) zNil)))))))))))) (zgName 2))
  (zRet (z2 dIx (zVar 2) (zM "list" dIndex (zVar 1) (zCons (zC (.bl true)) zNil))))))))))
def z__law_refusal : ZSp := fun ds M Q E => match ds with
  | [a0] => zFn false zb__law_refusal [some a0, none, none] M Q E
  | _ => False
def zb__law_ten (zE : ZW) : ZS := (zRet (zLc false (ziList (zLst false (zCons (zC (.int 512)) (zCons (zC (.int 256)) (zCons (zC (.int 128)) (zCons (zC (.int 64)) (zCons (zC (.int 32)) (zCons (zC (.int 16)) (zCons (zC (.int 8)) (zCons (zC (.int 4)) (zCons (zC (.int 2)) (zCons (zC (.int 1)) zNil)))))))))))) (zgName 1) zYes (z2 dMod (z2 dDiv (zVar 0) (zVar 1)) (zC (.int 2))) [1]))
def z__law_ten : ZSp := fun ds M Q E => match ds with
  | [a0] => zFn false zb__law_ten [some a0, none] M Q E
  | _ => False
def zb__law_some_bits (zE : ZW) : ZS := (zSeq (zAsg (zLst false zNil) (zgName 2))
  (zSeq (zAsg (zCall z__law_draw zE (zCons (zVar 0) (zCons (z2 (dAdd false) (zVar 1) (zC (.int 1))) zNil))) (zgName 3))
  (zSeq (zWhile (zB (z2 (dCmp pLt) (zCB dLen (zCons (zVar 2) zNil)) (zVar 3))) (zSeq (zAsg (zCall z__law_draw zE (zCons (zVar 0) (zCons (zC (.int 5)) zNil))) (zgName 4))
  (zIf (zB (z2 dEq (zVar 4) (zC (.int 0)))) (zAsg (z2 (dAdd false) (zVar 2) (zCall z__law_pick zE (zCons (zVar 0) (zCons (zLst false (zCons (zLst false (zCons (zC (.int 0)) (zCons (zC (.int 0)) (zCons (zC (.int 1)) (zCons (zC (.int 1)) (zCons (zC (.int 1)) (zCons (zC (.int 1)) (zCons (zC (.int 1)) zNil)))))))) (zCons (zLst false (zCons (zC (.int 1)) (zCons (zC (.int 1)) (zCons (zC (.int 0)) (zCons (zC (.int 0)) (zCons (zC (.int 0)) (zCons (zC (.int 0)) (zCons (zC (.int 0)) zNil)))))))) zNil))) zNil)))) (zgName 2))
  (zIf (zB (z2 dEq (zVar 4) (zC (.int 1)))) (zAsg (z2 (dAdd false) (zVar 2) (z2 (dMul false) (zLst false (zCons (zCall z__law_draw zE (zCons (zVar 0) (zCons (zC (.int 2)) zNil))) zNil)) (z2 (dAdd false) (zC (.int 1)) (zCall z__law_draw zE (zCons (zVar 0) (zCons (zC (.int 7)) zNil)))))) (zgName 2))
  (zIf (zB (z2 dEq (zVar 4) (zC (.int 2)))) (zAsg (z2 (dAdd false) (zVar 2) (zCall z__law_ten zE (zCons (zCall z__law_pick zE (zCons (zVar 0) (zCons (zLst false (zCons (zC (.int 250)) (zCons (zC (.int 773)) (zCons (zC (.int 250)) (zCons (zC (.int 773)) (zCons (zC (.int 715)) (zCons (zC (.int 308)) zNil))))))) zNil))) zNil))) (zgName 2))
  (zAsg (z2 (dAdd false) (zVar 2) (zSl false (zCall z__law_ten zE (zCons (zCall z__law_draw zE (zCons (zVar 0) (zCons (zC (.int 1024)) zNil))) zNil)) (zPart (zCall z__law_draw zE (zCons (zVar 0) (zCons (zC (.int 10)) zNil)))) zNoPart)) (zgName 2)))))))
  (zRet (zSl false (zVar 2) zNoPart (zPart (zVar 3)))))))
def z__law_some_bits : ZSp := fun ds M Q E => match ds with
  | [a0, a1] => zFn false zb__law_some_bits [some a0, some a1, none, none, none] M Q E
  | _ => False
def zb__law_byte (zE : ZW) : ZS := (zSeq (zAsg (zCall z__law_draw zE (zCons (zVar 0) (zCons (zC (.int 6)) zNil))) (zgName 1))
  (zSeq (zIf (zB (z2 dEq (zVar 1) (zC (.int 0)))) (zRet (zCall z__law_pick zE (zCons (zVar 0) (zCons (zLst false (zCons (zC (.int 0)) (zCons (zC (.int 1)) (zCons (zC (.int 178)) (zCons (zC (.int 179)) (zCons (zC (.int 180)) (zCons (zC (.int 181)) (zCons (zC (.int 254)) (zCons (zC (.int 255)) zNil))))))))) zNil))))
  zNext)
  (zRet (zIfE (zB (z2 (dCmp pLt) (zVar 1) (zC (.int 3)))) (z2 (dAdd false) (zC (.int 180)) (zCall z__law_draw zE (zCons (zVar 0) (zCons (zC (.int 76)) zNil)))) (zCall z__law_draw zE (zCons (zVar 0) (zCons (zC (.int 180)) zNil)))))))
def z__law_byte : ZSp := fun ds M Q E => match ds with
  | [a0] => zFn false zb__law_byte [some a0, none] M Q E
  | _ => False
def zb__law_item (zE : ZW) : ZS := (zSeq (zIf (zB (z2 dEq (zCall z__law_draw zE (zCons (zVar 0) (zCons (zC (.int 4)) zNil))) (zC (.int 0)))) (zRet (zCall z__law_pick zE (zCons (zVar 0) (zCons (zLst false (zCons (zC (.str "begin")) (zCons (zC (.str "end")) (zCons (zC (.str "rest")) (zCons (zC (.str "skip")) zNil))))) zNil))))
  zNext)
  (zRet (zCall z__law_byte zE (zCons (zVar 0) zNil))))
def z__law_item : ZSp := fun ds M Q E => match ds with
  | [a0] => zFn false zb__law_item [some a0] M Q E
  | _ => False
def zb__law_items (zE : ZW) : ZS := (zRet (zLc false (ziRange (zCons (zCall z__law_draw zE (zCons (zVar 0) (zCons (z2 (dAdd false) (zVar 1) (zC (.int 1))) zNil))) zNil)) (zgName 2) zYes (zCall z__law_item zNoX (zCons (zVar 0) zNil)) [2]))
def z__law_items : ZSp := fun ds M Q E => match ds with
  | [a0, a1] => zFn false zb__law_items [some a0, some a1, none] M Q E
  | _ => False
def zb__law_asked (zE : ZW) : ZS := (zSeq (zAsg (zC .non) (zgName 2))
  (zSeq (zAsg (zC .non) (zgName 3))
  (zSeq (zTry c_raised 4 2 (fun zE => (zIf (zB (z2 dEq (zVar 0) (zC (.int 0)))) (zAsg (zCall z_items_read zE (zCons (zVar 1) zNil)) (zgName 3))
  (zIf (zB (z2 dEq (zVar 0) (zC (.int 1)))) (zAsg (zCall z_bits_read zE (zCons (zVar 1) zNil)) (zgName 3))
  (zIf (zB (z2 dEq (zVar 0) (zC (.int 2)))) (zAsg (zCall z_items_text zE (zCons (zVar 1) zNil)) (zgName 3))
  (zAsg (zCall z_bits_text zE (zCons (zVar 1) zNil)) (zgName 3)))))))
  (zRet (zIfE (zB (z2 dIs (zVar 2) (zC .non))) (zVar 3) (zCall z__law_refusal zE (zCons (zVar 2) zNil)))))))
def z__law_asked : ZSp := fun ds M Q E => match ds with
  | [a0, a1] => zFn false zb__law_asked [some a0, some a1, none, none, none] M Q E
  | _ => False
def zb__law_items_due (zE : ZW) : ZS := (zSeq (zIf (zB (z2 dEq (zVar 0) (zC (.str "")))) (zRet (zLst false zNil))
  zNext)
  (zSeq (zAsg (zLst true zNil) (zgName 1))
  (zSeq (zFor (ziList (zM "str" (dSplit false) (zVar 0) (zCons (zC (.str " ")) zNil))) (zgName 2) (zSeq (zAsg (zLc false (ziRange (zCons (zC (.int 256)) zNil)) (zgName 4) (zB (z2 dEq (zCB dStr (zCons (zVar 4) zNil)) (zVar 2))) (zVar 4) [4]) (zgName 3))
  (zSeq (zAsg (z2 (dAdd false) (zVar 3) (zLc false (ziList (zLst false (zCons (zC (.str "begin")) (zCons (zC (.str "end")) (zCons (zC (.str "rest")) (zCons (zC (.str "skip")) zNil)))))) (zgName 5) (zB (z2 dEq (zVar 5) (zVar 2))) (zVar 5) [5])) (zgName 3))
  (zSeq (zIf (zB (z2 dEq (zVar 3) (zLst false zNil))) (zRet (zC .non))
  zNext)
  (zDrop (zM "list" dApp (zVar 1) (zCons (z2 dIx (zVar 3) (zC (.int 0))) zNil)))))))
  (zRet (zVar 1)))))
def z__law_items_due : ZSp := fun ds M Q E => match ds with
  | [a0] => zFn true zb__law_items_due [some a0, none, none, none, none, none] M Q E
  | _ => False
def zb__law_bits_due (zE : ZW) : ZS := (zSeq (zAsg (zLc false (ziRange (zCons (zCB dLen (zCons (zVar 0) zNil)) zNil)) (zgName 3) (zB (z2 dNe (z2 dIx (zVar 0) (zVar 3)) (zC (.str " ")))) (zVar 3) [3]) (zgName 1))
  (zSeq (zAsg (zLc false (ziRange (zCons (zCB dLen (zCons (zVar 1) zNil)) zNil)) (zgName 3) zYes (z2 (dAdd false) (z2 (dMul false) (zC (.int 11)) (z2 dDiv (zVar 3) (zC (.int 10)))) (z2 dMod (zVar 3) (zC (.int 10)))) [3]) (zgName 2))
  (zSeq (zIf (zOr (zB (z2 dNe (zVar 1) (zVar 2))) (zB (z2 dNe (zCB dLen (zCons (zVar 0) zNil)) (z2 (dAdd false) (z2 dIx (z2 (dAdd false) (zLst false (zCons (z2 dSub (zC (.int 0)) (zC (.int 1))) zNil)) (zVar 2)) (z1 dNeg (zC (.int 1)))) (zC (.int 1)))))) (zRet (zC .non))
  zNext)
  (zSeq (zIf (zB (z2 dNe (zLc false (ziStr (zVar 0)) (zgName 4) (zB (z2 (dIn true) (zVar 4) (zC (.str "01 ")))) (zVar 4) [4]) (zLst false zNil))) (zRet (zC .non))
  zNext)
  (zRet (zLc false (ziList (zVar 1)) (zgName 3) zYes (zIfE (zB (z2 dEq (z2 dIx (zVar 0) (zVar 3)) (zC (.str "1")))) (zC (.int 1)) (zC (.int 0))) [3]))))))
def z__law_bits_due : ZSp := fun ds M Q E => match ds with
  | [a0] => zFn false zb__law_bits_due [some a0, none, none, none, none] M Q E
  | _ => False
def zb__law_spoilt (zE : ZW) : ZS := (zSeq (zAsg (zCall z__law_draw zE (zCons (zVar 0) (zCons (z2 (dAdd false) (zCB dLen (zCons (zVar 1) zNil)) (zC (.int 1))) zNil))) (zgName 2))
  (zSeq (zAsg (zCall z__law_pick zE (zCons (zVar 0) (zCons (zLst false (zCons (zC (.str " ")) (zCons (zC (.str "0")) (zCons (zC (.str "1")) (zCons (zC (.str "9")) (zCons (zC (.str "-")) (zCons (zC (.str "+")) (zCons (zC (.str "_")) (zCons (zC (.str "b")) (zCons (zC (.str "2")) (zCons (zC (.str "  ")) zNil))))))))))) zNil))) (zgName 3))
  (zSeq (zAsg (zLst false (zCons (z2 (dAdd false) (z2 (dAdd false) (zSl false (zVar 1) zNoPart (zPart (zVar 2))) (zVar 3)) (zSl false (zVar 1) (zPart (zVar 2)) zNoPart)) (zCons (z2 (dAdd false) (zSl false (zVar 1) zNoPart (zPart (zVar 2))) (zSl false (zVar 1) (zPart (z2 (dAdd false) (zVar 2) (zC (.int 1)))) zNoPart)) (zCons (zVar 1) zNil)))) (zgName 4))
  (zRet (zCall z__law_pick zE (zCons (zVar 0) (zCons (z2 (dAdd false) (zVar 4) (zLst false (zCons (z2 (dAdd false) (z2 (dAdd false) (zSl false (zVar 1) zNoPart (zPart (zVar 2))) (zVar 3)) (zSl false (zVar 1) (zPart (z2 (dAdd false) (zVar 2) (zC (.int 1)))) zNoPart)) zNil))) zNil)))))))
def z__law_spoilt : ZSp := fun ds M Q E => match ds with
  | [a0, a1] => zFn false zb__law_spoilt [some a0, some a1, none, none, none] M Q E
  | _ => False
def zb_law (zE : ZW) : ZS := (zSeq (zAsg (zCall z__law_town zE (zCons (zVar 0) zNil)) (zgName 1))
  (zSeq (zFor (ziRange (zCons (zC (.int 2)) zNil)) (zgName 2) (zSeq (zAsg (zCall z__law_spoilt zE (zCons (zVar 1) (zCons (zM "str" dJoin (zC (.str " ")) (zCons (zLc false (ziList (zCall z__law_items zE (zCons (zVar 1) (zCons (zC (.int 3)) zNil)))) (zgName 10) zYes (zCB dStr (zCons (zVar 10) zNil)) [10]) zNil)) zNil))) (zgName 3))
  (zSeq (zAsg (zCall z__law_items_due zE (zCons (zVar 3) zNil)) (zgName 4))
  (zSeq (zIf (zB (z2 dNe (zCall z__law_asked zE (zCons (zC (.int 0)) (zCons (zVar 3) zNil))) (zIfE (zB (z2 dIs (zVar 4) (zC .non))) (zC (.str "text")) (zVar 4)))) (zRet (zC (.bl false)))
  zNext)
  (zSeq (zAsg (zCall z__law_some_bits zE (zCons (zVar 1) (zCons (zC (.int 24)) zNil))) (zgName 5))
  (zSeq (zAsg (zM "str" dJoin (zC (.str " ")) (zCons (zLc false (ziRange3 (zCons (zC (.int 0)) (zCons (zCB dLen (zCons (zVar 5) zNil)) (zCons (zC (.int 10)) zNil)))) (zgName 11) zYes (zM "str" dJoin (zC (.str "")) (zCons (zLc false (ziList (zSl false (zVar 5) (zPart (zVar 11)) (zPart (z2 (dAdd false) (zVar 11) (zC (.int 10)))))) (zgName 12) zYes (zCB dStr (zCons (zVar 12) zNil)) [12]) zNil)) [11]) zNil)) (zgName 6))
  (zSeq (zAsg (zCall z__law_spoilt zE (zCons (zVar 1) (zCons (zVar 6) zNil))) (zgName 6))
  (zSeq (zAsg (zCall z__law_bits_due zE (zCons (zVar 6) zNil)) (zgName 4))
  (zIf (zB (z2 dNe (zCall z__law_asked zE (zCons (zC (.int 1)) (zCons (zVar 6) zNil))) (zIfE (zB (z2 dIs (zVar 4) (zC .non))) (zC (.str "text")) (zVar 4)))) (zRet (zC (.bl false)))
  zNext)))))))))
  (zSeq (zAsg (zCall z__law_pick zE (zCons (zVar 1) (zCons (zLst false (zCons (zC (.str "007")) (zCons (zC (.str "256")) (zCons (zC (.str "+5")) (zCons (zC (.str " 5")) (zCons (zC (.str "5 ")) (zCons (zC (.str "Begin")) (zCons (zC (.str "5  6")) (zCons (zC (.str "-0")) (zCons (zC (.str "1_0")) (zCons (zC (.str "00")) zNil))))))))))) zNil))) (zgName 7))
  (zSeq (zIf (zB (z2 dNe (zCall z__law_asked zE (zCons (zC (.int 0)) (zCons (zVar 7) zNil))) (zC (.str "text")))) (zRet (zC (.bl false)))
  zNext)
  (zSeq (zFor (ziList (zLst false (zCons (zC .non) (zCons (zC (.int 5)) (zCons (zLst false (zCons (zC (.str "5")) zNil)) (zCons (zC (.bl true)) (zCons zDct (zCons (zTup (zCons (zC (.int 1)) zNil)) zNil)))))))) (zgName 8) (zSeq (zAsg (zLc false (ziRange (zCons (zC (.int 4)) zNil)) (zgName 13) zYes (zCall z__law_asked zNoX (zCons (zVar 13) (zCons (zVar 8) zNil))) [13]) (zgName 9))
  (zIf (zB (z2 dNe (zVar 9) (zLst false (zCons (zC (.str "text")) (zCons (zC (.str "text")) (zCons (zC (.str "item")) (zCons (zC (.str "bits")) zNil))))))) (zRet (zC (.bl false)))
  zNext)))
  (zRet (zAndV (z2 dEq (zCall z__law_asked zE (zCons (zC (.int 2)) (zCons (zLst false (zCons (zC (.int 5)) (zCons (zC (.int 256)) zNil))) zNil))) (zC (.str "item"))) (z2 dEq (zCall z__law_asked zE (zCons (zC (.int 3)) (zCons (zLst false (zCons (zC (.int 0)) (zCons (zC (.int 2)) zNil))) zNil))) (zC (.str "bits"))))))))))
def z_law : ZSp := fun ds M Q E => match ds with
  | [a0] => zFn false zb_law [some a0, none, none, none, none, none, none, none, none, none, none, none, none, none] M Q E
  | _ => False
local macro_rules | `(tactic| walk_at "zs") => `(tactic| first | (with_reducible apply i_seq) | (with_reducible apply i_2) | (with_reducible apply i_1) | (with_reducible apply i_c) | (with_reducible apply i_asg) | (with_reducible apply i_cons) | (with_reducible apply i_nil) | (with_reducible apply i_if) | (with_reducible apply i_ret) | (with_reducible apply i_B) | (with_reducible apply i_onBl) | (with_reducible apply i_drop) | (with_reducible apply i_call) | (with_reducible apply i_cb) | (with_reducible apply i_sub) | (with_reducible apply i_addI) | (with_reducible apply i_andV) | (with_reducible apply i_orV) | (with_reducible apply i_notV) | (with_reducible apply i_and) | (with_reducible apply i_or) | (with_reducible apply i_not) | (with_reducible apply i_ifE) | (with_reducible apply i_chain) | (with_reducible apply i_bT) | (with_reducible apply i_bF) | (with_reducible apply i_lt) | (with_reducible apply i_le) | (with_reducible apply i_gt) | (with_reducible apply i_ge) | (with_reducible apply i_neg) | (with_reducible apply i_newF) | (with_reducible apply i_tup) | (with_reducible apply i_lst) | (with_reducible apply i_isN) | (with_reducible apply i_isNotN) | (with_reducible apply i_lenIs) | (with_reducible apply i_lenL) | (with_reducible apply i_lenT) | (with_reducible apply i_lenS) | (with_reducible apply i_sl) | (with_reducible apply i_part) | (with_reducible apply i_nopart) | (with_reducible apply i_onInt) | (with_reducible apply i_slL) | (with_reducible apply i_for) | (with_reducible apply i_m) | (with_reducible apply i_raise) | (with_reducible apply i_rt0) | (with_reducible apply i_nx0) | (with_reducible apply i_ex0) | (with_reducible apply i_next) | (with_reducible apply i_retN) | (with_reducible apply i_band) | (with_reducible apply i_bxor) | (with_reducible apply i_max2) | (with_reducible apply i_min2) | (with_reducible apply i_listL) | (with_reducible apply i_listT) | (with_reducible apply i_abs) | (with_reducible apply i_gcons) | (with_reducible apply i_gnil) | (with_reducible apply i_isB) | (with_reducible apply i_isNotB) | (with_reducible apply i_slS) | (with_reducible apply i_gsub) | (with_reducible apply i_lc) | (with_reducible apply i_lcS) | (with_reducible apply i_yes) | (with_reducible apply i_iLl) | (with_reducible apply i_onL) | (with_reducible apply i_range) | (with_reducible apply i_range2) | (with_reducible apply i_onI1) | (with_reducible apply i_onI2) | (with_reducible apply i_iT) | (with_reducible apply i_onT) | (with_reducible apply i_iS) | (with_reducible apply i_onS) | (with_reducible apply i_par2) | (with_reducible apply i_on2) | (with_reducible apply i_ck0) | (with_reducible apply i_step) | (with_reducible apply i_exG) | (with_reducible apply i_nxG) | (with_reducible apply i_sumL) | (with_reducible apply i_eqII) | (with_reducible apply i_neII) | (with_reducible apply i_eqSS) | (with_reducible apply i_neSS) | (with_reducible apply i_eqIS) | (with_reducible apply i_neIS) | (with_reducible apply i_bN) | (with_reducible apply i_fld) | (with_reducible apply i_setA) | (with_reducible apply i_meth) | (with_reducible apply i_make) | (with_reducible apply i_try) | (with_reducible apply i_dct) | (with_reducible apply i_rev) | (with_reducible apply i_zLl) | (with_reducible apply i_slStep) | (with_reducible apply i_lrg1) | (with_reducible apply i_lrg2) | (with_reducible apply i_callD) | (with_reducible apply i_lenO) | (with_reducible apply i_callK) | (with_reducible apply i_makeD0) | (with_reducible apply i_makeK0) | ((with_reducible apply i_name); (try dsimp only [st, zwipe])) | ((with_reducible apply i_pair); (try dsimp only [st, zwipe])) | ((with_reducible apply i_var); rfl) | ((with_reducible apply i_isi); (first | rfl | exact tyD_ref mup_same)) | ((with_reducible apply i_gtup); rfl) | ((with_reducible apply i_beT); rfl) | ((with_reducible apply i_beF); rfl) | ((with_reducible apply i_sz); exact Nat.le_of_ble_eq_true rfl) | ((with_reducible apply i_inT); rfl; rfl) | ((with_reducible apply i_rg); (first | decide | omega); (first | decide | omega)) | ((with_reducible apply i_ty); (first | rfl | exact tyD_ref mup_same | exact tyD_ref (by assumption))) | ((with_reducible apply i_onIns); walk_at "m") | ((with_reducible apply i_onFd); rfl) | ((with_reducible apply i_f1000); exact of_decide_eq_true rfl) | ((with_reducible apply i_lkN); rfl) | ((with_reducible apply i_isx); rfl) | ((with_reducible apply i_tryx); rfl; rfl) | ((with_reducible apply i_bdT); (first | omega | decide)) | ((with_reducible apply i_bdF); (first | omega | decide)) | ((with_reducible apply i_mod); (first | decide | omega)) | ((with_reducible apply i_div); exact ⟨by first | decide | omega, by first | decide | omega⟩) | ((with_reducible apply i_mulI); (first | exact .inl (by decide) | exact .inr (by decide) | exact .inl (by omega) | exact .inr (by omega))) | ((with_reducible apply i_shr); (first | decide | omega)) | ((with_reducible apply i_ixT); rfl) | ((with_reducible apply i_ixL); rfl) | ((with_reducible apply i_enum); rfl) | ((with_reducible apply i_divmod); exact ⟨by first | decide | omega, by first | decide | omega⟩))
local macro_rules | `(tactic| walk_at "m") => `(tactic| (first | exact mup_same | assumption | (refine mup_get (by assumption) ?_; walk_at "m") | (refine (mup_ne (by first | assumption | (apply Ne.symm; assumption))).trans ?_; walk_at "m")))
local macro_rules | `(tactic| walk_at "sz") => `(tactic| (rw [sizeLine_eq]; (try simp only [List.length_append, List.length_map, List.length_cons, List.length_nil, List.length_take, List.length_drop]); omega))
local macro_rules | `(tactic| walk_at "ys") => `(tactic| first | walk_at "zs" | ((with_reducible apply i_lenRs); walk_at "m") | ((with_reducible apply i_lenR); walk_at "m") | ((with_reducible apply i_listR); walk_at "m") | ((with_reducible apply i_slR); walk_at "m") | ((with_reducible apply i_onR); walk_at "m") | ((with_reducible apply i_app); (walk_at "m"); (walk_at "sz")) | ((with_reducible apply i_ext); (walk_at "m"); (walk_at "sz")) | ((with_reducible apply i_addL); walk_at "sz") | ((with_reducible apply i_addLR); (walk_at "m"); (walk_at "sz")) | ((with_reducible apply i_addRL); (walk_at "m"); (walk_at "sz")) | ((with_reducible apply i_sz); walk_at "sz") | ((with_reducible apply i_ixR); (walk_at "m"); rfl) | ((with_reducible apply i_ty); exact tyD_ref (by walk_at "m")) | ((with_reducible apply i_isi); exact tyD_ref (by walk_at "m")))
local macro_rules | `(tactic| walk_at "y") => `(tactic| repeat walk_at "ys")
local macro_rules | `(tactic| walk_at "z") => `(tactic| repeat walk_at "zs")

-- needs: _law_draw
theorem div_log2 {c n : Int} (hc : 0 ≤ c) (hn : 0 < n) : (c / n).natAbs.log2 ≤ c.natAbs.log2 := by
  have h1 : (c / n).natAbs ≤ c.natAbs := by
    have a := Int.ediv_nonneg hc (by omega : 0 ≤ n)
    have b := Int.ediv_le_self n hc
    omega
  by_cases h0 : (c / n).natAbs = 0
  · rw [h0]; exact Nat.zero_le _
  · have h2 : c.natAbs ≠ 0 := by omega
    exact (Nat.le_log2 h2).mpr (Nat.le_trans (Nat.log2_self_le h0) h1)
theorem sum_set_le {l : List Int} {j : Nat} {x : Int} (f : Int → Nat) (hj : j < l.length) (h : f x ≤ f l[j]) : ((l.set j x).map f).sum ≤ (l.map f).sum := by
  induction l generalizing j with
  | nil => simp at hj
  | cons a l ih =>
    cases j with
    | zero => simp at h ⊢; exact h
    | succ j =>
      have := ih (j := j) (by simpa using hj) (by simpa using h)
      rw [List.set_cons_succ, List.map_cons, List.map_cons, List.sum_cons, List.sum_cons]; omega
theorem cellsOk_set {l : List Int} {j : Nat} {x : Int} (h : cellsOk l) (hj : j < l.length) (hx : x.natAbs.log2 ≤ (l[j]).natAbs.log2) : cellsOk (l.set j x) := ⟨by rw [List.length_set]; exact h.1, Nat.le_trans (sum_set_le (fun x : Int => x.natAbs.log2) hj hx) h.2⟩
theorem plains_ints : ∀ ns : List Int, plains (ns.map D.int) = true
  | [] => by simp [plains]
  | n :: r => by simp [plains, Zl.plain, plains_ints r]
theorem tOpen_t {M : Mh} {t c : Addr} {n : Int} {cells : List Int} : tOpen M t c n cells t = some (.lst [.ref c, .int n]) := mup_same
theorem tOpen_c {M : Mh} {t c : Addr} {n : Int} {cells : List Int} (h : c ≠ t) : tOpen M t c n cells c = some (.lst (cells.map D.int)) := by
  unfold tOpen; rw [mup_ne h]; exact mup_same
theorem tOpen_n {M : Mh} {t c : Addr} {n m : Int} {cells : List Int} : mup (tOpen M t c n cells) t (.lst [.ref c, .int m]) = tOpen M t c m cells := mup_mup
theorem tOpen_k {M : Mh} {t c : Addr} {n : Int} {cells cs : List Int} (h : c ≠ t) : mup (tOpen M t c n cells) c (.lst (cs.map D.int)) = tOpen M t c n cs := by
  funext b
  unfold tOpen mup
  by_cases e : b = c
  · subst e; simp [h]
  · simp [e]
theorem draw0 {M : Mh} {t c : Addr} {cells : List Int} {n m : Int} {Q : QZ} {E : ZX} (T : TownOk M t c cells) (h0 : 0 < n) (h1 : n < 1073741824)
    (k : ∀ (k m : Int) (cs : List Int), 0 ≤ k → k < n → cs ≠ [] → cellsOk cs → Q (.int k) (tOpen M t c m cs)) : z0__law_draw [.ref t, .int n] (tOpen M t c m cells) Q E := by
  have ct := T.ct
  have lp : 0 < cells.length := List.length_pos_iff.mpr T.ne
  obtain ⟨j, hj, ej⟩ : ∃ j : Nat, j < cells.length ∧ (m + 1) % (cells.length : Int) = (j : Int) := by
    have a := Int.emod_nonneg (m + 1) (show (cells.length : Int) ≠ 0 by omega)
    have b := Int.emod_lt_of_pos (m + 1) (show (0 : Int) < cells.length by omega)
    exact ⟨((m + 1) % (cells.length : Int)).toNat, by omega, by omega⟩
  show zFn true zb__law_draw _ _ _ _
  unfold zFn zb__law_draw
  walk_at "z"
  refine i_ixR tOpen_t (d := .ref c) (by rfl) ?_
  walk_at "z"
  refine i_ixR tOpen_t (d := .int m) (by rfl) ?_
  walk_at "z"
  refine i_set tOpen_t (j := 1) (by rfl) ?_
  dsimp only [List.set]
  rw [tOpen_n]
  walk_at "z"
  refine i_ixR tOpen_t (d := .int (m + 1)) (by rfl) ?_
  walk_at "z"
  refine i_lenR (tOpen_c ct) ?_
  rw [List.length_map]
  refine i_mod (by omega) ?_
  rw [ej]
  walk_at "z"
  have hat : atI (cells.map D.int) (j : Int) = some (.int cells[j]) := atI_nat (by rw [List.getElem?_map, List.getElem?_eq_getElem hj]; rfl)
  have hix : ixN (cells.map D.int).length (j : Int) = some j := by
    unfold ixN
    rw [List.length_map, if_pos (by omega), if_pos (by omega)]; simp
  refine i_ixR (tOpen_c ct) hat ?_
  walk_at "z"
  refine i_bd (fun hc => ?_) (fun hc => ?_)
  · walk_at "z"
    refine i_set (tOpen_c ct) hix ?_
    rw [show (cells.map D.int).set j (.int (cells[j] / n)) = (cells.set j (cells[j] / n)).map D.int by rw [List.map_set], tOpen_k ct]
    walk_at "z"
    exact i_rtG (k _ _ _ (Int.emod_nonneg _ (by omega)) (Int.emod_lt_of_pos _ h0) (fun z => by
      have := congrArg List.length z
      rw [List.length_set] at this
      exact absurd this (by simp; exact T.ne)) (cellsOk_set T.len hj (div_log2 (by omega) h0)))
  · walk_at "z"
    refine i_ixR tOpen_t (d := .int (m + 1)) (by rfl) ?_
    walk_at "z"
    have b1 := Int.emod_nonneg (cells[j] + 104729 * (m + 1)) (show (4294967291 : Int) ≠ 0 by decide)
    have b2 := Int.emod_lt_of_pos (cells[j] + 104729 * (m + 1)) (show (0 : Int) < 4294967291 by decide)
    refine i_pow ⟨by decide, by decide, ?_⟩ ?_
    · generalize (cells[j] + 104729 * (m + 1)) % 4294967291 = q at *
      omega
    walk_at "z"
    exact i_rtG (k _ _ _ (Int.emod_nonneg _ (by omega)) (Int.emod_lt_of_pos _ h0) T.ne T.len)

/-- is_whole's answer -/
def iw (d : D) (lo hi : Int) : Bool := match d with
  | .int i => decide (lo ≤ i) && decide (i ≤ hi)
  | _ => false
/-- a thing whose kind is known -/
def known (M : Mh) (d : D) : Prop := ∃ t, tyD M d = some t
theorem known_int {M : Mh} (i : Int) : known M (.int i) := ⟨_, rfl⟩
theorem known_str {M : Mh} (i : Str) : known M (.str i) := ⟨_, rfl⟩
theorem known_lst {M : Mh} (i : List D) : known M (.lst i) := ⟨_, rfl⟩
theorem i_eqT {M : Mh} {Q : QZ} {x y : D} (hx : Pl 64 x) (hy : Pl 64 y) (e : eqD x y = true) (q : Q (.bl true) M) : dEq x y M Q := i_eq hx hy (by rw [e]; exact q)
theorem i_neF {M : Mh} {Q : QZ} {x y : D} (hx : Pl 64 x) (hy : Pl 64 y) (e : eqD x y = true) (q : Q (.bl false) M) : dNe x y M Q := i_ne hx hy (by rw [e]; exact q)
theorem i_eqF {M : Mh} {Q : QZ} {x y : D} (hx : Pl 64 x) (hy : Pl 64 y) (e : eqD x y = false) (q : Q (.bl false) M) : dEq x y M Q := i_eq hx hy (by rw [e]; exact q)
theorem i_neT {M : Mh} {Q : QZ} {x y : D} (hx : Pl 64 x) (hy : Pl 64 y) (e : eqD x y = false) (q : Q (.bl true) M) : dNe x y M Q := i_ne hx hy (by rw [e]; exact q)
theorem i_neFR {M : Mh} {Q : QZ} {y : D} {xs : List D} {p : Addr} (e : M p = some (.lst xs)) (hx : Pl 64 (.lst xs)) (hy : Pl 64 y) (e2 : eqD (.lst xs) y = true) (q : Q (.bl false) M) : dNe (.ref p) y M Q := i_neR e hx hy (by rw [e2]; exact q)
theorem eqDs_refl_ints : ∀ ns : List Int, eqDs (ns.map D.int) (ns.map D.int) = true
  | [] => rfl
  | n :: r => by simp [eqDs_refl_ints r]
theorem eqD_int_of {i j : Int} (h : i = j) : eqD (.int i) (.int j) = true := by simp [h]
theorem eqD_ints_of {ns ms : List Int} (h : ns = ms) : eqD (.lst (ns.map D.int)) (.lst (ms.map D.int)) = true := by subst h; exact eqDs_refl_ints ns
theorem i_neI {M : Mh} {Q : QZ} {i j : Int} (e : i = j) (q : Q (.bl false) M) : dNe (.int i) (.int j) M Q := i_neF (.int _ _) (.int _ _) (eqD_int_of e) q
theorem i_eqI {M : Mh} {Q : QZ} {i j : Int} (e : i = j) (q : Q (.bl true) M) : dEq (.int i) (.int j) M Q := i_eqT (.int _ _) (.int _ _) (eqD_int_of e) q
theorem i_neIs {M : Mh} {Q : QZ} {ns ms : List Int} (e : ns = ms) (q : Q (.bl false) M) : dNe (.lst (ns.map D.int)) (.lst (ms.map D.int)) M Q := i_neF (.ints _) (.ints _) (eqD_ints_of e) q
theorem i_eqIs {M : Mh} {Q : QZ} {ns ms : List Int} (e : ns = ms) (q : Q (.bl true) M) : dEq (.lst (ns.map D.int)) (.lst (ms.map D.int)) M Q := i_eqT (.ints _) (.ints _) (eqD_ints_of e) q
theorem i_idx {M : Mh} {Q : QZ} {y : D} {l : List D} {j : Nat} (h1 : flatD y = true) (h2 : l.all flatD = true) (h3 : idxD y l = some j) (q : Q (.int (j : Nat)) M) : dIndex (.lst l) [y] M Q := by
  show flatD y = true ∧ l.all flatD = true ∧ (match idxD y l with | some j => Q (.int (j : Nat)) M | none => False)
  rw [h3]; exact ⟨h1, h2, q⟩
theorem i_tixV {r : Zl.Env} {M : Mh} {Q : QZ} {y : D} {ds : List D} {n j : Nat} (h : gt r n = some y) (h1 : flatD y = true) (h3 : idxD y ds = some j) (q : Q (.int (j : Nat)) M) : zTIx ds (zCons (zVar n) zNil) r M Q := by
  refine i_tix (i_cons (i_var h (i_nil ?_)))
  show flatD y = true ∧ (match idxD y ds with | some j => Q (.int (j : Nat)) M | none => False)
  rw [h3]; exact ⟨h1, q⟩
def knowns (M : Mh) (ds : List D) : Prop := ∀ d ∈ ds, known M d
theorem knowns_ints {M : Mh} (ns : List Int) : knowns M (ns.map D.int) := fun d hd => by
  obtain ⟨i, _, rfl⟩ := List.mem_map.mp hd
  exact known_int i
/-- the ten bits of a word -/
def ten (w : Int) : List Int := [512, 256, 128, 64, 32, 16, 8, 4, 2, 1].map fun b => w / b % 2
theorem iw_int {i lo hi : Int} : iw (.int i) lo hi = (decide (lo ≤ i) && decide (i ≤ hi)) := rfl
theorem iw_true {i lo hi : Int} (h1 : lo ≤ i) (h2 : i ≤ hi) : iw (.int i) lo hi = true := by simp [iw, h1, h2]
def wordOf (ns : List Int) : Int := ns.foldl (fun a b => 2 * a + b) 0
def bitL (ns : List Int) : Prop := ∀ n ∈ ns, n = 0 ∨ n = 1
theorem ten_bits (w : Int) : bitL (ten w) := fun n hn => by
  obtain ⟨b, _, rfl⟩ := List.mem_map.mp hn
  omega
theorem ten_len (w : Int) : (ten w).length = 10 := rfl
/-! loops and comprehensions over what is known -/
theorem zLoop_map {α : Type} {f : α → D} {c : Ck} {step : D → (Zl.Env → Mh → Prop) → Zl.Env → Mh → Prop} {nx : Zl.Env → Mh → Prop} (P : List α → Zl.Env → Mh → Prop) (hd : ∀ r M, P [] r M → zck c M (nx r M))
    (hs : ∀ a l r M (k : Zl.Env → Mh → Prop), P (a :: l) r M → (∀ r' M', P l r' M' → k r' M') → zck c M (step (f a) k r M)) :
    ∀ {as : List α} {r : Zl.Env} {M : Mh}, P as r M → zLoop c step nx (as.map f) r M
  | [], r, M, h => hd r M h
  | a :: l, r, M, h => hs a l r M _ h fun r' M' h' => zLoop_map P hd hs h'
theorem rangeD_succ (lo : Int) (n : Nat) : rangeD lo 1 (n + 1) = .int lo :: rangeD (lo + 1) 1 n := rfl
theorem zLoop_range0 {step : D → (Zl.Env → Mh → Prop) → Zl.Env → Mh → Prop} {nx : Zl.Env → Mh → Prop} {lo : Int} (P : Nat → Zl.Env → Mh → Prop) (m : Nat) (hd : ∀ r M, P m r M → nx r M)
    (hs : ∀ j r M (k : Zl.Env → Mh → Prop), j < m → P j r M → (∀ r' M', P (j + 1) r' M' → k r' M') → step (.int (lo + (j : Nat))) k r M) :
    ∀ (n i : Nat) {r : Zl.Env} {M : Mh}, i + n = m → P i r M → zLoop none step nx (rangeD (lo + (i : Nat)) 1 n) r M
  | 0, i, r, M, e, h => by
    have e' : i = m := by omega
    subst e'; exact hd r M h
  | n + 1, i, r, M, e, h => by
    rw [rangeD_succ]
    refine hs i r M _ (by omega) h fun r' M' h' => ?_
    have := zLoop_range0 P m hd hs n (i + 1) (by omega) h'
    rw [show (lo + ((i + 1 : Nat) : Int)) = lo + (i : Nat) + 1 by omega] at this
    exact this
/-- a loop over a range, by its index -/
theorem zLoop_range {step : D → (Zl.Env → Mh → Prop) → Zl.Env → Mh → Prop} {nx : Zl.Env → Mh → Prop} {lo : Int} {m : Nat} (P : Nat → Zl.Env → Mh → Prop) (hd : ∀ r M, P m r M → nx r M)
    (hs : ∀ j r M (k : Zl.Env → Mh → Prop), j < m → P j r M → (∀ r' M', P (j + 1) r' M' → k r' M') → step (.int (lo + (j : Nat))) k r M) {r : Zl.Env} {M : Mh} (h : P 0 r M) : zLoop none step nx (rangeD lo 1 m) r M := by
  have := zLoop_range0 P m hd hs m 0 (by omega) h
  rw [show lo + ((0 : Nat) : Int) = lo by omega] at this; exact this
theorem zLcL_mapm {α : Type} {f g : α → D} {step : D → Mh → (Option D → Mh → Prop) → Prop} {k : List D → Mh → Prop} {M : Mh} : ∀ {as : List α} {acc : List D}, (∀ a, a ∈ as → ∀ Q : Option D → Mh → Prop, Q (some (g a)) M → step (f a) M Q) → k (acc ++ as.map g) M → zLcL none step k (as.map f) acc M
  | [], acc, _, h => by
    show k acc M
    simpa using h
  | a :: l, acc, hs, h => by
    show step (f a) M _
    refine hs a List.mem_cons_self _ ?_
    show zLcL none step k (l.map f) (acc ++ [g a]) M
    exact zLcL_mapm (fun e he => hs e (List.mem_cons_of_mem _ he)) (by simpa using h)
theorem zLcL_filterm {α : Type} {f g : α → D} {p : α → Bool} {step : D → Mh → (Option D → Mh → Prop) → Prop} {k : List D → Mh → Prop} {M : Mh} : ∀ {as : List α} {acc : List D}, (∀ a, a ∈ as → ∀ Q : Option D → Mh → Prop, (p a = true → Q (some (g a)) M) → (p a = false → Q none M) → step (f a) M Q) → k (acc ++ (as.filter p).map g) M → zLcL none step k (as.map f) acc M
  | [], acc, _, h => by
    show k acc M
    simpa using h
  | a :: l, acc, hs, h => by
    show step (f a) M _
    refine hs a List.mem_cons_self _ (fun hp => ?_) (fun hp => ?_)
    · show zLcL none step k (l.map f) (acc ++ [g a]) M
      exact zLcL_filterm (fun e he => hs e (List.mem_cons_of_mem _ he)) (by simpa [List.filter_cons, hp] using h)
    · show zLcL none step k (l.map f) acc M
      exact zLcL_filterm (fun e he => hs e (List.mem_cons_of_mem _ he)) (by simpa [List.filter_cons, hp] using h)
theorem rangeD_mapI (n : Nat) : rangeD 0 1 n = (List.range n).map fun (k : Nat) => D.int (k : Nat) := by
  rw [rangeD_map]; apply List.map_congr_left; intro k _; rw [Int.zero_add]
theorem atI_ints {ns : List Int} {k : Nat} (h : k < ns.length) : atI (ns.map D.int) (k : Int) = some (.int ns[k]) := atI_nat (by rw [List.getElem?_map, List.getElem?_eq_getElem h]; rfl)
/-- a while, by a measure that falls -/
theorem zWhile_ind {t : ZT} {tb : ZS} {E : ZEnds} (P : Nat → Zl.Env → Mh → Prop) (hs : ∀ n r M (k : Zl.Env → Mh → Prop), P n r M → (∀ m r' M', m < n → P m r' M' → k r' M') → t r M fun b M1 => bsel b (tb { nx := k, rt := E.rt, bk := E.nx, ct := k } r M1) (E.nx r M1)) {r : Zl.Env} {M : Mh} (n : Nat) (h : P n r M) : zWhile t tb E r M := by
  have up : ∀ (f n : Nat) (r : Zl.Env) (M : Mh), n < f → P n r M → zWhileN t tb E f r M := by
    intro f
    induction f with
    | zero => intro n r M h; omega
    | succ f ih =>
      intro n r M h hp
      exact hs n r M (zWhileN t tb E f) hp fun m r' M' hm h' => ih m r' M' (by omega) h'
  exact ⟨n + 1, up (n + 1) n r M (by omega) h⟩
theorem cutD_to (ds : List D) (k : Nat) : cutD ds none (some (k : Int)) = ds.take k := by
  unfold cutD
  rw [HT.sIx_none, HT.sIx_nat, List.drop_zero, Nat.sub_zero]
  by_cases h : k ≤ ds.length
  · rw [Nat.min_eq_left h]
  · rw [Nat.min_eq_right (by omega), List.take_of_length_le (Nat.le_refl _), List.take_of_length_le (by omega)]
theorem cutD_from (ds : List D) (k : Nat) : cutD ds (some (k : Int)) none = ds.drop k := by
  unfold cutD
  rw [HT.sIx_none, HT.sIx_nat, List.take_of_length_le (by rw [List.length_drop]; omega)]
  by_cases h : k ≤ ds.length
  · rw [Nat.min_eq_left h]
  · rw [Nat.min_eq_right (by omega), List.drop_of_length_le (Nat.le_refl _), List.drop_of_length_le (by omega)]
theorem cutD_mid (ds : List D) (i j : Nat) : cutD ds (some (i : Int)) (some (j : Int)) = (ds.drop i).take (j - i) := by
  unfold cutD
  rw [HT.sIx_nat, HT.sIx_nat]
  by_cases h : i ≤ ds.length
  · rw [Nat.min_eq_left h]
    by_cases h2 : j ≤ ds.length
    · rw [Nat.min_eq_left h2]
    · rw [Nat.min_eq_right (by omega), List.take_of_length_le (by rw [List.length_drop]; omega), List.take_of_length_le (by rw [List.length_drop]; omega)]
  · rw [show min i ds.length = ds.length by omega, List.drop_of_length_le (Nat.le_refl _), List.drop_of_length_le (show ds.length ≤ i by omega), List.take_nil, List.take_nil]
theorem bitL_app {a b : List Int} (h : bitL a) (h' : bitL b) : bitL (a ++ b) := fun n hn => (List.mem_append.mp hn).elim (h n) (h' n)
theorem bitL_take {a : List Int} (h : bitL a) (k : Nat) : bitL (a.take k) := fun n hn => h n (List.mem_of_mem_take hn)
theorem bitL_drop {a : List Int} (h : bitL a) (k : Nat) : bitL (a.drop k) := fun n hn => h n (List.mem_of_mem_drop hn)
theorem ixN_last {acc : List Int} (h : acc ≠ []) : ixN (acc.map D.int).length (-1) = some (acc.length - 1) := by
  have : 0 < acc.length := List.length_pos_iff.mpr h
  unfold ixN
  rw [List.length_map, if_neg (by decide), if_pos (by omega)]
  congr 1; omega
theorem atI_last {acc : List Int} (h : acc ≠ []) : atI (acc.map D.int) (-1) = some (.int (acc.getLastD 0)) := by
  have : 0 < acc.length := List.length_pos_iff.mpr h
  unfold atI
  rw [ixN_last h]
  show (acc.map D.int)[acc.length - 1]? = _
  rw [List.getElem?_map, ← List.getLast?_eq_getElem?, List.getLastD_eq_getLast?]
  cases e : acc.getLast? with
  | none => rw [List.getLast?_eq_none_iff] at e; exact absurd e h
  | some x => rfl
theorem set_last {acc : List Int} {x : Int} (h : acc ≠ []) : (acc.map D.int).set (acc.length - 1) (.int x) = (acc.dropLast ++ [x]).map D.int := by
  have : 0 < acc.length := List.length_pos_iff.mpr h
  rw [← List.map_set]
  congr 1
  obtain ⟨l, y, rfl⟩ : ∃ l y, acc = l ++ [y] := ⟨acc.dropLast, acc.getLast h, (List.dropLast_concat_getLast h).symm⟩
  simp
/-- a statement, by what holds behind it -/
theorem i_seqP {t u : ZS} {E : ZEnds} {r : Zl.Env} {M : Mh} (P : Zl.Env → Mh → Prop) (h1 : ∀ r M, P r M → u E r M) (h2 : ∀ k : Zl.Env → Mh → Prop, (∀ r M, P r M → k r M) → t { nx := k, rt := E.rt, bk := E.bk, ct := E.ct } r M) : zSeq t u E r M := h2 _ h1
theorem rep_ints (x : Int) (n : Nat) : (List.replicate n [D.int x]).flatten = (List.replicate n x).map D.int := by
  induction n with
  | zero => rfl
  | succ n ih => rw [List.replicate_succ, List.flatten_cons, ih]; rfl
theorem i_addIs {M : Mh} {Q : QZ} {a b : List Int} {n : Bool} (h : a.length + b.length ≤ 16777216) (q : zNew n ((a ++ b).map D.int) M Q) : dAdd n (.lst (a.map D.int)) (.lst (b.map D.int)) M Q := i_addL (by rw [List.length_map, List.length_map]; exact h) (by rw [← List.map_append]; exact q)
theorem i_addI1 {M : Mh} {Q : QZ} {a : List Int} {b : Int} {n : Bool} (h : a.length + 1 ≤ 16777216) (q : zNew n ((a ++ [b]).map D.int) M Q) : dAdd n (.lst (a.map D.int)) (.lst [.int b]) M Q := i_addIs (b := [b]) h q
theorem i_mulI1 {M : Mh} {Q : QZ} {x k : Int} {n : Bool} (h0 : 0 ≤ k) (h : k ≤ 16777216) (q : zNew n ((List.replicate k.toNat x).map D.int) M Q) : dMul n (.lst [.int x]) (.int k) M Q := i_mulL (by omega) (by omega) (by show 1 * _ ≤ 2 ^ 24; omega) (by rw [rep_ints]; exact q)
theorem i_rtN2 {R : QZ} {M : Mh} {p : Addr} {ds : List D} {x : Int} (hp : M p = none) (h : R (.tup [.lst ds, .int x]) M) : (enB true R).rt (.tup [.ref p, .int x]) (mup M p (.lst ds)) :=
  ⟨_, _, .frz (p := p) mup_same, by rw [mdel_mup hp]; simpa [frzD, frzDs] using h⟩
theorem zck_at {M : Mh} {p : Addr} {ds : List D} (e : M p = some (.lst ds)) : ∀ P : Prop, P → zck (some (p, ds)) M P := fun _ h => ⟨e, h⟩
/-- a comprehension over what may change, but doesn't here -/
theorem zLcL_filterc {c : Ck} {step : D → Mh → (Option D → Mh → Prop) → Prop} {k : List D → Mh → Prop} {M : Mh} (hc : ∀ P : Prop, P → zck c M P) (p : D → Bool) (f : D → D) : ∀ {ds acc : List D}, (∀ d, d ∈ ds → ∀ Q : Option D → Mh → Prop, (p d = true → Q (some (f d)) M) → (p d = false → Q none M) → step d M Q) → k (acc ++ (ds.filter p).map f) M → zLcL c step k ds acc M
  | [], acc, _, h => by
    refine hc _ ?_
    simpa using h
  | d :: l, acc, hs, h => by
    refine hc _ (hs d List.mem_cons_self _ (fun hp => ?_) (fun hp => ?_))
    · show zLcL c step k l (acc ++ [f d]) M
      exact zLcL_filterc hc p f (fun e he => hs e (List.mem_cons_of_mem _ he)) (by simpa [List.filter_cons, hp] using h)
    · show zLcL c step k l acc M
      exact zLcL_filterc hc p f (fun e he => hs e (List.mem_cons_of_mem _ he)) (by simpa [List.filter_cons, hp] using h)
/-- a changing list is left as it stands -/
theorem i_ghF {t : ZS} {E : ZEnds} {r : Zl.Env} {M : Mh} {p : Addr} {ds : List D} (e : M p = some (.lst ds)) (h : t E (r.map fun o => o.map (frzD p ds)) (mdel M p)) : zGh t E r M := ⟨_, _, .frz e, h⟩
theorem i_gh0 {t : ZS} {E : ZEnds} {r : Zl.Env} {M : Mh} (h : t E r M) : zGh t E r M := ⟨_, _, .refl, h⟩
mutual
/-- no changing thing inside -/
def noRef : D → Bool
  | .lst ds => noRefs ds
  | .tup ds => noRefs ds
  | .ref _ => false
  | _ => true
def noRefs : List D → Bool
  | [] => true
  | d :: r => noRef d && noRefs r
end
mutual
theorem frzD_no {p : Addr} {es : List D} : ∀ {d : D}, noRef d = true → frzD p es d = d
  | .lst ds, h => by unfold frzD; rw [frzDs_no (by simpa [noRef] using h)]
  | .tup ds, h => by unfold frzD; rw [frzDs_no (by simpa [noRef] using h)]
  | .ref a, h => by simp [noRef] at h
  | .non, _ => by simp [frzD]
  | .bl b, _ => by simp [frzD]
  | .int i, _ => by simp [frzD]
  | .str x, _ => by simp [frzD]
  | .dct, _ => by simp [frzD]
  | .exc c, _ => by simp [frzD]
  | .scr ns, _ => by simp [frzD]
theorem frzDs_no {p : Addr} {es : List D} : ∀ {ds : List D}, noRefs ds = true → frzDs p es ds = ds
  | [], _ => by simp [frzDs]
  | d :: r, h => by
    have q := Bool.and_eq_true_iff.mp (show (noRef d && noRefs r) = true by simpa [noRefs] using h)
    unfold frzDs; rw [frzD_no q.1, frzDs_no q.2]
end
theorem noRefs_ints : ∀ ns : List Int, noRefs (ns.map D.int) = true
  | [] => by simp [noRefs]
  | n :: r => by simp [noRefs, noRef, noRefs_ints r]
theorem frz_ints {p : Addr} {es : List D} (ns : List Int) : frzD p es (.lst (ns.map D.int)) = .lst (ns.map D.int) := frzD_no (by unfold noRef; exact noRefs_ints ns)
theorem frz_at {p : Addr} {es : List D} : frzD p es (.ref p) = .lst es := by unfold frzD; rw [if_pos rfl]
theorem frz_other {p a : Addr} {es : List D} (h : a ≠ p) : frzD p es (.ref a) = .ref a := by unfold frzD; rw [if_neg h]
theorem frz_int {p : Addr} {es : List D} (i : Int) : frzD p es (.int i) = .int i := by simp [frzD]
theorem frz_scr {p : Addr} {es : List D} (i : List Int) : frzD p es (.scr i) = .scr i := by simp [frzD]
theorem atI_snoc {ds : List D} {d : D} : atI (ds ++ [d]) (-1) = some d := by
  unfold atI ixN
  rw [List.length_append, if_neg (by decide), if_pos (by simp only [List.length_cons, List.length_nil]; omega)]
  show (ds ++ [d])[_]? = _
  rw [show ((-1 : Int) + ((ds.length + [d].length : Nat) : Int)).toNat = ds.length by simp only [List.length_cons, List.length_nil]; omega]
  simp
theorem ixN_snoc {ds : List D} {d : D} : ixN (ds ++ [d]).length (-1) = some ds.length := by
  unfold ixN
  rw [List.length_append, if_neg (by decide), if_pos (by simp only [List.length_cons, List.length_nil]; omega)]
  congr 1; simp only [List.length_cons, List.length_nil]; omega
theorem set_snoc {ds : List D} {d e : D} : (ds ++ [d]).set ds.length e = ds ++ [e] := by simp
theorem all_flat_ints (ns : List Int) : (ns.map D.int).all flatD = true := by rw [List.all_map]; exact List.all_eq_true.mpr fun _ _ => rfl

theorem l_is_whole {d : D} {lo hi : Int} {M : Mh} {Q : QZ} {E : ZX} (h : known M d) (q : Q (.bl (iw d lo hi)) M) : z_is_whole [d, .int lo, .int hi] M Q E := by
  show zFn false zb_is_whole _ _ _ _
  unfold zFn zb_is_whole
  obtain ⟨t, ht⟩ := h
  cases d with
  | int i =>
    walk_at "z"
    refine i_bd (fun h1 => ?_) (fun h1 => ?_)
    · walk_at "z"
      have e : iw (.int i) lo hi = decide (i ≤ hi) := by simp [iw, h1]
      rw [e] at q; exact q
    · walk_at "z"
      have e : iw (.int i) lo hi = false := by simp [iw, h1]
      rw [e] at q; exact q
  | bl b => walk_at "z"; exact q
  | non => walk_at "z"; exact q
  | str s => walk_at "z"; exact q
  | lst l => walk_at "z"; exact q
  | tup l => walk_at "z"; exact q
  | dct => walk_at "z"; exact q
  | exc c => cases ht
  | scr c => cases ht
  | ref p =>
    have ht' : tyD M (.ref p) = some "list" := by
      have z : (match M p with | some (.lst _) => some "list" | _ => none) = some t := ht
      split at z
      · cases z; exact ht
      · cases z
    walk_at "z"
    refine i_isi ht' ?_
    walk_at "z"
    exact q

/-- whether a thing is a list of bits -/
def isBits (M : Mh) (d : D) : Bool := match d with
  | .lst ds => ds.all fun x => iw x 0 1
  | .ref p => (match M p with | some (.lst ds) => ds.all fun x => iw x 0 1 | _ => false)
  | _ => false
theorem l_look_bits {d : D} {M : Mh} {Q : QZ} {E : ZX} (h : known M d) (hk : ∀ ds, d = .lst ds → knowns M ds) (hr : ∀ p, d ≠ .ref p) (q1 : isBits M d = true → Q .non M) (q2 : isBits M d = false → E "BadBits" [] M) : z_look_bits [d] M Q E := by
  show zFn false zb_look_bits _ _ _ _
  unfold zFn zb_look_bits
  obtain ⟨t, ht⟩ := h
  cases d with
  | lst ds =>
    walk_at "z"
    refine zLcL_map (fun x => .bl (iw x 0 1)) (fun x hx Q hq => ?_) ?_
    · walk_at "z"
      refine l_is_whole (hk ds rfl x hx) ?_
      exact hq
    · walk_at "z"
      refine i_allE (bs := ds.map fun x => iw x 0 1) (by simp [Function.comp_def]) ?_
      walk_at "z"
      have e : (ds.map fun x => iw x 0 1).all id = isBits M (.lst ds) := by
        simp [isBits, List.all_map, Function.comp_def]
      rw [e]
      refine i_b (fun e => ?_) (fun e => ?_)
      · walk_at "z"; exact q1 (by simpa using e)
      · walk_at "z"; exact q2 (by simpa using e)
  | bl b => walk_at "z"; exact q2 rfl
  | non => walk_at "z"; exact q2 rfl
  | int i => walk_at "z"; exact q2 rfl
  | str s => walk_at "z"; exact q2 rfl
  | tup l => walk_at "z"; exact q2 rfl
  | dct => walk_at "z"; exact q2 rfl
  | exc c => cases ht
  | scr c => cases ht
  | ref p => exact absurd rfl (hr p)
theorem isBits_ints {M : Mh} {ns : List Int} (h : bitL ns) : isBits M (.lst (ns.map D.int)) = true := by
  show (ns.map D.int).all _ = true
  rw [List.all_map, List.all_eq_true]
  intro n hn
  rcases h n hn with e | e <;> subst e <;> rfl
/-- look_bits of bits -/
theorem l_look_bits_ok {ns : List Int} {M : Mh} {Q : QZ} {E : ZX} (h : bitL ns) (q : Q .non M) : z_look_bits [.lst (ns.map D.int)] M Q E :=
  l_look_bits (known_lst _) (fun ds e => by cases e; exact knowns_ints ns) (fun p e => by cases e) (fun _ => q) fun e => by rw [isBits_ints h] at e; cases e
def badBits (M : Mh) (d : D) : Prop := known M d ∧ (∀ ds, d = .lst ds → knowns M ds) ∧ (∀ p, d ≠ .ref p) ∧ isBits M d = false
theorem l_look_bits_bad {d : D} {M : Mh} {Q : QZ} {E : ZX} (h : badBits M d) (q : E "BadBits" [] M) : z_look_bits [d] M Q E := by
  obtain ⟨h1, h2, h3, h4⟩ := h
  exact l_look_bits h1 h2 h3 (fun e => by rw [h4] at e; cases e) fun _ => q
theorem badBits_of {M : Mh} {d : D} {t : String} (h1 : tyD M d = some t) (h2 : ∀ ds, d ≠ .lst ds) (h3 : ∀ p, d ≠ .ref p) : badBits M d := by
  refine ⟨⟨_, h1⟩, (fun ds e => absurd e (h2 ds)), h3, ?_⟩
  cases d with
  | lst ds => exact absurd rfl (h2 ds)
  | ref p => exact absurd rfl (h3 p)
  | _ => rfl
theorem l_look_bitsR {p : Addr} {ns : List Int} {M : Mh} {Q : QZ} {E : ZX} (e : M p = some (.lst (ns.map D.int))) (h : bitL ns) (q : Q .non M) : z_look_bits [.ref p] M Q E := by
  show zFn _ zb_look_bits _ _ _ _
  unfold zFn zb_look_bits
  walk_at "y"
  refine zLcL_filterc (zck_at e) (fun _ => true) (fun x => .bl (iw x 0 1)) (fun d hd Q h1 _ => ?_) ?_
  · walk_at "y"
    obtain ⟨i, _, rfl⟩ := List.mem_map.mp hd
    exact l_is_whole (known_int i) (h1 rfl)
  · walk_at "y"
    refine i_allE (bs := ns.map fun x => iw (.int x) 0 1) (by rw [List.filter_eq_self.mpr (fun _ _ => rfl)]; simp [Function.comp_def]) ?_
    walk_at "y"
    rw [show (ns.map fun x => iw (.int x) 0 1).all id = true by
      rw [List.all_map, List.all_eq_true]
      intro n hn
      rcases h n hn with e | e <;> subst e <;> rfl]
    walk_at "y"
    exact q
theorem known_up {M : Mh} {x : Addr} {o : MO} {d : D} (hx : M x = none) (h : known M d) : known (mup M x o) d := by
  obtain ⟨t, ht⟩ := h
  cases d with
  | ref p =>
    have ht : (match M p with | some (.lst _) => some "list" | _ => none) = some t := ht
    cases e : M p with
    | none => rw [e] at ht; cases ht
    | some m =>
      cases m with
      | lst ds => exact ⟨"list", by show (match mup M x o p with | some (.lst _) => some "list" | _ => none) = _; rw [mup_get hx e]⟩
      | ins c fs => rw [e] at ht; cases ht
      | town => rw [e] at ht; cases ht
  | _ => exact ⟨t, ht⟩
theorem badBits.up {M : Mh} {x : Addr} {o : MO} {d : D} (hx : M x = none) (h : badBits M d) : badBits (mup M x o) d := by
  obtain ⟨h1, h2, h3, h4⟩ := h
  refine ⟨known_up hx h1, (fun ds e y hy => known_up hx (h2 ds e y hy)), h3, ?_⟩
  cases d with
  | ref p => exact absurd rfl (h3 p)
  | lst ds => exact h4
  | _ => rfl

/-! the 260 items by number: 0 to 255 bytes, then begin, end, rest, skip -/
def itD (n : Nat) : D := if n < 256 then .int n else if n = 256 then .str "begin" else if n = 257 then .str "end" else if n = 258 then .str "rest" else .str "skip"
theorem itD_int {n : Nat} (h : n < 256) : itD n = .int n := if_pos h
theorem it_cases {n : Nat} (h : n < 260) : n < 180 ∨ (180 ≤ n ∧ n < 256) ∨ n = 256 ∨ n = 257 ∨ n = 258 ∨ n = 259 := by omega
def evW (n : Nat) : Int := tE.getD n 0
def hvW (n : Nat) : Int := if n = 256 then 250 else if n < 256 then tH.getD (n - 180) 0 else tH.getD (n - 181) 0
def putW (n : Nat) (p : Int) : Int := if n < 180 then evW n else if p < 0 then hvW n else 1023 - hvW n
theorem putW_e {n : Nat} {p : Int} (h : n < 180) : putW n p = evW n := if_pos h
theorem putW_h {n : Nat} {p : Int} (h : ¬ n < 180) (hp : p < 0) : putW n p = hvW n := by unfold putW; rw [if_neg h, if_pos hp]
theorem putW_l {n : Nat} {p : Int} (h : ¬ n < 180) (hp : ¬ p < 0) : putW n p = 1023 - hvW n := by unfold putW; rw [if_neg h, if_neg hp]
theorem hvW_b {n : Nat} (h : n < 256) : hvW n = tH.getD (n - 180) 0 := by unfold hvW; rw [if_neg (by omega), if_pos h]
def putP (n : Nat) (p : Int) : Int := if n < 180 then p else 0 - p
theorem tE_at : ∀ n : Nat, n < 180 → (tE.map D.int)[n]? = some (.int (evW n)) := fun n h => by
  have h' : n < tE.length := h
  rw [List.getElem?_map, List.getElem?_eq_getElem h']
  unfold evW
  rw [List.getD_eq_getElem?_getD, List.getElem?_eq_getElem h']; rfl
theorem tH_at : ∀ n : Nat, n < 124 → (tH.map D.int)[n]? = some (.int (tH.getD n 0)) := fun n h => by
  have h' : n < tH.length := h
  rw [List.getElem?_map, List.getElem?_eq_getElem h', List.getD_eq_getElem?_getD, List.getElem?_eq_getElem h']; rfl
theorem itD_flat (n : Nat) : flatD (itD n) = true := by
  unfold itD; repeat' split
  all_goals rfl
theorem itD_known {M : Mh} (n : Nat) : known M (itD n) := by
  unfold itD; repeat' split
  all_goals exact ⟨_, rfl⟩
theorem itD_Pl (n k : Nat) : Pl k (itD n) := .flat (itD_flat n)
theorem putP_e {n : Nat} {p : Int} (h : n < 180) : putP n p = p := if_pos h
theorem putP_h {n : Nat} {p : Int} (h : ¬ n < 180) : putP n p = 0 - p := if_neg h
def pm (p : Int) : Prop := p = 1 ∨ p = -1
theorem putP_pm {n : Nat} {p : Int} (h : pm p) : pm (putP n p) := by
  unfold putP pm at *; split <;> omega
theorem putW_rng {n : Nat} {p : Int} (h : n < 260) : 0 ≤ putW n p ∧ putW n p < 1024 := by
  have a : ∀ n : Nat, n < 260 → 0 ≤ hvW n ∧ hvW n < 1024 := by decide +kernel
  have b : ∀ n : Nat, n < 180 → 0 ≤ evW n ∧ evW n < 1024 := by decide +kernel
  have a' := a n h
  unfold putW
  split
  · exact b n (by assumption)
  · split <;> omega
theorem it256 : itD 256 = .str "begin" := rfl
theorem it257 : itD 257 = .str "end" := rfl
theorem it258 : itD 258 = .str "rest" := rfl
theorem it259 : itD 259 = .str "skip" := rfl
theorem itD_str {n : Nat} (h : ¬ n < 256) : ∃ s, itD n = .str s := by
  unfold itD; rw [if_neg h]; repeat' split
  all_goals exact ⟨_, rfl⟩
theorem itD_inj {n m : Nat} (hn : n < 260) (hm : m < 260) : eqD (itD n) (itD m) = decide (n = m) := by
  by_cases hn' : n < 256 <;> by_cases hm' : m < 256
  · rw [itD_int hn', itD_int hm']
    show decide ((n : Int) = m) = _
    by_cases e : n = m
    · rw [decide_eq_true e, decide_eq_true (by omega)]
    · rw [decide_eq_false e, decide_eq_false (by omega)]
  · obtain ⟨s, e⟩ := itD_str hm'
    rw [itD_int hn', e, decide_eq_false (by omega)]; rfl
  · obtain ⟨s, e⟩ := itD_str hn'
    rw [itD_int hm', e, decide_eq_false (by omega)]; rfl
  · have a : ∀ i : Nat, i < 4 → ∀ j : Nat, j < 4 → eqD (itD (256 + i)) (itD (256 + j)) = decide (256 + i = 256 + j) := by decide +kernel
    have := a (n - 256) (by omega) (m - 256) (by omega)
    rw [show 256 + (n - 256) = n by omega, show 256 + (m - 256) = m by omega] at this
    exact this
theorem itD_begin {n : Nat} (hn : n < 260) : eqD (itD n) (.str "begin") = decide (n = 256) := itD_inj (m := 256) hn (by decide)
theorem eqDs_refl : ∀ {ds : List D}, (∀ d ∈ ds, eqD d d = true) → eqDs ds ds = true
  | [], _ => rfl
  | d :: r, h => by rw [eqDs_cons, h d List.mem_cons_self, eqDs_refl fun x hx => h x (List.mem_cons_of_mem _ hx)]; rfl
theorem eqD_itD {n : Nat} (h : n < 260) : eqD (itD n) (itD n) = true := by rw [itD_inj h h, decide_eq_true rfl]
theorem eqD_items {is : List Nat} (h : ∀ n ∈ is, n < 260) : eqD (.lst (is.map itD)) (.lst (is.map itD)) = true := eqDs_refl fun d hd => by
  obtain ⟨n, hn, rfl⟩ := List.mem_map.mp hd
  exact eqD_itD (h n hn)
theorem Pl_items {k : Nat} (is : List Nat) : Pl (k + 1) (.lst (is.map itD)) := .lst fun x hx => by
  obtain ⟨n, hn, rfl⟩ := List.mem_map.mp hx
  exact itD_Pl n k

-- needs: items
def isIt (d : D) : Bool := match d with
  | .str s => (eqD (.str s) (.str "begin")) || inD (.str s) [.str "end", .str "rest", .str "skip"]
  | d => iw d 0 255
theorem l_is_item {d : D} {M : Mh} {Q : QZ} {E : ZX} (h : known M d) (q : Q (.bl (isIt d)) M) : z_is_item [d] M Q E := by
  show zFn false zb_is_item _ _ _ _
  unfold zFn zb_is_item
  obtain ⟨t, ht⟩ := h
  cases d with
  | str s =>
    walk_at "z"
    refine i_b (fun e => ?_) (fun e => ?_)
    · walk_at "z"
      rw [show isIt (.str s) = true by show (eqD (.str s) (.str "begin") || _) = true; rw [show eqD (.str s) (.str "begin") = true from e]; rfl] at q; exact q
    · walk_at "z"
      rw [show isIt (.str s) = inD (.str s) c_CONTROLS by show (eqD (.str s) (.str "begin") || _) = _; rw [show eqD (.str s) (.str "begin") = false from e]; rfl] at q; exact q
  | exc c => cases ht
  | scr c => cases ht
  | ref p =>
    have ht' : tyD M (.ref p) = some "list" := by
      have z : (match M p with | some (.lst _) => some "list" | _ => none) = some t := ht
      split at z
      · cases z; exact ht
      · cases z
    walk_at "z"
    refine i_isi ht' ?_
    walk_at "z"
    exact l_is_whole ⟨_, ht'⟩ q
  | _ => walk_at "z"; exact l_is_whole ⟨_, rfl⟩ q
theorem isIt_itD : ∀ n : Nat, n < 260 → isIt (itD n) = true := by decide +kernel

-- needs: items
theorem l_look_items_ok {is : List Nat} {M : Mh} {Q : QZ} {E : ZX} (h : ∀ n ∈ is, n < 260) (q : Q .non M) : z_look_items [.lst (is.map itD)] M Q E := by
  show zFn false zb_look_items _ _ _ _
  unfold zFn zb_look_items
  walk_at "z"
  refine zLcL_mapm (g := fun _ => .bl true) (fun n hn Q hq => ?_) ?_
  · walk_at "z"
    refine l_is_item (itD_known n) ?_
    walk_at "z"
    rw [isIt_itD n (h n hn)]; exact hq
  · walk_at "z"
    refine i_allE (bs := is.map fun _ => true) (by simp [Function.comp_def]) ?_
    walk_at "z"
    rw [show (is.map fun _ => true).all id = true by simp]
    walk_at "z"
    exact q
def badItems (M : Mh) (d : D) : Prop := known M d ∧ (∀ ds, d = .lst ds → knowns M ds) ∧ (∀ p, d ≠ .ref p) ∧ (∀ ds, d = .lst ds → ds.all isIt = false)
theorem badItems_of {M : Mh} {d : D} {t : String} (h1 : tyD M d = some t) (h2 : ∀ ds, d ≠ .lst ds) (h3 : ∀ p, d ≠ .ref p) : badItems M d := ⟨⟨_, h1⟩, (fun ds e => absurd e (h2 ds)), h3, (fun ds e => absurd e (h2 ds))⟩
/-- items with one odd thing put in -/
theorem badItems_odd {M : Mh} {is : List Nat} {b : D} {i j : Nat} (h1 : known M b) (h2 : isIt b = false) : badItems M (.lst ((is.map itD).take i ++ [b] ++ (is.map itD).drop j)) := by
  have hi : ∀ x ∈ is.map itD, known M x := fun x hx => by
    obtain ⟨n, _, rfl⟩ := List.mem_map.mp hx
    exact itD_known n
  refine ⟨known_lst _, (fun ds e => by
    cases e
    intro x hx
    rcases List.mem_append.mp hx with hx | hx
    · rcases List.mem_append.mp hx with hx | hx
      · exact hi x (List.mem_of_mem_take hx)
      · rw [List.mem_singleton.mp hx]; exact h1
    · exact hi x (List.mem_of_mem_drop hx)), (fun p e => by cases e), fun ds e => ?_⟩
  cases e
  rw [List.all_append, List.all_append, show List.all [b] isIt = false by simp [h2]]
  simp
theorem l_look_items_bad {d : D} {M : Mh} {Q : QZ} {E : ZX} (h : badItems M d) (q : E "BadItem" [] M) : z_look_items [d] M Q E := by
  obtain ⟨⟨t, ht⟩, hk, hr, hb⟩ := h
  show zFn _ zb_look_items _ _ _ _
  unfold zFn zb_look_items
  cases d with
  | lst ds =>
    walk_at "z"
    refine zLcL_map (fun x => .bl (isIt x)) (fun x hx Q hq => ?_) ?_
    · walk_at "z"
      refine l_is_item (hk ds rfl x hx) ?_
      exact hq
    · walk_at "z"
      refine i_allE (bs := ds.map isIt) (by simp [Function.comp_def]) ?_
      walk_at "z"
      rw [show (ds.map isIt).all id = false by rw [List.all_map]; exact hb ds rfl]
      walk_at "z"
      exact q
  | exc c => cases ht
  | scr c => cases ht
  | ref p => exact absurd rfl (hr p)
  | _ => walk_at "z"; exact q

-- needs: items
/-! texts of items -/
def itS (n : Nat) : Str := if n < 256 then numS n else if n = 256 then "begin" else if n = 257 then "end" else if n = 258 then "rest" else "skip"
def ctl (s : Str) : Bool := decide (s = "begin") || inD (.str s) [.str "end", .str "rest", .str "skip"]
theorem itS_num {n : Nat} (h : n < 256) : itS n = numS n := if_pos h
theorem it_ctl {n : Nat} (h : ¬ n < 256) (h2 : n < 260) : n = 256 ∨ n = 257 ∨ n = 258 ∨ n = 259 := by omega
theorem itD_itS {n : Nat} (h : ¬ n < 256) (h2 : n < 260) : itD n = .str (itS n) := by
  rcases it_ctl h h2 with rfl | rfl | rfl | rfl <;> rfl
theorem itS_ctl {n : Nat} (h : ¬ n < 256) (h2 : n < 260) : ctl (itS n) = true := by
  rcases it_ctl h h2 with rfl | rfl | rfl | rfl <;> decide +kernel
theorem ctl_of {s : Str} (h : ctl s = true) : ∃ n, ¬ n < 256 ∧ n < 260 ∧ s = itS n := by
  unfold ctl inD at h
  simp only [List.any_cons, List.any_nil, Bool.or_false, eqD_str, Bool.or_eq_true, decide_eq_true_eq, beq_iff_eq] at h
  rcases h with h | h | h | h
  · exact ⟨256, by decide, by decide, h⟩
  · exact ⟨257, by decide, by decide, h.symm⟩
  · exact ⟨258, by decide, by decide, h.symm⟩
  · exact ⟨259, by decide, by decide, h.symm⟩
theorem ctl_head {s : Str} (h : ctl s = true) : ∃ c r, TL.tl s = c :: r ∧ 57 < c := by
  obtain ⟨n, h1, h2, rfl⟩ := ctl_of h
  rcases it_ctl h1 h2 with rfl | rfl | rfl | rfl
  · exact ⟨98, [101, 103, 105, 110], by decide +kernel, by decide⟩
  · exact ⟨101, [110, 100], by decide +kernel, by decide⟩
  · exact ⟨114, [101, 115, 116], by decide +kernel, by decide⟩
  · exact ⟨115, [107, 105, 112], by decide +kernel, by decide⟩
theorem numS_ctl (n : Nat) : ctl (numS n) = false := by
  cases h : ctl (numS n)
  · rfl
  · obtain ⟨c, r, e, hc⟩ := ctl_head h
    rw [numS_tl] at e
    have := TL.numL_digits n c (by rw [e]; exact List.mem_cons_self)
    omega
theorem itS_free {n c : Nat} (h : n < 260) (hc : c < 48) : c ∉ TL.tl (itS n) := by
  by_cases h1 : n < 256
  · rw [itS_num h1, numS_tl]; exact TL.numL_free (.inl hc)
  · intro hm
    have : ∀ c ∈ TL.tl (itS n), 97 ≤ c := by rcases it_ctl h1 h with rfl | rfl | rfl | rfl <;> decide +kernel
    have := this c hm
    omega
theorem itS_len {n : Nat} (h : n < 260) : 1 ≤ (itS n).length ∧ (itS n).length ≤ 5 := by
  by_cases h1 : n < 256
  · rw [itS_num h1]
    have := numS_len (show n < 1000 by omega)
    refine ⟨?_, by omega⟩
    rw [TL.len_tl, numS_tl]
    exact List.length_pos_iff.mpr (TL.numL_ne n)
  · rcases it_ctl h1 h with rfl | rfl | rfl | rfl <;> decide +kernel
theorem int_numS {n : Nat} (h : n < 1000) : intText? (numS n) = some (n : Int) := by
  refine TL.int_num ?_
  have := TL.numL_len (n := n) (k := 3) (by decide) (by omega)
  omega
/-- a text of one to three digits -/
theorem int_digs {s : Str} (h1 : 1 ≤ s.length) (h3 : s.length ≤ 3) (hd : ∀ c ∈ TL.tl s, 48 ≤ c ∧ c ≤ 57) : ∃ n : Nat, n < 1000 ∧ intText? s = some (n : Int) := by
  have hne : TL.tl s ≠ [] := fun e => by rw [TL.len_tl, e] at h1; simp at h1
  refine ⟨_, ?_, intText_digits (x := s) hd hne (by omega)⟩
  rw [TL.len_tl] at h1 h3
  show NumText.digitsVal (TL.tl s) < 1000
  generalize TL.tl s = l at *
  unfold NumText.digitsVal
  match l, h1, h3 with
  | [a], _, _ => have := hd a (by simp); simp; omega
  | [a, b], _, _ => have := hd a (by simp); have := hd b (by simp); simp; omega
  | [a, b, c], _, _ => have := hd a (by simp); have := hd b (by simp); have := hd c (by simp); simp; omega
theorem digs_iff (c : Nat) : (c ∈ (("0123456789" : Str).cps.toList : List Nat)) ↔ 48 ≤ c ∧ c ≤ 57 := by
  rw [show ("0123456789" : Str).cps.toList = [48, 49, 50, 51, 52, 53, 54, 55, 56, 57] by decide +kernel]
  simp only [List.mem_cons, List.not_mem_nil, or_false]
  omega
theorem charsD_tl (s : Str) : charsD s = (TL.tl s).map fun c => .str ⟨#[c]⟩ := rfl
/-- x in a written text -/
theorem i_inC {M : Mh} {Q : QZ} {c : Nat} {z : Str} (q : Q (.bl (decide (c ∈ z.cps.toList))) M) : dIn false (.str ⟨#[c]⟩) (.str z) M Q := q
theorem str_ne_of_tl {s t : Str} (h : TL.tl s ≠ TL.tl t) : s ≠ t := fun e => h (by rw [e])

-- needs: texts look_items
theorem sum_le_of {f : Nat → Nat} {k : Nat} : ∀ (is : List Nat), (∀ n ∈ is, f n ≤ k) → (is.map f).sum ≤ k * is.length
  | [], _ => by simp
  | a :: r, h => by
    have := sum_le_of r fun n hn => h n (List.mem_cons_of_mem _ hn)
    have := h a List.mem_cons_self
    simp only [List.map_cons, List.sum_cons, List.length_cons, Nat.mul_add]
    omega
theorem itS_sum {is : List Nat} (h : ∀ n ∈ is, n < 260) (hl : is.length ≤ 100000) : ((is.map itS).map (·.length)).sum + (is.map itS).length * (" " : Str).length ≤ 16777216 := by
  have := sum_le_of (f := fun n => (itS n).length) (k := 5) is fun n hn => (itS_len (h n hn)).2
  rw [List.map_map, List.length_map]
  have e : (" " : Str).length = 1 := by decide +kernel
  rw [e]
  have : (is.map ((fun x : Str => x.length) ∘ itS)).sum ≤ 5 * is.length := this
  omega
theorem l_items_text {is : List Nat} {M : Mh} {Q : QZ} {E : ZX} (h : ∀ n ∈ is, n < 260) (hl : is.length ≤ 100000) (q : Q (.str (Txt.join " " (is.map itS))) M) : z_items_text [.lst (is.map itD)] M Q E := by
  show zFn _ zb_items_text _ _ _ _
  unfold zFn zb_items_text
  walk_at "z"
  refine l_look_items_ok h ?_
  walk_at "z"
  refine zLcL_mapm (g := fun n => .str (itS n)) (fun n hn Q hq => ?_) ?_
  · walk_at "z"
    by_cases h1 : n < 256
    · rw [itD_int h1]
      refine i_strI (by omega) (by omega) ?_
      rw [itS_num h1] at hq
      exact hq
    · rw [itD_itS h1 (h n hn)]
      exact i_strS hq
  walk_at "z"
  refine i_joinE (ys := is.map itS) (by simp [Function.comp_def]) (itS_sum h hl) ?_
  walk_at "z"
  exact q

-- needs: texts
theorem l_word_item {s : Str} {M : Mh} {Q : QZ} {E : ZX} (h1 : ctl s = true → Q (.str s) M) (h2 : ∀ n : Nat, n < 256 → s = numS n → Q (.int (n : Int)) M) (h3 : ctl s = false → (∀ n : Nat, n < 256 → s ≠ numS n) → E "BadText" [] M) : z_word_item [.str s] M Q E := by
  show zFn false zb_word_item _ _ _ _
  unfold zFn zb_word_item
  walk_at "z"
  refine i_bd (fun e => ?_) (fun e => ?_)
  · walk_at "z"
    exact h1 (by unfold ctl; rw [decide_eq_true e]; rfl)
  walk_at "z"
  refine i_b (fun e2 => ?_) (fun e2 => ?_)
  · walk_at "z"
    exact h1 (by unfold ctl; rw [show inD (.str s) [.str "end", .str "rest", .str "skip"] = true from e2, Bool.or_true])
  have hc : ctl s = false := by unfold ctl; rw [decide_eq_false e]; exact e2
  walk_at "z"
  have bad : (∀ n : Nat, n < 256 → s ≠ numS n) → E "BadText" [] M := h3 hc
  have nlen : ∀ n : Nat, n < 256 → 1 ≤ (numS n).length ∧ (numS n).length ≤ 3 := fun n hn => by
    have := itS_len (show n < 260 by omega)
    rw [itS_num hn] at this
    exact ⟨this.1, numS_len (by omega)⟩
  refine i_bd (fun l1 => ?_) (fun l1 => ?_)
  · walk_at "z"
    refine i_bd (fun l3 => ?_) (fun l3 => ?_)
    · walk_at "z"
      rw [charsD_tl]
      refine zLcL_mapm (g := fun c => .bl (decide (c ∈ ("0123456789" : Str).cps.toList))) (fun c hc Q hq => ?_) ?_
      · walk_at "z"
        exact i_inC hq
      walk_at "z"
      refine i_allE (bs := (TL.tl s).map fun c => decide (c ∈ ("0123456789" : Str).cps.toList)) (by simp [Function.comp_def]) ?_
      walk_at "z"
      cases hb : ((TL.tl s).map fun c => decide (c ∈ ("0123456789" : Str).cps.toList)).all id
      · walk_at "z"
        refine bad fun n hn es => ?_
        subst es
        rw [show ((TL.tl (numS n)).map fun c => decide (c ∈ ("0123456789" : Str).cps.toList)).all id = true from by
          rw [List.all_map]
          refine List.all_eq_true.mpr fun c hc => ?_
          rw [numS_tl] at hc
          exact decide_eq_true ((digs_iff c).mpr (TL.numL_digits n c hc))] at hb
        cases hb
      · have hd : ∀ c ∈ TL.tl s, 48 ≤ c ∧ c ≤ 57 := fun c hc => by
          rw [List.all_map] at hb
          exact (digs_iff c).mp (of_decide_eq_true (List.all_eq_true.mp hb c hc))
        obtain ⟨n, hn, hi⟩ := int_digs (s := s) (by omega) (by omega) hd
        walk_at "z"
        refine i_int hi (by omega) ?_
        walk_at "z"
        refine i_strI (by omega) (by omega) ?_
        walk_at "z"
        rw [Int.toNat_natCast]
        by_cases en : numS n = s
        · rw [decide_eq_true en]
          walk_at "z"
          refine i_int hi (by omega) ?_
          walk_at "z"
          refine i_bd (fun hg => ?_) (fun hg => ?_)
          · walk_at "z"
            refine bad fun m hm es => ?_
            have := int_numS (n := m) (by omega)
            rw [← es, hi] at this
            injection this with this
            omega
          · walk_at "z"
            refine i_int hi (by omega) ?_
            walk_at "z"
            exact h2 n (by omega) en.symm
        · rw [decide_eq_false en]
          walk_at "z"
          refine bad fun m hm es => ?_
          have := int_numS (n := m) (by omega)
          rw [← es, hi] at this
          injection this with this
          have : n = m := by omega
          subst this
          exact en es.symm
    · walk_at "z"
      refine bad fun n hn es => ?_
      have := nlen n hn
      rw [← es] at this
      omega
  · walk_at "z"
    refine bad fun n hn es => ?_
    have := nlen n hn
    rw [← es] at this
    omega
theorem l_word_item_it {n : Nat} (hn : n < 260) {M : Mh} {Q : QZ} {E : ZX} (q : Q (itD n) M) : z_word_item [.str (itS n)] M Q E := by
  refine l_word_item (fun h => ?_) (fun m hm e => ?_) (fun h1 h2 => ?_)
  · by_cases h1 : n < 256
    · rw [itS_num h1, numS_ctl] at h; cases h
    · rw [← itD_itS h1 hn]; exact q
  · by_cases h1 : n < 256
    · rw [itS_num h1] at e
      have := congrArg TL.tl e
      rw [numS_tl, numS_tl] at this
      have := TL.numL_inj this
      subst this
      rw [itD_int h1] at q; exact q
    · have := itS_ctl h1 hn
      rw [e, numS_ctl] at this; cases this
  · by_cases h : n < 256
    · exact absurd (itS_num h) (h2 n h)
    · rw [itS_ctl h hn] at h1; cases h1

-- needs: texts items_text
theorem blank_tl : TL.tl (" " : Str) = [32] := by decide +kernel
theorem split_items {is : List Nat} (h : ∀ n ∈ is, n < 260) (hne : is ≠ []) : Txt.split (Txt.join " " (is.map itS)) " " = is.map itS := by
  refine TL.split_join blank_tl (by decide +kernel) (parts := is.map itS) (by simpa using hne) fun p hp => ?_
  obtain ⟨n, hn, rfl⟩ := List.mem_map.mp hp
  exact itS_free (h n hn) (by decide)
theorem join_nil (s : Str) : Txt.join s [] = "" := by rw [TL.join_eq]; rfl
theorem join_ne {is : List Nat} (h : ∀ n ∈ is, n < 260) (hne : is ≠ []) : Txt.join " " (is.map itS) ≠ "" := fun e => by
  have e := congrArg TL.tl e
  rw [TL.join_eq, TL.tl_join] at e
  cases is with
  | nil => exact hne rfl
  | cons a r =>
    have := (itS_len (h a List.mem_cons_self)).1
    rw [TL.len_tl] at this
    have : TL.tl (itS a) ≠ [] := fun z => by rw [z] at this; simp at this
    rw [List.map_cons, List.map_cons] at e
    cases r with
    | nil => exact this e
    | cons b r =>
      have e : TL.tl (itS a) ++ _ = [] := e
      exact this (List.append_eq_nil_iff.mp e).1
theorem join_len {is : List Nat} (h : ∀ n ∈ is, n < 260) (hl : is.length ≤ 100000) : (Txt.join " " (is.map itS)).length + 2 ≤ sizeLine := by
  rw [TL.len_tl, TL.join_eq, TL.tl_join, sizeLine_eq]
  have h2 := joinL_len (S := TL.tl (" " : Str)) ((is.map itS).map TL.tl)
  have h3 := sum_le_of (f := fun n => (itS n).length) (k := 5) is fun n hn => (itS_len (h n hn)).2
  rw [map_len_tl, List.length_map, List.length_map, blank_tl] at h2
  have h3 : ((is.map itS).map (fun x : Str => x.length)).sum ≤ 5 * is.length := by rw [List.map_map]; exact h3
  rw [blank_tl]
  simp only [List.length_cons, List.length_nil] at h2
  omega

-- needs: joins
/-! bits as signs, ten by ten -/
def bitC (b : Int) : Nat := if b = 1 then 49 else 48
def chF : Nat → List Int → List (List Int)
  | 0, _ => []
  | _ + 1, [] => []
  | n + 1, b :: r => (b :: r).take 10 :: chF n ((b :: r).drop 10)
/-- the rows of ten -/
def tens (l : List Int) : List (List Int) := chF l.length l
theorem chF_ok : ∀ (n : Nat) (l : List Int), l.length ≤ n → chF n l = tens l := by
  intro n
  induction n using Nat.strongRecOn with
  | _ n ih =>
    intro l hl
    cases l with
    | nil => cases n <;> rfl
    | cons b r =>
      cases n with
      | zero => simp at hl
      | succ n =>
        unfold tens
        simp only [List.length_cons] at hl
        show (b :: r).take 10 :: chF n ((b :: r).drop 10) = (b :: r).take 10 :: chF r.length ((b :: r).drop 10)
        have h1 : ((b :: r).drop 10).length ≤ r.length := by rw [List.length_drop, List.length_cons]; omega
        rw [ih n (by omega) _ (by omega)]
        by_cases e : r.length = n
        · rw [e, ih n (by omega) _ (by omega)]
        · rw [ih r.length (by omega) _ h1]
theorem tens_nil : tens [] = [] := rfl
theorem tens_cons {l : List Int} (h : l ≠ []) : tens l = l.take 10 :: tens (l.drop 10) := by
  cases l with
  | nil => exact absurd rfl h
  | cons b r =>
    show (b :: r).take 10 :: chF r.length ((b :: r).drop 10) = _
    rw [chF_ok _ _ (by rw [List.length_drop, List.length_cons]; omega)]
/-- the signs from place k on -/
def sgn : Nat → List Int → List Nat
  | _, [] => []
  | k, b :: r => (if 0 < k ∧ k % 10 = 0 then [32] else []) ++ bitC b :: sgn (k + 1) r
theorem sgn_run : ∀ (m k : Nat) (l : List Int), k % 10 + m = 10 → 0 < k % 10 → sgn k l = (l.take m).map bitC ++ sgn (k + m) (l.drop m) := by
  intro m
  induction m with
  | zero => intro k l h h0; omega
  | succ m ih =>
    intro k l h h0
    cases l with
    | nil => simp [sgn]
    | cons b r =>
      rw [sgn, if_neg (by omega), List.nil_append, List.take_succ_cons, List.map_cons, List.drop_succ_cons, List.cons_append]
      congr 1
      by_cases hm : m = 0
      · subst hm; simp
      · rw [ih (k + 1) r (by omega) (by omega), show k + 1 + m = k + (m + 1) by omega]
theorem sgn_ten {k : Nat} {l : List Int} (hk : k % 10 = 0) (hl : l ≠ []) : sgn k l = (if 0 < k then [32] else []) ++ ((l.take 10).map bitC ++ sgn (k + 10) (l.drop 10)) := by
  cases l with
  | nil => exact absurd rfl hl
  | cons b r =>
    rw [sgn, sgn_run 9 (k + 1) r (by omega) (by omega), List.take_succ_cons, List.map_cons, List.drop_succ_cons]
    simp only [hk, and_true]
    rfl
theorem sgn_tens : ∀ (n : Nat) (k : Nat) (l : List Int), l.length ≤ n → k % 10 = 0 → l ≠ [] → sgn k l = (if 0 < k then [32] else []) ++ TL.joinL [32] ((tens l).map fun r => r.map bitC) := by
  intro n
  induction n using Nat.strongRecOn with
  | _ n ih =>
    intro k l hn hk hl
    have hp : 0 < l.length := List.length_pos_iff.mpr hl
    rw [sgn_ten hk hl, tens_cons hl]
    congr 1
    by_cases e : l.drop 10 = []
    · rw [e, tens_nil]; simp [sgn, TL.joinL]
    · rw [ih (l.drop 10).length (by rw [List.length_drop]; omega) (k + 10) _ (Nat.le_refl _) (by omega) e, if_pos (by omega), tens_cons e]
      rfl
theorem sgn_join (l : List Int) : sgn 0 l = TL.joinL [32] ((tens l).map fun r => r.map bitC) := by
  by_cases e : l = []
  · rw [e]; rfl
  · rw [sgn_tens l.length 0 l (Nat.le_refl _) rfl e]; rfl
theorem tens_flat : ∀ (n : Nat) (l : List Int), l.length ≤ n → (tens l).flatten = l := by
  intro n
  induction n using Nat.strongRecOn with
  | _ n ih =>
    intro l hn
    by_cases e : l = []
    · rw [e]; rfl
    · have hp : 0 < l.length := List.length_pos_iff.mpr e
      rw [tens_cons e, List.flatten_cons, ih (l.drop 10).length (by rw [List.length_drop]; omega) _ (Nat.le_refl _), List.take_append_drop]
theorem tens_mem : ∀ (n : Nat) (l : List Int), l.length ≤ n → ∀ r ∈ tens l, r ≠ [] ∧ r.length ≤ 10 ∧ ∀ b ∈ r, b ∈ l := by
  intro n
  induction n using Nat.strongRecOn with
  | _ n ih =>
    intro l hn r hr
    by_cases e : l = []
    · rw [e, tens_nil] at hr; cases hr
    · have hp : 0 < l.length := List.length_pos_iff.mpr e
      rw [tens_cons e] at hr
      rcases List.mem_cons.mp hr with rfl | hr
      · refine ⟨fun z => ?_, by rw [List.length_take]; omega, fun b hb => List.mem_of_mem_take hb⟩
        have := congrArg List.length z
        rw [List.length_take, List.length_nil] at this
        omega
      · obtain ⟨h1, h2, h3⟩ := ih (l.drop 10).length (by rw [List.length_drop]; omega) _ (Nat.le_refl _) r hr
        exact ⟨h1, h2, fun b hb => List.mem_of_mem_drop (h3 b hb)⟩
theorem tens_len : ∀ (n : Nat) (l : List Int), l.length ≤ n → (tens l).length ≤ l.length := by
  intro n
  induction n using Nat.strongRecOn with
  | _ n ih =>
    intro l hn
    by_cases e : l = []
    · rw [e]; exact Nat.le_refl _
    · have hp : 0 < l.length := List.length_pos_iff.mpr e
      rw [tens_cons e, List.length_cons]
      have := ih (l.drop 10).length (by rw [List.length_drop]; omega) _ (Nat.le_refl _)
      rw [List.length_drop] at this
      omega
/-- a row as a text -/
def rowS (r : List Int) : Str := ⟨(r.map bitC).toArray⟩
theorem rowS_tl (r : List Int) : TL.tl (rowS r) = r.map bitC := rfl
theorem bit_numS {b : Int} (h : b = 0 ∨ b = 1) : TL.tl (numS b.toNat) = [bitC b] := by
  rw [numS_tl, TL.numL_lt (by omega)]
  rcases h with rfl | rfl <;> rfl
theorem join_row : ∀ {r : List Int}, bitL r → TL.joinL (TL.tl ("" : Str)) ((r.map fun b => numS b.toNat).map TL.tl) = r.map bitC
  | [], _ => rfl
  | [b], h => by
    show TL.tl (numS b.toNat) = [bitC b]
    exact bit_numS (h b List.mem_cons_self)
  | a :: b :: r, h => by
    show TL.tl (numS a.toNat) ++ (TL.tl ("" : Str) ++ TL.joinL (TL.tl ("" : Str)) (((b :: r).map fun b => numS b.toNat).map TL.tl)) = bitC a :: (b :: r).map bitC
    rw [join_row (r := b :: r) (fun x hx => h x (List.mem_cons_of_mem _ hx)), bit_numS (h a List.mem_cons_self), show TL.tl ("" : Str) = [] by decide +kernel]
    rfl
theorem row_text {r : List Int} (h : bitL r) : Txt.join "" (r.map fun b => numS b.toNat) = rowS r := by
  apply TL.ext_tl
  rw [TL.join_eq, TL.tl_join, rowS_tl, join_row h]
/-- bits as a text -/
def bitsS (l : List Int) : Str := ⟨(sgn 0 l).toArray⟩
theorem bitsS_tl (l : List Int) : TL.tl (bitsS l) = sgn 0 l := rfl
theorem bits_text_eq (l : List Int) : Txt.join " " ((tens l).map rowS) = bitsS l := by
  apply TL.ext_tl
  rw [TL.join_eq, TL.tl_join, bitsS_tl, sgn_join, List.map_map, blank_tl]
  rfl
theorem sgn_len : ∀ (l : List Int) (k : Nat), (sgn k l).length ≤ 2 * l.length
  | [], _ => by simp [sgn]
  | b :: r, k => by
    have := sgn_len r (k + 1)
    rw [sgn]
    split <;> simp <;> omega
theorem bitsS_split {l : List Int} (h : l ≠ []) : Txt.split (bitsS l) " " = (tens l).map rowS := by
  rw [← bits_text_eq]
  refine TL.split_join blank_tl (by decide +kernel) (parts := (tens l).map rowS) ?_ fun p hp => ?_
  · rw [tens_cons h]; simp
  · obtain ⟨r, _, rfl⟩ := List.mem_map.mp hp
    rw [rowS_tl]
    intro hm
    obtain ⟨b, _, e⟩ := List.mem_map.mp hm
    unfold bitC at e
    split at e <;> cases e
theorem bitsS_ne {l : List Int} (h : l ≠ []) : bitsS l ≠ "" := fun e => by
  have := congrArg TL.tl e
  rw [bitsS_tl] at this
  cases l with
  | nil => exact h rfl
  | cons b r =>
    rw [sgn, show TL.tl ("" : Str) = [] by decide +kernel] at this
    simp at this
theorem tens_count : ∀ (n : Nat) (l : List Int), l.length ≤ n → (tens l).length = (l.length + 9) / 10 := by
  intro n
  induction n using Nat.strongRecOn with
  | _ n ih =>
    intro l hn
    by_cases e : l = []
    · rw [e]; rfl
    · have hp : 0 < l.length := List.length_pos_iff.mpr e
      rw [tens_cons e, List.length_cons, ih (l.drop 10).length (by rw [List.length_drop]; omega) _ (Nat.le_refl _), List.length_drop]
      omega
theorem tens_get : ∀ (k : Nat) (l : List Int), 10 * k < l.length → (tens l)[k]? = some ((l.drop (10 * k)).take 10)
  | 0, l, h => by
    rw [tens_cons (fun z => by rw [z] at h; simp at h)]
    rfl
  | k + 1, l, h => by
    rw [tens_cons (fun z => by rw [z] at h; simp at h), List.getElem?_cons_succ, tens_get k _ (by rw [List.length_drop]; omega), List.drop_drop, show 10 + 10 * k = 10 * (k + 1) by omega]
theorem tens_take {k : Nat} {l : List Int} (h : 10 * k < l.length) : (tens l).take (k + 1) = (tens l).take k ++ [(l.drop (10 * k)).take 10] := by
  rw [List.take_add_one, tens_get k l h]; rfl
theorem rows_sum {rs : List (List Int)} (h : ∀ r ∈ rs, r.length ≤ 10) : ((rs.map rowS).map (·.length)).sum ≤ 10 * rs.length := by
  induction rs with
  | nil => simp
  | cons r rs ih =>
    have := ih fun x hx => h x (List.mem_cons_of_mem _ hx)
    have h1 := h r List.mem_cons_self
    have : (rowS r).length = r.length := by rw [TL.len_tl, rowS_tl, List.length_map]
    simp only [List.map_cons, List.sum_cons, List.length_cons]
    omega

-- needs: bitstext
/-- a row of signs that is good at place k of n -/
def goodR (n k : Nat) (w : Str) : Bool := (decide (w.length = 10) || (decide (k + 1 = n) && decide (0 < w.length ∧ w.length < 10))) && (TL.tl w).all fun c => c == 48 || c == 49
def bitsOf (w : Str) : List Int := (TL.tl w).map fun (c : Nat) => (c : Int) - 48
theorem bin_iff (c : Nat) : decide (c ∈ (("01" : Str).cps.toList : List Nat)) = (c == 48 || c == 49) := by
  rw [show ("01" : Str).cps.toList = [48, 49] by decide +kernel]
  by_cases h : c = 48
  · subst h; rfl
  · by_cases h' : c = 49
    · subst h'; rfl
    · rw [decide_eq_false (by simp [h, h'])]; simp [h, h']
theorem int_bin {c : Nat} (h : (c == 48 || c == 49) = true) : intText? ⟨#[c]⟩ = some ((c : Int) - 48) := by
  have h : c = 48 ∨ c = 49 := by simpa using h
  have := intText_digits (x := ⟨#[c]⟩) (by intro x hx; simp at hx; omega) (by simp) (by show 1 ≤ 4300; decide)
  rw [this]
  rcases h with rfl | rfl <;> rfl
theorem l_bits_read {s : Str} {ws : List Str} {M : Mh} {Q : QZ} {E : ZX} (hs : s.length + 2 ≤ sizeLine) (hw : ws = if s = "" then [] else Txt.split s " ") (hl : ∀ k, (((ws.take k).flatMap bitsOf).length ≤ 100000))
    (h1 : (∀ k w, ws[k]? = some w → goodR ws.length k w = true) → ∀ p, M p = none → (enB true Q).rt (.ref p) (mup M p (.lst ((ws.flatMap bitsOf).map D.int))))
    (h2 : ¬ (∀ k w, ws[k]? = some w → goodR ws.length k w = true) → E "BadText" [] M) : z_bits_read [.str s] M Q E := by
  show zFn _ zb_bits_read _ _ _ _
  unfold zFn zb_bits_read
  have hX : ∀ r M', Less M M' → E "BadText" [] M → exB true E "BadText" [] r M' := fun r M' h h' => ⟨M, h, h'⟩
  generalize exB true E = XE at *
  walk_at "z"
  have go : ∀ p, M p = none → (zFor (ziEnum (zCons (zVar 1) zNil)) (zgTup 2 (zgCons (zgName 3) (zgCons (zgName 4) zgNil))) (zSeq (zAsg (zOrV (z2 dEq (zCB dLen (zCons (zVar 4) zNil)) (zC (.int 10))) (zAndV (z2 dEq (zVar 3) (z2 dSub (zCB dLen (zCons (zVar 1) zNil)) (zC (.int 1)))) (zChain (dCmp pLt) (dCmp pLt) (zC (.int 0)) (zCB dLen (zCons (zVar 4) zNil)) (zC (.int 10))))) (zgName 5))
  (zSeq (zIf (zOr (zNot (zB (zVar 5))) (zNot (zB (zCB dAll (zCons (zLc false (ziStr (zVar 4)) (zgName 6) zYes (z2 (dIn false) (zVar 6) (zC (.str "01"))) [6]) zNil))))) (zRaise XE "BadText")
  zNext)
  (zDrop (zM "list" dExt (zVar 2) (zCons (zLc false (ziStr (zVar 4)) (zgName 6) zYes (zCB dInt (zCons (zVar 6) zNil)) [6]) zNil)))))) { enB true Q with nx := zRet (zVar 2) (enB true Q) } [some (.str s), some (.lst (ws.map D.str)), some (.ref p), none, none, none, none] (mup M p (.lst [])) := by
    intro p hp
    walk_at "z"
    refine zLoop_ind (fun rest r M' => ∃ (k : Nat) (x y z : Option D), rest = enumD k ((ws.drop k).map D.str) ∧ k ≤ ws.length ∧ (∀ j w, j < k → ws[j]? = some w → goodR ws.length j w = true) ∧ r = [some (.str s), some (.lst (ws.map D.str)), some (.ref p), x, y, z, none] ∧ M' = mup M p (.lst (((ws.take k).flatMap bitsOf).map D.int))) ?_ ?_ ⟨0, none, none, none, rfl, by omega, fun j w h => by omega, rfl, rfl⟩
    · rintro r M' ⟨k, x, y, z, hr, hk, hg, rfl, rfl⟩
      have hk : k = ws.length := by
        cases e : (ws.drop k).map D.str with
        | nil =>
          have := congrArg List.length e
          rw [List.length_map, List.length_drop, List.length_nil] at this
          omega
        | cons a b => rw [e] at hr; cases hr
      subst hk
      rw [List.take_length]
      walk_at "z"
      exact h1 (fun k w e => hg k w (List.getElem?_eq_some_iff.mp e).1 e) p hp
    · rintro d rest r M' kk ⟨k, x, y, z, hr, hk, hg, rfl, rfl⟩ hkk
      have hlt : k < ws.length := by
        rcases Nat.lt_or_ge k ws.length with h | h
        · exact h
        · rw [List.drop_of_length_le h] at hr; cases hr
      rw [List.drop_eq_getElem_cons hlt] at hr
      obtain ⟨rfl, rfl⟩ : d = .tup [.int (k : Nat), .str ws[k]] ∧ rest = enumD (k + 1) ((ws.drop (k + 1)).map D.str) := by injection hr with h1 h2; exact ⟨h1, h2⟩
      have hk? : ws[k]? = some ws[k] := List.getElem?_eq_getElem hlt
      generalize hwk : ws[k] = w at *
      generalize hM : mup M p (.lst (((ws.take k).flatMap bitsOf).map D.int)) = M2 at *
      have bad : ∀ r, goodR ws.length k w = false → XE "BadText" [] r M2 := fun r hb => hX r M2 (fun a m e => by rw [← hM]; exact mup_get hp e) (h2 fun h => by rw [h k w hk?] at hb; cases hb)
      refine i_ck0 (i_step (i_gtup rfl (i_gcons (i_name (i_gcons (i_name (i_gnil ?_)))))))
      dsimp only [st]
      refine i_seqP (fun r' M' => r' = [some (.str s), some (.lst (ws.map D.str)), some (.ref p), some (.int (k : Nat)), some (.str w), some (.bl (decide (w.length = 10) || (decide (k + 1 = ws.length) && decide (0 < w.length ∧ w.length < 10)))), none] ∧ M' = M2) ?_ ?_
      · rintro r' M' ⟨rfl, rfl⟩
        cases hlen : (decide (w.length = 10) || (decide (k + 1 = ws.length) && decide (0 < w.length ∧ w.length < 10)))
        · walk_at "z"
          exact bad _ (by unfold goodR; rw [hlen]; rfl)
        · walk_at "z"
          rw [charsD_tl]
          refine zLcL_mapm (g := fun c => .bl (c == 48 || c == 49)) (fun c hc Q hq => ?_) ?_
          · walk_at "z"
            refine i_inC ?_
            rw [bin_iff]; exact hq
          walk_at "z"
          refine i_allE (bs := (TL.tl w).map fun c => c == 48 || c == 49) (by simp [Function.comp_def]) ?_
          walk_at "z"
          cases hall : ((TL.tl w).map fun c => c == 48 || c == 49).all id
          · walk_at "z"
            exact bad _ (by unfold goodR; rw [hlen]; rw [List.all_map] at hall; exact hall)
          · rw [List.all_map] at hall
            subst hM
            walk_at "y"
            rw [charsD_tl]
            refine zLcL_mapm (g := fun (c : Nat) => .int ((c : Int) - 48)) (fun c hc Q hq => ?_) ?_
            · walk_at "z"
              refine i_int (int_bin (List.all_eq_true.mp hall c hc)) (by show 1 ≤ 640; decide) hq
            have hsz := hl (k + 1)
            have htk : ws.take (k + 1) = ws.take k ++ [w] := by rw [List.take_add_one, hk?]; rfl
            rw [htk, List.flatMap_append, List.length_append] at hsz
            have hbw : [w].flatMap bitsOf = bitsOf w := by simp
            have hwl : (bitsOf w).length = (TL.tl w).length := by unfold bitsOf; rw [List.length_map]
            rw [hbw, hwl] at hsz
            walk_at "z"
            refine i_ext mup_same (by rw [List.length_map, List.length_append, List.length_map, sizeLine_eq]; simp only [List.length_nil]; omega) ?_
            walk_at "z"
            rw [mup_mup]
            refine hkk _ _ ⟨k + 1, _, _, _, rfl, hlt, fun j w' hj e => ?_, rfl, ?_⟩
            · by_cases hjk : j = k
              · subst hjk
                rw [hk?] at e; cases e
                unfold goodR; rw [hlen]; exact hall
              · exact hg j w' (by omega) e
            · rw [htk, List.flatMap_append, hbw, List.map_append]
              unfold bitsOf
              rw [List.map_map]; rfl
      · intro kk2 hk2
        have fin : ∀ b, b = (decide (w.length = 10) || (decide (k + 1 = ws.length) && decide (0 < w.length ∧ w.length < 10))) → kk2 [some (.str s), some (.lst (ws.map D.str)), some (.ref p), some (.int (k : Nat)), some (.str w), some (.bl b), none] M2 := fun b e => hk2 _ _ ⟨by rw [e], rfl⟩
        walk_at "z"
        refine i_bd (fun a1 => ?_) (fun a1 => ?_)
        · walk_at "z"
          exact fin _ (by rw [decide_eq_true (show w.length = 10 by omega)]; rfl)
        · rw [decide_eq_false (show ¬ w.length = 10 by omega), Bool.false_or] at fin
          walk_at "z"
          refine i_bd (fun a2 => ?_) (fun a2 => ?_)
          · rw [decide_eq_true (show k + 1 = ws.length by omega), Bool.true_and] at fin
            walk_at "z"
            refine i_bd (fun a3 => ?_) (fun a3 => ?_)
            · walk_at "z"
              refine fin _ ?_
              by_cases a4 : w.length < 10
              · rw [decide_eq_true (by omega), decide_eq_true (by omega)]
              · rw [decide_eq_false (by omega), decide_eq_false (by omega)]
            · walk_at "z"
              exact fin _ (by rw [decide_eq_false (by omega)])
          · walk_at "z"
            exact fin _ (by rw [decide_eq_false (show ¬ k + 1 = ws.length by omega)]; rfl)
  by_cases e : s = ""
  · rw [if_pos e] at hw
    rw [decide_eq_true e]
    walk_at "z"
    refine fun p hp => ?_
    walk_at "z"
    have := go p hp
    subst hw
    exact this
  · rw [if_neg e] at hw
    rw [decide_eq_false e]
    walk_at "z"
    refine i_split (by rw [blank_tl]; simp) (by decide +kernel) hs ?_
    rw [← hw]
    walk_at "z"
    refine fun p hp => ?_
    walk_at "z"
    have := go p hp
    exact this
theorem bitsOf_row {r : List Int} (h : bitL r) : bitsOf (rowS r) = r := by
  unfold bitsOf
  rw [rowS_tl, List.map_map]
  refine (List.map_congr_left fun b hb => ?_).trans (List.map_id r)
  rcases h b hb with rfl | rfl <;> rfl
theorem flat_rows : ∀ {rs : List (List Int)}, (∀ r ∈ rs, bitL r) → (rs.map rowS).flatMap bitsOf = rs.flatten
  | [], _ => rfl
  | r :: rs, h => by
    rw [List.map_cons, List.flatMap_cons, bitsOf_row (h r List.mem_cons_self), flat_rows fun x hx => h x (List.mem_cons_of_mem _ hx)]
    rfl
theorem tens_bits {l : List Int} (h : bitL l) : ∀ r ∈ tens l, bitL r := fun r hr b hb => h b ((tens_mem l.length l (Nat.le_refl _) r hr).2.2 b hb)
theorem l_bits_read_of0 {l : List Int} {M : Mh} {Q : QZ} {E : ZX} (h : bitL l) (hl : l.length ≤ 100000) (q : ∀ p, M p = none → (enB true Q).rt (.ref p) (mup M p (.lst (l.map D.int)))) : z_bits_read [.str (bitsS l)] M Q E := by
  have hfl := tens_flat l.length l (Nat.le_refl _)
  refine l_bits_read (ws := (tens l).map rowS) ?_ ?_ (fun k => ?_) (fun _ => ?_) (fun hn => absurd ?_ hn)
  · have := sgn_len l 0
    rw [TL.len_tl, bitsS_tl, sizeLine_eq]
    omega
  · by_cases e : l = []
    · rw [e, if_pos (by decide +kernel)]; rfl
    · rw [if_neg (bitsS_ne e), bitsS_split e]
  · rw [← List.map_take, flat_rows fun r hr => tens_bits h r (List.mem_of_mem_take hr)]
    have e := congrArg List.flatten (List.take_append_drop k (tens l))
    rw [List.flatten_append, hfl] at e
    have e := congrArg List.length e
    rw [List.length_append] at e
    omega
  · rw [flat_rows (tens_bits h), hfl]; exact q
  · intro k w hw
    rw [List.getElem?_map] at hw
    have hk : k < (tens l).length := by
      rcases Nat.lt_or_ge k (tens l).length with h | h
      · exact h
      · rw [List.getElem?_eq_none h] at hw; cases hw
    have hc := tens_count l.length l (Nat.le_refl _)
    have h10 : 10 * k < l.length := by omega
    rw [tens_get k l h10] at hw
    cases hw
    unfold goodR
    have hlen : (rowS ((l.drop (10 * k)).take 10)).length = min 10 (l.length - 10 * k) := by rw [TL.len_tl, rowS_tl, List.length_map, List.length_take, List.length_drop]
    rw [hlen, List.length_map]
    have hb : ((TL.tl (rowS ((l.drop (10 * k)).take 10))).all fun c => c == 48 || c == 49) = true := by
      rw [rowS_tl, List.all_map]
      refine List.all_eq_true.mpr fun b hb => ?_
      show (bitC b == 48 || bitC b == 49) = true
      unfold bitC
      split <;> rfl
    rw [hb, Bool.and_true]
    by_cases h1 : 10 ≤ l.length - 10 * k
    · rw [decide_eq_true (by omega)]; rfl
    · rw [decide_eq_true (show k + 1 = (tens l).length by omega), decide_eq_true (show 0 < min 10 (l.length - 10 * k) ∧ min 10 (l.length - 10 * k) < 10 by omega)]
      simp
theorem l_bits_read_of {l : List Int} {M : Mh} {Q : QZ} {E : ZX} (h : bitL l) (hl : l.length ≤ 100000) (q : ∀ p, M p = none → Q (.ref p) (mup M p (.lst (l.map D.int)))) : z_bits_read [.str (bitsS l)] M Q E := l_bits_read_of0 h hl fun p hp => i_rtG (q p hp)
theorem l_bits_read_fz {l : List Int} {M : Mh} {Q : QZ} {E : ZX} (h : bitL l) (hl : l.length ≤ 100000) (q : Q (.lst (l.map D.int)) M) : z_bits_read [.str (bitsS l)] M Q E := l_bits_read_of0 h hl fun p hp => i_rtN hp q

-- needs: bits_read
/-! what a text of bits is -/
theorem bitsS_nil : bitsS [] = "" := by decide +kernel
theorem empty_tl : TL.tl ("" : Str) = [] := by decide +kernel
theorem spl_ne : ∀ (l acc : List Nat), TL.spl [32] 0 acc l ≠ []
  | [], acc => by rw [TL.spl_nil]; simp
  | c :: r, acc => by
    cases h : TL.pre [32] (c :: r)
    · rw [TL.spl_miss h]; exact spl_ne r _
    · rw [TL.spl_hit h]; simp
theorem joinL_two {S p : List Nat} {ps : List (List Nat)} (h : ps ≠ []) : TL.joinL S (p :: ps) = p ++ (S ++ TL.joinL S ps) := by
  cases ps with
  | nil => exact absurd rfl h
  | cons q r => rfl
theorem pre_32 {c : Nat} {r : List Nat} : TL.pre [32] (c :: r) = true → c = 32 := fun h => by
  have e : (c :: r).take 1 = [32] := eq_of_beq h
  simpa using e
theorem spl_joinL : ∀ (l acc : List Nat), TL.joinL [32] (TL.spl [32] 0 acc l) = acc ++ l
  | [], acc => by rw [TL.spl_nil]; simp [TL.joinL]
  | c :: r, acc => by
    cases h : TL.pre [32] (c :: r)
    · rw [TL.spl_miss h, spl_joinL r]; simp
    · have e := pre_32 h
      subst e
      rw [TL.spl_hit h, show ([32] : List Nat).length - 1 = 0 from rfl, joinL_two (spl_ne r []), spl_joinL r []]
      rfl
theorem joinL_ge {S : List Nat} : ∀ ps : List (List Nat), (ps.map List.length).sum ≤ (TL.joinL S ps).length
  | [] => Nat.le_refl _
  | [p] => by simp [TL.joinL]
  | p :: q :: r => by
    have := joinL_ge (S := S) (q :: r)
    rw [joinL_two (by simp), List.map_cons, List.sum_cons, List.length_append, List.length_append]
    omega
theorem joinL_many : ∀ ps : List (List Nat), ps.length ≤ (TL.joinL [32] ps).length + 1
  | [] => by simp
  | [p] => by simp
  | p :: q :: r => by
    have := joinL_many (q :: r)
    rw [joinL_two (by simp), List.length_append, List.length_append, List.length_cons]
    simp only [List.length_cons, List.length_nil] at this ⊢
    omega
theorem split_tl (s : Str) : (Txt.split s " ").map TL.tl = TL.spl [32] 0 [] (TL.tl s) := by
  rw [TL.split_spl s " " (by rw [blank_tl]; simp) (TL.kind_ok (by decide +kernel)), blank_tl]
theorem join_split (s : Str) : Txt.join " " (Txt.split s " ") = s := by
  apply TL.ext_tl
  rw [TL.join_eq, TL.tl_join, split_tl, blank_tl, spl_joinL]
  rfl
theorem split_ne (s : Str) : Txt.split s " " ≠ [] := fun e => by
  have := split_tl s
  rw [e] at this
  exact spl_ne _ _ this.symm
/-- the words of a text -/
def wordsOf (s : Str) : List Str := if s = "" then [] else Txt.split s " "
theorem words_many (s : Str) : (wordsOf s).length ≤ s.length + 1 := by
  unfold wordsOf
  split
  · simp
  · have := joinL_many ((Txt.split s " ").map TL.tl)
    rw [split_tl, spl_joinL, ← split_tl, List.length_map, List.nil_append, ← TL.len_tl] at this
    exact this
theorem words_sum (s : Str) : ((wordsOf s).map fun w => (TL.tl w).length).sum ≤ s.length := by
  unfold wordsOf
  split
  · simp
  · have := joinL_ge (S := [32]) ((Txt.split s " ").map TL.tl)
    rw [List.map_map] at this
    rw [split_tl, spl_joinL, List.nil_append, ← TL.len_tl] at this
    exact this
theorem bitsOf_len (w : Str) : (bitsOf w).length = (TL.tl w).length := by unfold bitsOf; rw [List.length_map]
theorem flat_len : ∀ ws : List Str, (ws.flatMap bitsOf).length = (ws.map fun w => (TL.tl w).length).sum
  | [] => rfl
  | w :: ws => by rw [List.flatMap_cons, List.length_append, flat_len ws, bitsOf_len, List.map_cons, List.sum_cons]
theorem flat_take (s : Str) (k : Nat) : (((wordsOf s).take k).flatMap bitsOf).length ≤ s.length := by
  have h := words_sum s
  rw [← flat_len] at h
  have e := congrArg (fun l => (List.flatMap bitsOf l).length) (List.take_append_drop k (wordsOf s))
  simp only [List.flatMap_append, List.length_append] at e
  omega
theorem tens_rows : ∀ rs : List (List Int), (∀ k r, rs[k]? = some r → 0 < r.length ∧ r.length ≤ 10 ∧ (k + 1 < rs.length → r.length = 10)) → tens rs.flatten = rs
  | [], _ => rfl
  | r :: rs, h => by
    have h0 := h 0 r rfl
    have ih := tens_rows rs fun k x hx => by
      have := h (k + 1) x (by rw [List.getElem?_cons_succ]; exact hx)
      exact ⟨this.1, this.2.1, fun hk => this.2.2 (by rw [List.length_cons]; omega)⟩
    have hne : (r :: rs).flatten ≠ [] := fun e => by
      have := congrArg List.length e
      rw [List.flatten_cons, List.length_append, List.length_nil] at this
      omega
    rw [tens_cons hne, List.flatten_cons]
    cases rs with
    | nil =>
      rw [List.flatten_nil, List.append_nil, List.take_of_length_le h0.2.1, List.drop_of_length_le h0.2.1]
      rfl
    | cons r2 rs =>
      have h10 : r.length = 10 := h0.2.2 (by simp)
      rw [← h10, List.take_left, List.drop_left, ih]
theorem rowS_bitsOf {w : Str} (h : ((TL.tl w).all fun c => c == 48 || c == 49) = true) : rowS (bitsOf w) = w ∧ bitL (bitsOf w) := by
  have hc : ∀ c ∈ TL.tl w, c = 48 ∨ c = 49 := fun c hc => by simpa using List.all_eq_true.mp h c hc
  constructor
  · apply TL.ext_tl
    rw [rowS_tl]
    unfold bitsOf
    rw [List.map_map]
    refine (List.map_congr_left fun c hm => ?_).trans (List.map_id _)
    rcases hc c hm with rfl | rfl <;> rfl
  · intro b hb
    unfold bitsOf at hb
    obtain ⟨c, hm, rfl⟩ := List.mem_map.mp hb
    rcases hc c hm with rfl | rfl
    · exact .inl rfl
    · exact .inr rfl
theorem rows_bits {s : Str} (hg : ∀ k w, (wordsOf s)[k]? = some w → goodR (wordsOf s).length k w = true) : ∃ l, bitL l ∧ s = bitsS l := by
  by_cases es : s = ""
  · exact ⟨[], (fun _ h => nomatch h), by rw [bitsS_nil]; exact es⟩
  have hws : wordsOf s = Txt.split s " " := if_neg es
  have hj := join_split s
  rw [← hws] at hj
  generalize wordsOf s = ws at hg hj
  have hr : ∀ w ∈ ws, rowS (bitsOf w) = w ∧ bitL (bitsOf w) := fun w hw => by
    obtain ⟨k, hk, e⟩ := List.mem_iff_getElem.mp hw
    have := hg k w (List.getElem?_eq_some_iff.mpr ⟨hk, e⟩)
    unfold goodR at this
    exact rowS_bitsOf (Bool.and_eq_true_iff.mp this).2
  have ht : tens (ws.map bitsOf).flatten = ws.map bitsOf := by
    refine tens_rows _ fun k r hk => ?_
    rw [List.getElem?_map] at hk
    cases e : ws[k]? with
    | none => rw [e] at hk; cases hk
    | some w =>
      rw [e] at hk
      cases hk
      have := (Bool.and_eq_true_iff.mp (hg k w e)).1
      rw [bitsOf_len, ← TL.len_tl, List.length_map]
      simp only [Bool.or_eq_true, Bool.and_eq_true, decide_eq_true_eq] at this
      omega
  refine ⟨(ws.map bitsOf).flatten, fun b hb => ?_, ?_⟩
  · obtain ⟨r, h1, h2⟩ := List.mem_flatten.mp hb
    obtain ⟨w, hw, rfl⟩ := List.mem_map.mp h1
    exact (hr w hw).2 b h2
  · rw [← bits_text_eq, ht, List.map_map, show ws.map (rowS ∘ bitsOf) = ws from (List.map_congr_left fun w hw => (hr w hw).1).trans (List.map_id _)]
    exact hj.symm
/-- the places of signs that are no blanks -/
def plc : Nat → List Nat → List Nat
  | _, [] => []
  | o, c :: r => if c = 32 then plc (o + 1) r else o :: plc (o + 1) r
/-- the place of bit k -/
def dueP (k : Nat) : Nat := k + k / 10
def offP (k : Nat) : Nat := if k = 0 then 0 else dueP (k - 1) + 1
def sigs : List Nat → List Int
  | [] => []
  | c :: r => if c = 32 then sigs r else (if c = 49 then 1 else 0) :: sigs r
theorem plc_ge : ∀ (o : Nat) (L : List Nat), ∀ x ∈ plc o L, o ≤ x
  | _, [], _, h => nomatch h
  | o, c :: r, x, h => by
    unfold plc at h
    split at h
    · have := plc_ge (o + 1) r x h; omega
    · rcases List.mem_cons.mp h with rfl | h
      · exact Nat.le_refl _
      · have := plc_ge (o + 1) r x h; omega
theorem plc_sgn : ∀ (m k : Nat) (L : List Nat), plc (offP k) L = (List.range' k m).map dueP → offP k + L.length = offP (k + m) → (∀ c ∈ L, c = 32 ∨ c = 48 ∨ c = 49) → L = sgn k (sigs L)
  | 0, k, L, _, hl, _ => by
    rw [Nat.add_zero] at hl
    have : L = [] := List.length_eq_zero_iff.mp (by omega)
    rw [this]; rfl
  | m + 1, k, L, hp, hl, hc => by
    rw [List.range'_succ, List.map_cons] at hp
    have step : ∀ (c : Nat) (L : List Nat), plc (dueP k) (c :: L) = dueP k :: (List.range' (k + 1) m).map dueP → dueP k + (c :: L).length = offP (k + (m + 1)) → (∀ x ∈ c :: L, x = 32 ∨ x = 48 ∨ x = 49) → c ≠ 32 ∧ c :: L = bitC (if c = 49 then 1 else 0) :: sgn (k + 1) (sigs L) := fun c L hp hl hc => by
      have hc0 : c ≠ 32 := fun e => by
        unfold plc at hp
        rw [if_pos e] at hp
        have := plc_ge (dueP k + 1) L (dueP k) (by rw [hp]; exact List.mem_cons_self)
        omega
      have hp : dueP k :: plc (dueP k + 1) L = dueP k :: (List.range' (k + 1) m).map dueP := by
        rw [← hp]; exact (if_neg hc0).symm
      have ih := plc_sgn m (k + 1) L (by
        show plc (if k + 1 = 0 then 0 else dueP (k + 1 - 1) + 1) L = _
        rw [if_neg (by omega), Nat.add_sub_cancel]
        exact (List.cons.inj hp).2) (by
        rw [show k + 1 + m = k + (m + 1) by omega, ← hl]
        show (if k + 1 = 0 then 0 else dueP (k + 1 - 1) + 1) + _ = _
        rw [if_neg (by omega), Nat.add_sub_cancel, List.length_cons]
        omega) fun x hx => hc x (List.mem_cons_of_mem _ hx)
      refine ⟨hc0, ?_⟩
      rw [← ih]
      rcases hc c List.mem_cons_self with e | e | e
      · exact absurd e hc0
      · subst e; rfl
      · subst e; rfl
    have sg : ∀ c L, c ≠ 32 → sigs (c :: L) = (if c = 49 then 1 else 0) :: sigs L := fun c L h => by rw [sigs, if_neg h]
    by_cases hk : 0 < k ∧ k % 10 = 0
    · have ho : offP k + 1 = dueP k := by unfold offP dueP; rw [if_neg (by omega)]; omega
      have hbig : offP (k + (m + 1)) ≥ dueP k + 1 := by unfold offP dueP; rw [if_neg (by omega)]; omega
      match L, hp, hl, hc with
      | [], _, hl, _ => rw [List.length_nil] at hl; omega
      | c :: L1, hp, hl, hc =>
        have e : c = 32 := by
          rcases Classical.em (c = 32) with e | e
          · exact e
          · unfold plc at hp
            rw [if_neg e] at hp
            have := (List.cons.inj hp).1
            omega
        subst e
        have hp : plc (offP k + 1) L1 = dueP k :: (List.range' (k + 1) m).map dueP := by
          rw [← hp]; exact (if_pos rfl).symm
        rw [ho] at hp
        match L1, hp, hl, hc with
        | [], hp, _, _ => cases hp
        | c :: L2, hp, hl, hc =>
          obtain ⟨h1, h2⟩ := step c L2 hp (by rw [← hl]; simp only [List.length_cons]; omega) fun x hx => hc x (List.mem_cons_of_mem _ hx)
          rw [show sigs (32 :: c :: L2) = sigs (c :: L2) from rfl, sg c L2 h1, sgn, if_pos hk, ← h2]
          rfl
    · have ho : offP k = dueP k := by
        unfold offP dueP
        split
        · omega
        · omega
      rw [ho] at hp hl
      match L, hp, hl, hc with
      | [], hp, _, _ => cases hp
      | c :: L2, hp, hl, hc =>
        obtain ⟨h1, h2⟩ := step c L2 hp hl hc
        rw [sg c L2 h1, sgn, if_neg hk, ← h2]
        rfl
theorem sgn_plc : ∀ (l : List Int) (k : Nat), bitL l → plc (offP k) (sgn k l) = (List.range' k l.length).map dueP ∧ offP k + (sgn k l).length = offP (k + l.length) ∧ (∀ c ∈ sgn k l, c = 32 ∨ c = 48 ∨ c = 49) ∧ sigs (sgn k l) = l
  | [], k, _ => ⟨rfl, rfl, (fun _ h => nomatch h), rfl⟩
  | b :: r, k, h => by
    obtain ⟨h1, h2, h3, h4⟩ := sgn_plc r (k + 1) fun x hx => h x (List.mem_cons_of_mem _ hx)
    have hb : bitC b = 48 ∨ bitC b = 49 := by unfold bitC; split <;> simp
    have hb32 : bitC b ≠ 32 := by omega
    have hbs : (if bitC b = 49 then (1 : Int) else 0) = b := by rcases h b List.mem_cons_self with rfl | rfl <;> rfl
    have ho1 : offP (k + 1) = dueP k + 1 := by unfold offP; rw [if_neg (by omega), Nat.add_sub_cancel]
    rw [ho1] at h1 h2
    have e1 : plc (dueP k) (bitC b :: sgn (k + 1) r) = dueP k :: (List.range' (k + 1) r.length).map dueP := by rw [← h1]; exact if_neg hb32
    have e4 : sigs (bitC b :: sgn (k + 1) r) = b :: r := by rw [sigs, if_neg hb32, hbs, h4]
    rw [List.length_cons, List.range'_succ, List.map_cons]
    by_cases hk : 0 < k ∧ k % 10 = 0
    · have ho : offP k + 1 = dueP k := by unfold offP dueP; rw [if_neg (by omega)]; omega
      rw [sgn, if_pos hk]
      refine ⟨?_, ?_, fun c hc => ?_, ?_⟩
      · rw [← e1, ← ho]
        show plc (offP k) (32 :: bitC b :: sgn (k + 1) r) = _
        exact if_pos rfl
      · rw [show k + (r.length + 1) = k + 1 + r.length by omega, ← h2]
        simp only [List.length_append, List.length_cons, List.length_nil]
        omega
      · rcases List.mem_append.mp hc with hc | hc
        · rw [List.mem_singleton.mp hc]; exact .inl rfl
        · rcases List.mem_cons.mp hc with rfl | hc
          · exact .inr hb
          · exact h3 c hc
      · exact e4
    · have ho : offP k = dueP k := by
        unfold offP dueP
        split
        · omega
        · omega
      rw [sgn, if_neg hk, List.nil_append, ho]
      refine ⟨e1, ?_, fun c hc => ?_, e4⟩
      · rw [show k + (r.length + 1) = k + 1 + r.length by omega, ← h2]
        simp only [List.length_cons]
        omega
      · rcases List.mem_cons.mp hc with rfl | hc
        · exact .inr hb
        · exact h3 c hc
/-- a text of bits, by places -/
theorem bits_by_places (s : Str) : (∃ l, bitL l ∧ s = bitsS l) ↔ plc 0 (TL.tl s) = (List.range (plc 0 (TL.tl s)).length).map dueP ∧ (TL.tl s).length = offP (plc 0 (TL.tl s)).length ∧ ∀ c ∈ TL.tl s, c = 32 ∨ c = 48 ∨ c = 49 := by
  constructor
  · rintro ⟨l, hl, rfl⟩
    rw [bitsS_tl]
    obtain ⟨h1, h2, h3, h4⟩ := sgn_plc l 0 hl
    have h1 : plc 0 (sgn 0 l) = (List.range' 0 l.length).map dueP := h1
    have hn : (plc 0 (sgn 0 l)).length = l.length := by rw [h1, List.length_map, List.length_range']
    rw [hn]
    refine ⟨by rw [h1, List.range_eq_range'], ?_, h3⟩
    have h2 : 0 + (sgn 0 l).length = offP (0 + l.length) := h2
    rw [Nat.zero_add, Nat.zero_add] at h2
    exact h2
  · rintro ⟨h1, h2, h3⟩
    refine ⟨sigs (TL.tl s), ?_, ?_⟩
    · have : ∀ L, bitL (sigs L) := fun L => by
        induction L with
        | nil => exact fun _ h => nomatch h
        | cons c r ih =>
          unfold sigs
          split
          · exact ih
          · intro b hb
            rcases List.mem_cons.mp hb with rfl | hb
            · split
              · exact .inr rfl
              · exact .inl rfl
            · exact ih b hb
      exact this _
    · apply TL.ext_tl
      rw [bitsS_tl]
      refine plc_sgn (plc 0 (TL.tl s)).length 0 (TL.tl s) ?_ ?_ h3
      · rw [← List.range_eq_range']; exact h1
      · rw [Nat.zero_add]
        show 0 + _ = _
        rw [Nat.zero_add]; exact h2
theorem plc_len : ∀ (o : Nat) (L : List Nat), (plc o L).length ≤ L.length
  | _, [] => Nat.le_refl _
  | o, c :: r => by
    have := plc_len (o + 1) r
    show (if c = 32 then plc (o + 1) r else o :: plc (o + 1) r).length ≤ _
    split <;> simp only [List.length_cons] <;> omega

-- needs: word_item items_text joins text47
theorem itS_inj {n m : Nat} (hn : n < 260) (hm : m < 260) (e : itS n = itS m) : n = m := by
  by_cases h1 : n < 256
  · by_cases h2 : m < 256
    · rw [itS_num h1, itS_num h2] at e
      have := congrArg TL.tl e
      rw [numS_tl, numS_tl] at this
      exact TL.numL_inj this
    · have := itS_ctl h2 hm
      rw [← e, itS_num h1, numS_ctl] at this; cases this
  · by_cases h2 : m < 256
    · have := itS_ctl h1 hn
      rw [e, itS_num h2, numS_ctl] at this; cases this
    · rcases it_ctl h1 hn with rfl | rfl | rfl | rfl <;> rcases it_ctl h2 hm with rfl | rfl | rfl | rfl <;> first
        | rfl
        | exact absurd e (by decide +kernel)
theorem itS_injL : ∀ {is js : List Nat}, (∀ n ∈ is, n < 260) → (∀ n ∈ js, n < 260) → is.map itS = js.map itS → is = js
  | [], [], _, _, _ => rfl
  | [], _ :: _, _, _, e => by simp at e
  | _ :: _, [], _, _, e => by simp at e
  | a :: is, b :: js, h1, h2, e => by
    rw [List.map_cons, List.map_cons] at e
    injection e with e1 e2
    rw [itS_inj (h1 a List.mem_cons_self) (h2 b List.mem_cons_self) e1, itS_injL (fun n hn => h1 n (List.mem_cons_of_mem _ hn)) (fun n hn => h2 n (List.mem_cons_of_mem _ hn)) e2]
/-- the words of a text are all items -/
def Its (s : Str) (is : List Nat) : Prop := (∀ n ∈ is, n < 260) ∧ wordsOf s = is.map itS
theorem Its.one {s : Str} {is js : List Nat} (h1 : Its s is) (h2 : Its s js) : is = js := itS_injL h1.1 h2.1 (by rw [← h1.2, h2.2])
theorem its_no {s : Str} {w : Str} (hw : w ∈ wordsOf s) (h1 : ctl w = false) (h2 : ∀ n : Nat, n < 256 → w ≠ numS n) : ¬ ∃ is, Its s is := by
  rintro ⟨is, hi, e⟩
  rw [e] at hw
  obtain ⟨n, hn, rfl⟩ := List.mem_map.mp hw
  by_cases h : n < 256
  · exact h2 n h (itS_num h)
  · rw [itS_ctl h (hi n hn)] at h1; cases h1
theorem l_items_read {s : Str} {M : Mh} {Q : QZ} {E : ZX} (hs : s.length ≤ 10000) (h1 : ∀ is, Its s is → Q (.lst (is.map itD)) M) (h2 : (¬ ∃ is, Its s is) → E "BadText" [] M) : z_items_read [.str s] M Q E := by
  show zFn _ zb_items_read _ _ _ _
  unfold zFn zb_items_read
  have hX : ∀ r, (¬ ∃ is, Its s is) → exB true E "BadText" [] r M := fun r h => ⟨M, .refl M, h2 h⟩
  generalize exB true E = XE at *
  walk_at "z"
  by_cases e : s = ""
  · rw [decide_eq_true e]
    walk_at "z"
    refine fun p hp => ?_
    exact i_rtN hp (h1 [] ⟨(fun _ h => nomatch h), by unfold wordsOf; rw [if_pos e]; rfl⟩)
  · have hw : wordsOf s = Txt.split s " " := if_neg e
    have hm := words_many s
    rw [decide_eq_false e]
    walk_at "z"
    refine i_lcX ?_
    walk_at "z"
    refine i_split (by rw [blank_tl]; simp) (by decide +kernel) (by rw [sizeLine_eq]; omega) ?_
    rw [← hw]
    walk_at "z"
    refine zLcL_ind (fun l acc M' => M' = M ∧ ∃ (is : List Nat) (rest : List Str), l = rest.map D.str ∧ acc = is.map itD ∧ is.map itS ++ rest = wordsOf s ∧ ∀ n ∈ is, n < 260) ?_ ?_ ⟨rfl, [], _, rfl, rfl, rfl, fun _ h => nomatch h⟩
    · rintro acc M' ⟨rfl, is, rest, hr, rfl, hj, hi⟩
      have hr : rest = [] := List.map_eq_nil_iff.mp hr.symm
      subst hr
      rw [List.append_nil] at hj
      walk_at "z"
      refine fun p hp => ?_
      exact i_rtN hp (h1 is ⟨hi, hj.symm⟩)
    · rintro d l acc M' q2 ⟨rfl, is, rest, hr, rfl, hj, hi⟩ g1 g2
      cases rest with
      | nil => cases hr
      | cons w rest =>
        obtain ⟨rfl, rfl⟩ : d = .str w ∧ l = rest.map D.str := by injection hr with a b; exact ⟨a, b⟩
        have fin : ∀ n, n < 260 → w = itS n → q2 (some (itD n)) M' := fun n hn hw => g2 _ _ ⟨rfl, is ++ [n], rest, rfl, by rw [List.map_append]; rfl, by rw [← hj, hw, List.map_append, List.append_assoc]; rfl, fun m hm => by
          rcases List.mem_append.mp hm with hm | hm
          · exact hi m hm
          · rw [List.mem_singleton.mp hm]; exact hn⟩
        walk_at "z"
        refine l_word_item (fun hc => ?_) (fun n hn hw => ?_) (fun c1 c2 => ?_)
        · obtain ⟨n, a, b, c⟩ := ctl_of hc
          have := fin n b c
          rw [itD_itS a b, ← c] at this
          exact this
        · have := fin n (by omega) (by rw [itS_num hn]; exact hw)
          rw [itD_int hn] at this
          exact this
        · exact hX _ (its_no (w := w) (by rw [← hj]; simp) c1 c2)

-- needs: bitstext look_bits
theorem numS_sum {r : List Int} (h : bitL r) : ((r.map fun b => numS b.toNat).map (·.length)).sum + (r.map fun b => numS b.toNat).length * ("" : Str).length ≤ r.length := by
  have e : ("" : Str).length = 0 := by decide +kernel
  rw [e, Nat.mul_zero, Nat.add_zero]
  induction r with
  | nil => simp
  | cons b r ih =>
    have := ih fun x hx => h x (List.mem_cons_of_mem _ hx)
    have h1 : (numS b.toNat).length = 1 := by rw [TL.len_tl, bit_numS (h b List.mem_cons_self)]; rfl
    simp only [List.map_cons, List.sum_cons, List.length_cons]
    omega
theorem l_bits_text {l : List Int} {M : Mh} {Q : QZ} {E : ZX} (h : bitL l) (hl : l.length ≤ 100000) (q : Q (.str (bitsS l)) M) : z_bits_text [.lst (l.map D.int)] M Q E := by
  show zFn _ zb_bits_text _ _ _ _
  unfold zFn zb_bits_text
  walk_at "z"
  refine l_look_bits_ok h ?_
  walk_at "z"
  refine fun p hp => ?_
  walk_at "z"
  refine i_range3 ?_
  walk_at "z"
  refine i_onI3 ?_
  have hc := tens_count l.length l (Nat.le_refl _)
  refine ⟨(tens l).length, by rw [hc]; exact rgc_ten (by omega), by rw [hc]; omega, ?_⟩
  refine zLoop_ind (fun rest r M' => ∃ (k : Nat) (x : Option D), k ≤ (tens l).length ∧ rest = rangeD (10 * (k : Nat)) 10 ((tens l).length - k) ∧ r = [some (.lst (l.map D.int)), some (.ref p), x, none] ∧ M' = mup M p (.lst (((tens l).take k).map fun r => .str (rowS r)))) ?_ ?_ ⟨0, none, by omega, rfl, rfl, rfl⟩
  · rintro r M' ⟨k, x, hk, hr, rfl, rfl⟩
    have : k = (tens l).length := by
      cases e : (tens l).length - k with
      | zero => omega
      | succ m => rw [e] at hr; cases hr
    subst this
    rw [List.take_length]
    walk_at "z"
    refine i_joinR (ys := (tens l).map rowS) (by rw [mup_same, List.map_map]; rfl) ?_ ?_
    · have := rows_sum (rs := tens l) fun r hr => (tens_mem l.length l (Nat.le_refl _) r hr).2.1
      rw [List.length_map, show (" " : Str).length = 1 by decide +kernel]
      omega
    · rw [bits_text_eq]
      exact ⟨_, _, .drop (fun a m e => mup_get hp e), q⟩
  · rintro d rest r M' kk ⟨k, x, hk, hr, rfl, rfl⟩ hkk
    cases e : (tens l).length - k with
    | zero => rw [e] at hr; cases hr
    | succ m =>
      rw [e] at hr
      obtain ⟨rfl, rfl⟩ : d = .int (10 * (k : Nat)) ∧ rest = rangeD (10 * (k : Nat) + 10) 10 m := by injection hr with h1 h2; exact ⟨h1, h2⟩
      have hk10 : 10 * k < l.length := by omega
      have hb : bitL ((l.drop (10 * k)).take 10) := bitL_take (bitL_drop h _) _
      walk_at "y"
      rw [show (10 * (k : Nat) : Int) + 10 = ((10 * k + 10 : Nat) : Int) by omega, show (10 * (k : Nat) : Int) = ((10 * k : Nat) : Int) by omega, cutD_mid, show 10 * k + 10 - 10 * k = 10 by omega, ← List.map_drop, ← List.map_take]
      refine zLcL_mapm (g := fun b : Int => .str (numS b.toNat)) (fun b hb' Q hq => ?_) ?_
      · have := hb b hb'
        walk_at "z"
        exact i_strI (by omega) (by omega) hq
      walk_at "y"
      refine i_joinE (ys := ((l.drop (10 * k)).take 10).map fun b => numS b.toNat) (by simp [Function.comp_def]) (by
        have := numS_sum hb
        rw [List.length_take] at this
        omega) ?_
      rw [row_text hb]
      walk_at "z"
      refine i_app mup_same (by rw [List.length_map, List.length_take, sizeLine_eq]; omega) ?_
      walk_at "z"
      rw [mup_mup]
      refine hkk _ _ ⟨k + 1, _, by omega, ?_, rfl, ?_⟩
      · rw [show (tens l).length - (k + 1) = m by omega]
        congr 1
      · rw [tens_take hk10, List.map_append]; rfl

theorem l__law_draw {t : Addr} {n : Int} {M : Mh} {Q : QZ} {E : ZX} (ht : M t = some .town) (h0 : 0 < n) (h1 : n < 1073741824) (q : ∀ k, 0 ≤ k → k < n → Q (.int k) M) : z__law_draw [.ref t, .int n] M Q E := ⟨ht, h0, h1, q⟩

theorem l__law_pick {t : Addr} {ds : List D} {M : Mh} {Q : QZ} {E : ZX} (ht : M t = some .town) (h0 : ds ≠ []) (h1 : ds.length < 1073741824) (q : ∀ d, d ∈ ds → Q d M) : z__law_pick [.ref t, .lst ds] M Q E := by
  have lp : 0 < ds.length := List.length_pos_iff.mpr h0
  show zFn false zb__law_pick _ _ _ _
  unfold zFn zb__law_pick
  walk_at "z"
  refine l__law_draw ht (by omega) (by omega) fun k hk hk2 => ?_
  obtain ⟨j, rfl⟩ : ∃ j : Nat, k = j := ⟨k.toNat, by omega⟩
  have hj : j < ds.length := by omega
  refine i_ixL (atI_nat (List.getElem?_eq_getElem hj)) ?_
  walk_at "z"
  exact q _ (List.getElem_mem hj)

theorem i_countL {M : Mh} {Q : QZ} {y : D} {l : List D} (h1 : flatD y = true) (h2 : l.all flatD = true) (q : Q (.int (cntD y l : Nat)) M) : dCount (.lst l) [y] M Q := ⟨h1, h2, q⟩
/-- the word of a refusal -/
theorem l__law_refusal {c w : Str} {M : Mh} {Q : QZ} {E : ZX} (h : (c, w) ∈ ([("BadBits", "bits"), ("BadWord", "word"), ("BadItem", "item"), ("BadPoise", "poise"), ("BadRow", "row"), ("BadLane", "lane"), ("BadPool", "pool"), ("Over", "over"), ("Dry", "dry"), ("BadText", "text")] : List (Str × Str))) (hc : decide (c ∈ c_raised) = true) (q : Q (.str w) M) : z__law_refusal [.exc c] M Q E := by
  simp only [List.mem_cons, List.not_mem_nil, or_false, Prod.mk.injEq] at h
  rcases h with ⟨rfl, rfl⟩ | ⟨rfl, rfl⟩ | ⟨rfl, rfl⟩ | ⟨rfl, rfl⟩ | ⟨rfl, rfl⟩ | ⟨rfl, rfl⟩ | ⟨rfl, rfl⟩ | ⟨rfl, rfl⟩ | ⟨rfl, rfl⟩ | ⟨rfl, rfl⟩ <;> first
    | exact absurd hc (by decide)
    | (show zFn _ zb__law_refusal _ _ _ _
       unfold zFn zb__law_refusal
       walk_at "y"
       refine i_countL rfl rfl ?_
       walk_at "y"
       refine i_idx rfl rfl (by rfl) ?_
       walk_at "y"
       exact q)

theorem l__law_ten {w : Int} {M : Mh} {Q : QZ} {E : ZX} (q : Q (.lst ((ten w).map D.int)) M) : z__law_ten [.int w] M Q E := by
  show zFn false zb__law_ten _ _ _ _
  unfold zFn zb__law_ten
  walk_at "z"
  refine zLcL_mapm (as := [512, 256, 128, 64, 32, 16, 8, 4, 2, 1]) (f := D.int) (g := fun b => .int (w / b % 2)) (fun i hi Q hq => ?_) ?_
  · have hc : CDiv w i := by
      have : ∀ i ∈ ([512, 256, 128, 64, 32, 16, 8, 4, 2, 1] : List Int), 0 < i ∧ i < 1073741824 := by decide
      exact this i hi
    walk_at "z"
    refine i_div hc ?_
    walk_at "z"
    exact hq
  · walk_at "z"
    exact q

theorem rep_flat (x : D) (n : Nat) : (List.replicate n [x]).flatten = List.replicate n x := by
  induction n with
  | zero => rfl
  | succ n ih => rw [List.replicate_succ, List.flatten_cons, ih]; rfl

-- needs: repflat
theorem bitL_lit {ns : List Int} (h : ns.all (fun n => n == 0 || n == 1) = true) : bitL ns := fun n hn => by
  have := List.all_eq_true.mp h n hn
  simpa using this
theorem l__law_some_bits {t : Addr} {most : Nat} {M : Mh} {Q : QZ} {E : ZX} (ht : M t = some .town) (hm : most ≤ 1000) (q : ∀ ns, bitL ns → ns.length ≤ most → Q (.lst (ns.map D.int)) M) : z__law_some_bits [.ref t, .int most] M Q E := by
  show zFn false zb__law_some_bits _ _ _ _
  unfold zFn zb__law_some_bits
  walk_at "z"
  refine l__law_draw ht (by omega) (by omega) fun m hm0 hm1 => ?_
  walk_at "z"
  obtain ⟨m, rfl⟩ : ∃ j : Nat, m = j := ⟨m.toNat, by omega⟩
  refine zWhile_ind (fun n r M' => M' = M ∧ ∃ (ns : List Int) (x : Option D), r = [some (.ref t), some (.int most), some (.lst (ns.map D.int)), some (.int m), x] ∧ bitL ns ∧ n = m - ns.length) ?_ m ⟨rfl, [], _, rfl, (fun _ h => nomatch h), rfl⟩
  rintro n r M' k ⟨rfl, ns, x, rfl, hb, rfl⟩ hk
  walk_at "z"
  refine i_bd (fun hlt => ?_) (fun hlt => ?_)
  · have more : ∀ (ms : List Int) (y : Option D), bitL ms → ms ≠ [] → k [some (.ref t), some (.int most), some (.lst (ns.map D.int ++ ms.map D.int)), some (.int m), y] M' := by
      intro ms y hb2 hne
      have : 0 < ms.length := List.length_pos_iff.mpr hne
      refine hk (m - (ns ++ ms).length) _ _ (by rw [List.length_append]; omega) ⟨rfl, ns ++ ms, _, by rw [List.map_append], bitL_app hb hb2, rfl⟩
    have sz : ∀ (ms : List Int), ms.length ≤ 10 → (ns.map D.int).length + (ms.map D.int).length ≤ sizeLine := by
      intro ms h; rw [List.length_map, List.length_map]; show _ ≤ 2 ^ 24; omega
    walk_at "z"
    refine l__law_draw ht (by decide) (by decide) fun kd hk0 hk1 => ?_
    walk_at "z"
    refine i_bd (fun h => ?_) (fun h => ?_)
    · walk_at "z"
      refine l__law_pick ht (by simp) (by show 2 < _; decide) fun d hd => ?_
      obtain ⟨ms, rfl, h1, h2, h3⟩ : ∃ ms : List Int, d = .lst (ms.map D.int) ∧ bitL ms ∧ ms ≠ [] ∧ ms.length ≤ 10 := by
        simp only [List.mem_cons, List.not_mem_nil, or_false] at hd
        rcases hd with e | e
        · exact ⟨[0, 0, 1, 1, 1, 1, 1], e, bitL_lit rfl, by simp, by decide⟩
        · exact ⟨[1, 1, 0, 0, 0, 0, 0], e, bitL_lit rfl, by simp, by decide⟩
      refine i_addL (sz ms h3) ?_
      walk_at "z"
      exact more ms _ h1 h2
    · walk_at "z"
      refine i_bd (fun h => ?_) (fun h => ?_)
      · walk_at "z"
        refine l__law_draw ht (by decide) (by decide) fun b hb0 hb1 => ?_
        walk_at "z"
        refine l__law_draw ht (by decide) (by decide) fun j hj0 hj1 => ?_
        walk_at "z"
        refine i_mulL (by omega) (by omega) (by show 1 * _ ≤ 2 ^ 24; omega) ?_
        rw [rep_flat, show List.replicate (1 + j).toNat (D.int b) = (List.replicate (1 + j).toNat b).map D.int by rw [List.map_replicate]]
        walk_at "z"
        refine i_addL (sz _ (by rw [List.length_replicate]; omega)) ?_
        walk_at "z"
        refine more _ _ (fun n hn => ?_) (fun z => ?_)
        · rw [List.eq_of_mem_replicate hn]; omega
        · have := congrArg List.length z
          rw [List.length_replicate] at this
          simp only [List.length_nil] at this; omega
      · walk_at "z"
        refine i_bd (fun h => ?_) (fun h => ?_)
        · walk_at "z"
          refine l__law_pick ht (by simp) (by show 6 < _; decide) fun d hd => ?_
          obtain ⟨w, rfl⟩ : ∃ w : Int, d = .int w := by
            simp only [List.mem_cons, List.not_mem_nil, or_false] at hd
            rcases hd with e | e | e | e | e | e <;> exact ⟨_, e⟩
          walk_at "z"
          refine l__law_ten ?_
          walk_at "z"
          refine i_addL (sz _ (by rw [ten_len]; decide)) ?_
          walk_at "z"
          exact more _ _ (ten_bits w) (by simp [ten])
        · walk_at "z"
          refine l__law_draw ht (by decide) (by decide) fun w hw0 hw1 => ?_
          walk_at "z"
          refine l__law_ten ?_
          walk_at "z"
          refine l__law_draw ht (by decide) (by decide) fun j hj0 hj1 => ?_
          walk_at "z"
          obtain ⟨j, rfl⟩ : ∃ i : Nat, j = i := ⟨j.toNat, by omega⟩
          rw [cutD_from, ← List.map_drop]
          refine i_addL (sz _ (by rw [List.length_drop, ten_len]; omega)) ?_
          walk_at "z"
          refine more _ _ (bitL_drop (ten_bits w) j) (fun z => ?_)
          have := congrArg List.length z
          rw [List.length_drop, ten_len] at this
          simp only [List.length_nil] at this; omega
  · walk_at "z"
    rw [cutD_to, ← List.map_take]
    exact q _ (bitL_take hb m) (by rw [List.length_take]; omega)

theorem l__law_byte {t : Addr} {M : Mh} {Q : QZ} {E : ZX} (ht : M t = some .town) (q : ∀ n : Nat, n < 256 → Q (.int n) M) : z__law_byte [.ref t] M Q E := by
  show zFn false zb__law_byte _ _ _ _
  unfold zFn zb__law_byte
  walk_at "z"
  refine l__law_draw ht (by decide) (by decide) fun k hk hk2 => ?_
  walk_at "z"
  refine i_bd (fun e => ?_) (fun e => ?_)
  · walk_at "z"
    refine l__law_pick ht (by simp) (by show 8 < _; decide) fun d hd => ?_
    simp only [List.mem_cons, List.not_mem_nil, or_false] at hd
    rcases hd with e | e | e | e | e | e | e | e <;> subst e
    · exact q 0 (by decide)
    · exact q 1 (by decide)
    · exact q 178 (by decide)
    · exact q 179 (by decide)
    · exact q 180 (by decide)
    · exact q 181 (by decide)
    · exact q 254 (by decide)
    · exact q 255 (by decide)
  · walk_at "z"
    refine i_bd (fun h => ?_) (fun h => ?_)
    · walk_at "z"
      refine l__law_draw ht (by decide) (by decide) fun k hk hk2 => ?_
      walk_at "z"
      have := q (180 + k.toNat) (by omega)
      rw [show ((180 + k.toNat : Nat) : Int) = 180 + k by omega] at this; exact this
    · walk_at "z"
      refine l__law_draw ht (by decide) (by decide) fun k hk hk2 => ?_
      walk_at "z"
      have := q k.toNat (by omega)
      rw [show ((k.toNat : Nat) : Int) = k by omega] at this; exact this

-- needs: items
theorem l__law_item {t : Addr} {M : Mh} {Q : QZ} {E : ZX} (ht : M t = some .town) (q : ∀ n : Nat, n < 260 → Q (itD n) M) : z__law_item [.ref t] M Q E := by
  show zFn false zb__law_item _ _ _ _
  unfold zFn zb__law_item
  walk_at "z"
  refine l__law_draw ht (by decide) (by decide) fun k hk hk2 => ?_
  walk_at "z"
  refine i_bd (fun e => ?_) (fun e => ?_)
  · walk_at "z"
    refine l__law_pick ht (by simp) (by show 4 < _; decide) fun d hd => ?_
    simp only [List.mem_cons, List.not_mem_nil, or_false] at hd
    rcases hd with e | e | e | e <;> subst e
    · exact q 256 (by decide)
    · exact q 257 (by decide)
    · exact q 258 (by decide)
    · exact q 259 (by decide)
  · walk_at "z"
    refine l__law_byte ht fun n hn => ?_
    have := q n (by omega)
    rw [itD_int hn] at this; exact this

-- needs: items
theorem l__law_items {t : Addr} {most : Nat} {M : Mh} {Q : QZ} {E : ZX} (ht : M t = some .town) (hm : most ≤ 1000) (q : ∀ is : List Nat, (∀ n ∈ is, n < 260) → is.length ≤ most → Q (.lst (is.map itD)) M) : z__law_items [.ref t, .int most] M Q E := by
  show zFn false zb__law_items _ _ _ _
  unfold zFn zb__law_items
  walk_at "z"
  refine l__law_draw ht (by omega) (by omega) fun k hk hk2 => ?_
  walk_at "z"
  refine zLcL_ind (fun l acc M' => M' = M ∧ ∃ is : List Nat, acc = is.map itD ∧ (∀ n ∈ is, n < 260) ∧ is.length + l.length ≤ most) ?_ ?_ ⟨rfl, [], rfl, (fun _ h => nomatch h), ?_⟩
  · rintro acc M' ⟨rfl, is, rfl, h, hl⟩
    walk_at "z"
    exact q is h (by simpa using hl)
  · rintro d l acc M' q2 ⟨rfl, is, rfl, h, hl⟩ h1 h2
    walk_at "z"
    refine l__law_item ht fun n hn => ?_
    refine h2 _ _ ⟨rfl, is ++ [n], by rw [List.map_append]; rfl, fun m hm => ?_, by rw [List.length_append]; rw [List.length_cons] at hl; simp only [List.length_cons, List.length_nil]; omega⟩
    rcases List.mem_append.mp hm with e | e
    · exact h m e
    · rw [List.mem_singleton.mp e]; exact hn
  · rw [rangeD_len]; simp only [List.length_nil]; omega

-- needs: items_read bits_read items_text bits_text _law_refusal text47
/-- items of a text, asked -/
theorem l__law_asked0 {s : Str} {M : Mh} {Q : QZ} {E : ZX} (hs : s.length ≤ 10000) (h1 : ∀ is, Its s is → Q (.lst (is.map itD)) M) (h2 : (¬ ∃ is, Its s is) → Q (.str "text") M) : z__law_asked [.int 0, .str s] M Q E := by
  show zFn _ zb__law_asked _ _ _ _
  unfold zFn zb__law_asked
  walk_at "y"
  refine l_items_read hs (fun is hi => ?_) (fun hn => ?_)
  · walk_at "y"
    exact h1 is hi
  · refine i_tryx rfl rfl ?_
    walk_at "y"
    refine l__law_refusal (w := "text") (by simp) (by decide) ?_
    walk_at "y"
    exact h2 hn
theorem l__law_asked1 {s : Str} {M : Mh} {Q : QZ} {E : ZX} (hs : s.length ≤ 10000) (h1 : ∀ l, bitL l → s = bitsS l → Q (.lst (l.map D.int)) M) (h2 : (¬ ∃ l, bitL l ∧ s = bitsS l) → Q (.str "text") M) : z__law_asked [.int 1, .str s] M Q E := by
  show zFn _ zb__law_asked _ _ _ _
  unfold zFn zb__law_asked
  walk_at "y"
  by_cases h : ∃ l, bitL l ∧ s = bitsS l
  · obtain ⟨l, hl, e⟩ := h
    have hq := h1 l hl e
    have h4 := sgn_plc l 0 hl
    subst e
    refine l_bits_read_fz hl ?_ ?_
    · have e := congrArg List.length h4.2.2.2
      have e1 := congrArg List.length h4.1
      rw [List.length_map, List.length_range'] at e1
      have := plc_len (offP 0) (sgn 0 l)
      rw [TL.len_tl, bitsS_tl] at hs
      omega
    walk_at "y"
    exact hq
  · refine l_bits_read (ws := wordsOf s) (by rw [sizeLine_eq]; omega) rfl (fun k => ?_) (fun hg => absurd (rows_bits hg) h) (fun _ => ?_)
    · have := flat_take s k
      omega
    · refine i_tryx rfl rfl ?_
      walk_at "y"
      refine l__law_refusal (w := "text") (by simp) (by decide) ?_
      walk_at "y"
      exact h2 h
/-- things that are no texts, no items, no bits -/
def odd47 : List D := [.non, .int 5, .lst [.str "5"], .bl true, .dct, .tup [.int 1]]
theorem l__law_asked_odd0 {d : D} {M : Mh} {Q : QZ} {E : ZX} (hd : d ∈ odd47) (q : Q (.str "text") M) : z__law_asked [.int 0, d] M Q E := by
  unfold odd47 at hd
  simp only [List.mem_cons, List.not_mem_nil, or_false] at hd
  rcases hd with rfl | rfl | rfl | rfl | rfl | rfl <;>
   (show zFn _ zb__law_asked _ _ _ _
    unfold zFn zb__law_asked
    walk_at "y"
    show zFn _ zb_items_read _ _ _ _
    unfold zFn zb_items_read
    walk_at "y"
    refine l__law_refusal (w := "text") (by simp) (by decide) ?_
    walk_at "y"
    exact q)
theorem l__law_asked_odd1 {d : D} {M : Mh} {Q : QZ} {E : ZX} (hd : d ∈ odd47) (q : Q (.str "text") M) : z__law_asked [.int 1, d] M Q E := by
  unfold odd47 at hd
  simp only [List.mem_cons, List.not_mem_nil, or_false] at hd
  rcases hd with rfl | rfl | rfl | rfl | rfl | rfl <;>
   (show zFn _ zb__law_asked _ _ _ _
    unfold zFn zb__law_asked
    walk_at "y"
    show zFn _ zb_bits_read _ _ _ _
    unfold zFn zb_bits_read
    walk_at "y"
    refine l__law_refusal (w := "text") (by simp) (by decide) ?_
    walk_at "y"
    exact q)
theorem l__law_asked2 {d : D} {M : Mh} {Q : QZ} {E : ZX} (hd : badItems M d) (q : Q (.str "item") M) : z__law_asked [.int 2, d] M Q E := by
  show zFn _ zb__law_asked _ _ _ _
  unfold zFn zb__law_asked
  walk_at "y"
  show zFn _ zb_items_text _ _ _ _
  unfold zFn zb_items_text
  walk_at "y"
  refine l_look_items_bad hd ?_
  refine i_tryx rfl rfl ?_
  walk_at "y"
  refine l__law_refusal (w := "item") (by simp) (by decide) ?_
  walk_at "y"
  exact q
theorem l__law_asked3 {d : D} {M : Mh} {Q : QZ} {E : ZX} (hd : badBits M d) (q : Q (.str "bits") M) : z__law_asked [.int 3, d] M Q E := by
  show zFn _ zb__law_asked _ _ _ _
  unfold zFn zb__law_asked
  walk_at "y"
  show zFn _ zb_bits_text _ _ _ _
  unfold zFn zb_bits_text
  walk_at "y"
  refine l_look_bits_bad hd ?_
  refine ⟨M, .refl M, ?_⟩
  refine i_tryx rfl rfl ?_
  walk_at "y"
  refine l__law_refusal (w := "bits") (by simp) (by decide) ?_
  walk_at "y"
  exact q
theorem odd_items {M : Mh} {d : D} (hd : d ∈ odd47) : badItems M d := by
  unfold odd47 at hd
  simp only [List.mem_cons, List.not_mem_nil, or_false] at hd
  rcases hd with rfl | rfl | rfl | rfl | rfl | rfl
  · exact badItems_of rfl (by simp) (by simp)
  · exact badItems_of rfl (by simp) (by simp)
  · refine ⟨known_lst _, (fun ds e => by cases e; intro x hx; rw [List.mem_singleton.mp hx]; exact ⟨_, rfl⟩), by simp, fun ds e => by cases e; decide +kernel⟩
  · exact badItems_of rfl (by simp) (by simp)
  · exact badItems_of rfl (by simp) (by simp)
  · exact badItems_of rfl (by simp) (by simp)
theorem odd_bits {M : Mh} {d : D} (hd : d ∈ odd47) : badBits M d := by
  unfold odd47 at hd
  simp only [List.mem_cons, List.not_mem_nil, or_false] at hd
  rcases hd with rfl | rfl | rfl | rfl | rfl | rfl
  · exact badBits_of rfl (by simp) (by simp)
  · exact badBits_of rfl (by simp) (by simp)
  · refine ⟨known_lst _, (fun ds e => by cases e; intro x hx; rw [List.mem_singleton.mp hx]; exact ⟨_, rfl⟩), by simp, rfl⟩
  · exact badBits_of rfl (by simp) (by simp)
  · exact badBits_of rfl (by simp) (by simp)
  · exact badBits_of rfl (by simp) (by simp)

-- needs: items_read
theorem num_one {n : Nat} (hn : n < 256) : (List.range 256).filter (fun k => decide (numS k = numS n)) = [n] := by
  have : (List.range 256).filter (fun k => decide (numS k = numS n)) = (List.range 256).filter (fun k => k == n) := by
    refine List.filter_congr fun k _ => ?_
    by_cases e : k = n
    · subst e; simp
    · have : ¬ numS k = numS n := fun h => e (by
        have := congrArg TL.tl h
        rw [numS_tl, numS_tl] at this
        exact TL.numL_inj this)
      rw [decide_eq_false this]
      exact (beq_eq_false_iff_ne.mpr e).symm
  rw [this, List.filter_beq, (by decide +kernel : ∀ n : Nat, n < 256 → (List.range 256).count n = 1) n hn]
  rfl
theorem num_none {w : Str} (h : ∀ n : Nat, n < 256 → w ≠ numS n) : (List.range 256).filter (fun k => decide (numS k = w)) = [] :=
  List.filter_eq_nil_iff.mpr fun k hk e => h k (List.mem_range.mp hk) (of_decide_eq_true e).symm
theorem ctl_none {w : Str} (h : ctl w = false) : ([.str "begin", .str "end", .str "rest", .str "skip"] : List D).filter (fun d => eqD d (.str w)) = [] := by
  unfold ctl inD at h
  simp only [List.any_cons, List.any_nil, Bool.or_false, eqD_str, Bool.or_eq_false_iff, decide_eq_false_iff_not] at h
  obtain ⟨a, b, c, d⟩ := h
  have a : (("begin" : Str) == w) = false := beq_eq_false_iff_ne.mpr fun e => a e.symm
  simp only [List.filter_cons, eqD_str, a, b, c, d, List.filter_nil]
  rfl
theorem ctl_one {w : Str} (h : ctl w = true) : ([.str "begin", .str "end", .str "rest", .str "skip"] : List D).filter (fun d => eqD d (.str w)) = [.str w] := by
  obtain ⟨n, h1, h2, rfl⟩ := ctl_of h
  rcases it_ctl h1 h2 with rfl | rfl | rfl | rfl <;> rfl
theorem l__law_items_due {s : Str} {M : Mh} {Q : QZ} {E : ZX} (hs : s.length ≤ 10000) (h1 : ∀ is, Its s is → Q (.lst (is.map itD)) M) (h2 : (¬ ∃ is, Its s is) → Q .non M) : z__law_items_due [.str s] M Q E := by
  show zFn _ zb__law_items_due _ _ _ _
  unfold zFn zb__law_items_due
  walk_at "z"
  by_cases e : s = ""
  · rw [decide_eq_true e]
    walk_at "z"
    exact i_rtG (h1 [] ⟨(fun _ h => nomatch h), by unfold wordsOf; rw [if_pos e]; rfl⟩)
  · have hw : wordsOf s = Txt.split s " " := if_neg e
    have hm := words_many s
    rw [decide_eq_false e]
    walk_at "z"
    refine fun p hp => ?_
    walk_at "z"
    refine i_split (by rw [blank_tl]; simp) (by decide +kernel) (by rw [sizeLine_eq]; omega) ?_
    rw [← hw]
    walk_at "z"
    refine zLoop_ind (fun l r M' => ∃ (is : List Nat) (rest : List Str) (x y : Option D), l = rest.map D.str ∧ M' = mup M p (.lst (is.map itD)) ∧ is.map itS ++ rest = wordsOf s ∧ (∀ n ∈ is, n < 260) ∧ r = [some (.str s), some (.ref p), x, y, none, none]) ?_ ?_ ⟨[], _, none, none, rfl, rfl, rfl, (fun _ h => nomatch h), rfl⟩
    · rintro r M' ⟨is, rest, x, y, hr, rfl, hj, hi, rfl⟩
      have hr : rest = [] := List.map_eq_nil_iff.mp hr.symm
      subst hr
      rw [List.append_nil] at hj
      walk_at "z"
      exact i_rtN hp (h1 is ⟨hi, hj.symm⟩)
    · rintro d l r M' kk ⟨is, rest, x, y, hr, rfl, hj, hi, rfl⟩ hk
      cases rest with
      | nil => cases hr
      | cons w rest =>
        obtain ⟨rfl, rfl⟩ : d = .str w ∧ l = rest.map D.str := by injection hr with a b; exact ⟨a, b⟩
        have hjl := congrArg List.length hj
        rw [List.length_append, List.length_map, List.length_cons] at hjl
        have hl : ∀ m, ((List.range 256).filter m).length ≤ 256 := fun m => by
          have := List.length_filter_le m (List.range 256)
          rw [List.length_range] at this; exact this
        have hl2 : ∀ m, (([.str "begin", .str "end", .str "rest", .str "skip"] : List D).filter m).length ≤ 4 := fun m => List.length_filter_le m _
        have fin : ∀ n y, n < 260 → w = itS n → kk [some (.str s), some (.ref p), some (.str w), y, none, none] (mup (mup M p (.lst (is.map itD))) p (.lst (is.map itD ++ [itD n]))) := fun n y hn hw => by
          rw [mup_mup]
          exact hk _ _ ⟨is ++ [n], rest, _, _, rfl, by rw [List.map_append]; rfl, by rw [← hj, hw, List.map_append, List.append_assoc]; rfl, (fun m hm => by
            rcases List.mem_append.mp hm with hm | hm
            · exact hi m hm
            · rw [List.mem_singleton.mp hm]; exact hn), rfl⟩
        walk_at "z"
        rw [rangeD_mapI]
        refine zLcL_filterm (as := List.range 256) (p := fun k => decide (numS k = w)) (g := fun k => .int (k : Nat)) (fun k hk Q g1 g2 => ?_) ?_
        · have := List.mem_range.mp hk
          walk_at "z"
          refine i_strI (by omega) (by omega) ?_
          walk_at "z"
          rw [Int.toNat_natCast]
          refine i_b (fun e => ?_) (fun e => ?_)
          · walk_at "z"; exact g1 e
          · walk_at "z"; exact g2 e
        walk_at "z"
        refine zLcL_filter (fun d => eqD d (.str w)) id (fun d hd Q g1 g2 => ?_) ?_
        · walk_at "z"
          have : ∃ u : Str, d = .str u := by
            simp only [List.mem_cons, List.not_mem_nil, or_false] at hd
            rcases hd with rfl | rfl | rfl | rfl <;> exact ⟨_, rfl⟩
          obtain ⟨u, rfl⟩ := this
          refine i_eq (.str _ _) (.str _ _) ?_
          walk_at "z"
          refine i_b (fun e => ?_) (fun e => ?_)
          · walk_at "z"; exact g1 e
          · walk_at "z"; exact g2 e
        have big : is.length < sizeLine := by rw [sizeLine_eq]; omega
        by_cases hn : ∃ n : Nat, n < 256 ∧ w = numS n
        · obtain ⟨n, hn, e⟩ := hn
          rw [e, num_one hn, ctl_none (numS_ctl n), ← e]
          walk_at "z"
          refine i_addL (by rw [sizeLine_eq]; simp) ?_
          walk_at "z"
          refine i_eq (.lflat rfl) (.lflat rfl) ?_
          walk_at "z"
          refine i_app mup_same (by rw [List.length_map]; exact big) ?_
          walk_at "z"
          have := fin n (some (.lst [.int (n : Nat)])) (by omega) (by rw [itS_num hn]; exact e)
          rw [itD_int hn] at this
          exact this
        · have hn : ∀ n : Nat, n < 256 → w ≠ numS n := fun n h e => hn ⟨n, h, e⟩
          rw [num_none hn]
          cases hc : ctl w
          · rw [ctl_none hc]
            walk_at "z"
            refine i_addL (by rw [sizeLine_eq]; simp) ?_
            walk_at "z"
            refine i_eq (.lflat rfl) (.lflat rfl) ?_
            walk_at "z"
            exact ⟨_, _, .drop (fun a m e => mup_get hp e), h2 (its_no (w := w) (by rw [← hj]; simp) hc hn)⟩
          · rw [ctl_one hc]
            walk_at "z"
            refine i_addL (by rw [sizeLine_eq]; simp) ?_
            walk_at "z"
            refine i_eq (.lflat rfl) (.lflat rfl) ?_
            walk_at "z"
            refine i_app mup_same (by rw [List.length_map]; exact big) ?_
            walk_at "z"
            obtain ⟨n, a, b, c⟩ := ctl_of hc
            have := fin n (some (.lst [.str w])) b c
            rw [itD_itS a b, ← c] at this
            exact this

-- needs: text47
theorem eqDs_ints : ∀ (ns ms : List Int), eqDs (ns.map D.int) (ms.map D.int) = decide (ns = ms)
  | [], [] => rfl
  | [], _ :: _ => rfl
  | _ :: _, [] => rfl
  | a :: ns, b :: ms => by
    rw [List.map_cons, List.map_cons, eqDs_cons, eqDs_ints ns ms, eqD_int]
    by_cases h : a = b
    · subst h
      by_cases h2 : ns = ms
      · subst h2; simp
      · simp [h2]
    · simp [h]
theorem plc_lt : ∀ (o : Nat) (L : List Nat), ∀ x ∈ plc o L, x < o + L.length
  | _, [], _, h => nomatch h
  | o, c :: r, x, h => by
    have h : x ∈ (if c = 32 then plc (o + 1) r else o :: plc (o + 1) r) := h
    rw [List.length_cons]
    split at h
    · have := plc_lt (o + 1) r x h; omega
    · rcases List.mem_cons.mp h with rfl | h
      · omega
      · have := plc_lt (o + 1) r x h; omega
theorem plc_sigs : ∀ (o : Nat) (L : List Nat), (plc o L).map (fun k => if L[k - o]? = some 49 then (1 : Int) else 0) = sigs L
  | _, [] => rfl
  | o, c :: r => by
    have ih := plc_sigs (o + 1) r
    have e : (plc (o + 1) r).map (fun k => if (c :: r)[k - o]? = some 49 then (1 : Int) else 0) = sigs r := by
      rw [← ih]
      refine List.map_congr_left fun k hk => ?_
      have := plc_ge (o + 1) r k hk
      rw [show k - o = (k - (o + 1)) + 1 by omega, List.getElem?_cons_succ]
    show (if c = 32 then plc (o + 1) r else o :: plc (o + 1) r).map _ = (if c = 32 then sigs r else (if c = 49 then 1 else 0) :: sigs r)
    by_cases h : c = 32
    · rw [if_pos h, if_pos h]; exact e
    · rw [if_neg h, if_neg h, List.map_cons, e, Nat.sub_self]
      simp
theorem last_off (n : Nat) : (((0 - 1 : Int) :: (List.range n).map fun k => ((dueP k : Nat) : Int)).getLastD 0) + 1 = (offP n : Nat) := by
  cases n with
  | zero => rfl
  | succ n =>
    rw [List.range_succ, List.map_append, ← List.cons_append]
    show (((_ : List Int) ++ [((dueP n : Nat) : Int)]).getLastD 0) + 1 = _
    rw [show ∀ (l : List Int) (x : Int), (l ++ [x]).getLastD 0 = x from fun l x => by simp]
    unfold offP
    rw [if_neg (by omega), Nat.add_sub_cancel]
    omega
theorem ch_32 (c : Nat) : ((⟨#[c]⟩ : Str) = " ") ↔ c = 32 := by
  constructor
  · intro e
    have := congrArg TL.tl e
    rw [blank_tl] at this
    exact (List.cons.inj (show [c] = [32] from this)).1
  · rintro rfl; rfl
theorem ch_49 (c : Nat) : ((⟨#[c]⟩ : Str) = "1") ↔ c = 49 := by
  constructor
  · intro e
    have := congrArg TL.tl e
    rw [show TL.tl ("1" : Str) = [49] by decide +kernel] at this
    exact (List.cons.inj (show [c] = [49] from this)).1
  · rintro rfl; rfl
theorem in_3 (c : Nat) : (c ∈ (("01 " : Str).cps.toList : List Nat)) ↔ (c = 32 ∨ c = 48 ∨ c = 49) := by
  rw [show ("01 " : Str).cps.toList = [48, 49, 32] by decide +kernel]
  simp only [List.mem_cons, List.not_mem_nil, or_false]
  omega
theorem i_inC2 {M : Mh} {Q : QZ} {c : Nat} {z : Str} (q : Q (.bl (!decide (c ∈ z.cps.toList))) M) : dIn true (.str ⟨#[c]⟩) (.str z) M Q := q
theorem l__law_bits_due {s : Str} {M : Mh} {Q : QZ} {E : ZX} (hs : s.length ≤ 10000) (h1 : ∀ l, bitL l → s = bitsS l → Q (.lst (l.map D.int)) M) (h2 : (¬ ∃ l, bitL l ∧ s = bitsS l) → Q .non M) : z__law_bits_due [.str s] M Q E := by
  show zFn _ zb__law_bits_due _ _ _ _
  unfold zFn zb__law_bits_due
  have hL := TL.len_tl s
  have hpl := plc_len 0 (TL.tl s)
  walk_at "z"
  have hat : ∀ (k c : Nat), (TL.tl s)[k]? = some c → atI s.cps.toList (k : Int) = some c := fun k c h => atI_nat h
  refine zLcL_ind (fun l acc M' => M' = M ∧ ∃ k : Nat, k ≤ s.length ∧ l = rangeD (k : Nat) 1 (s.length - k) ∧ acc ++ (plc k ((TL.tl s).drop k)).map (fun k : Nat => D.int (k : Nat)) = (plc 0 (TL.tl s)).map (fun k : Nat => D.int (k : Nat))) ?_ ?_ ⟨rfl, 0, Nat.zero_le _, by simp, rfl⟩
  · rintro acc M' ⟨rfl, k, hk, hr, he⟩
    have hk : k = s.length := by
      have := congrArg List.length hr
      rw [rangeD_len, List.length_nil] at this
      omega
    subst hk
    rw [List.drop_of_length_le (by omega), plc, List.map_nil, List.append_nil] at he
    subst he
    generalize hP : plc 0 (TL.tl s) = P at *
    walk_at "z"
    rw [rangeD_mapI]
    refine zLcL_mapm (as := List.range P.length) (g := fun k => .int (dueP k : Nat)) (fun k hk Q hq => ?_) ?_
    · walk_at "z"
      have : (11 * ((k : Int) / 10) + (k : Int) % 10) = ((dueP k : Nat) : Int) := by unfold dueP; omega
      rw [this]
      exact hq
    · walk_at "z"
      have eP : ∀ (l : List Nat) (f : Nat → Nat), l.map (fun k : Nat => D.int ((f k : Nat) : Int)) = (l.map (fun k : Nat => ((f k : Nat) : Int))).map D.int := fun l f => by rw [List.map_map]; rfl
      have inj : ∀ {l m : List Nat}, l.map (fun k : Nat => (k : Int)) = m.map (fun k : Nat => (k : Int)) → l = m := fun {l m} e => by
        have := congrArg (List.map Int.toNat) e
        rw [List.map_map, List.map_map] at this
        simpa [Function.comp_def] using this
      have bp := bits_by_places s
      rw [hP] at bp
      have eQ : P.map (fun k : Nat => D.int (k : Nat)) = (P.map (fun k : Nat => (k : Int))).map D.int := by rw [List.map_map]; rfl
      have hE : eqD (.lst (P.map fun k : Nat => D.int (k : Nat))) (.lst ((List.range P.length).map fun k => D.int ((dueP k : Nat) : Int))) = decide (P = (List.range P.length).map dueP) := by
        rw [eQ, eP _ dueP, eqD_lst, eqDs_ints]
        by_cases c1 : P = (List.range P.length).map dueP
        · rw [decide_eq_true c1]
          refine decide_eq_true ?_
          conv => lhs; rw [c1]
          rw [List.map_map]; rfl
        · rw [decide_eq_false c1]
          exact decide_eq_false fun e => c1 (inj (e.trans (by rw [List.map_map]; rfl)))
      have eL : [D.int (0 - 1)] ++ (List.range P.length).map (fun k => D.int ((dueP k : Nat) : Int)) = ((0 - 1 : Int) :: (List.range P.length).map (fun k : Nat => ((dueP k : Nat) : Int))).map D.int := by rw [List.map_cons, List.map_map]; rfl
      rw [List.nil_append]
      refine i_ne (by rw [eQ]; exact .ints _) (by rw [eP _ dueP]; exact .ints _) ?_
      rw [hE]
      by_cases c1 : P = (List.range P.length).map dueP
      · rw [decide_eq_true c1]
        walk_at "z"
        refine i_addL (by rw [sizeLine_eq, List.length_map, List.length_range]; simp only [List.length_cons, List.length_nil]; omega) ?_
        walk_at "z"
        rw [eL]
        refine i_ixL (atI_last (by simp)) ?_
        walk_at "z"
        rw [last_off]
        by_cases c2 : s.length = offP P.length
        · rw [decide_eq_true (by omega)]
          walk_at "z"
          rw [charsD_tl]
          refine zLcL_filterm (p := fun c => !decide (c ∈ (("01 " : Str).cps.toList))) (g := fun c => .str ⟨#[c]⟩) (fun c hc Q g1 g2 => ?_) ?_
          · walk_at "z"
            refine i_inC2 ?_
            walk_at "z"
            refine i_b (fun e => ?_) (fun e => ?_)
            · walk_at "z"; exact g2 (by rw [e]; rfl)
            · walk_at "z"; exact g1 (by rw [e]; rfl)
          walk_at "z"
          by_cases c3 : ∀ c ∈ TL.tl s, c = 32 ∨ c = 48 ∨ c = 49
          · have hf : (TL.tl s).filter (fun c => !decide (c ∈ (("01 " : Str).cps.toList))) = [] := List.filter_eq_nil_iff.mpr fun c hc => by rw [decide_eq_true ((in_3 c).mpr (c3 c hc))]; simp
            rw [hf]
            walk_at "z"
            refine i_ne (.lflat rfl) (.lflat rfl) ?_
            walk_at "z"
            refine zLcL_mapm (as := P) (g := fun k => .int (if (TL.tl s)[k - 0]? = some 49 then 1 else 0)) (fun k hk Q hq => ?_) ?_
            · have := plc_lt 0 (TL.tl s) k (by rw [hP]; exact hk)
              have hlt : k < (TL.tl s).length := by omega
              have hc := hat k _ (List.getElem?_eq_getElem hlt)
              rw [Nat.sub_zero, List.getElem?_eq_getElem hlt] at hq
              generalize (TL.tl s)[k] = c at hq hc
              walk_at "z"
              refine i_ixS hc ?_
              walk_at "z"
              by_cases h49 : c = 49
              · rw [decide_eq_true ((ch_49 c).mpr h49)]
                rw [h49, if_pos rfl] at hq
                walk_at "z"
                exact hq
              · rw [decide_eq_false (fun h => h49 ((ch_49 c).mp h))]
                rw [if_neg (fun e => h49 (Option.some.inj e))] at hq
                walk_at "z"
                exact hq
            · walk_at "z"
              obtain ⟨l, hl, e⟩ := bp.mpr ⟨c1, by rw [← hL]; exact c2, c3⟩
              have e3 : sigs (TL.tl s) = l := by rw [e, bitsS_tl]; exact (sgn_plc l 0 hl).2.2.2
              have e2 := plc_sigs 0 (TL.tl s)
              rw [hP, e3] at e2
              have h3 := h1 l hl e
              rw [← e2, List.map_map] at h3
              exact h3
          · cases hf : (TL.tl s).filter (fun c => !decide (c ∈ (("01 " : Str).cps.toList))) with
            | nil =>
              refine absurd (fun c hc => ?_) c3
              have := List.filter_eq_nil_iff.mp hf c hc
              rw [← in_3]
              simpa using this
            | cons c0 r0 =>
              walk_at "z"
              refine i_ne (.lflat ?_) (.lflat rfl) ?_
              · rw [List.nil_append, List.all_map]; exact List.all_eq_true.mpr fun _ _ => rfl
              walk_at "z"
              exact h2 fun h => c3 (bp.mp h).2.2
        · rw [decide_eq_false (by omega)]
          walk_at "z"
          exact h2 fun h => c2 (by rw [hL]; exact (bp.mp h).2.1)
      · rw [decide_eq_false c1]
        walk_at "z"
        exact h2 fun h => c1 (bp.mp h).1
  · rintro d l acc M' q2 ⟨rfl, k, hk, hr, he⟩ g1 g2
    cases e : s.length - k with
    | zero => rw [e] at hr; cases hr
    | succ m =>
      rw [e] at hr
      obtain ⟨rfl, rfl⟩ : d = .int (k : Nat) ∧ l = rangeD ((k : Nat) + 1) 1 m := by injection hr with a b; exact ⟨a, b⟩
      have hk2 : k < (TL.tl s).length := by omega
      rw [List.drop_eq_getElem_cons hk2] at he
      have hc := hat k _ (List.getElem?_eq_getElem hk2)
      generalize (TL.tl s)[k] = c at he hc
      have hm : m = s.length - (k + 1) := by omega
      walk_at "z"
      refine i_ixS hc ?_
      walk_at "z"
      by_cases h32 : c = 32
      · rw [decide_eq_true ((ch_32 c).mpr h32)]
        walk_at "z"
        refine g1 _ ⟨rfl, k + 1, by omega, by rw [hm]; rfl, ?_⟩
        rw [← he]
        show _ = acc ++ List.map _ (if c = 32 then _ else _)
        rw [if_pos h32]
      · rw [decide_eq_false (fun h => h32 ((ch_32 c).mp h))]
        walk_at "z"
        refine g2 _ _ ⟨rfl, k + 1, by omega, by rw [hm]; rfl, ?_⟩
        rw [← he]
        show _ = acc ++ List.map _ (if c = 32 then _ else _)
        rw [if_neg h32, List.map_cons, List.append_assoc]
        rfl

-- needs: texts
theorem l__law_spoilt {t : Addr} {s : Str} {M : Mh} {Q : QZ} {E : ZX} (ht : M t = some .town) (hs : s.length ≤ 1000) (q : ∀ s' : Str, s'.length ≤ 2002 → Q (.str s') M) : z__law_spoilt [.ref t, .str s] M Q E := by
  show zFn _ zb__law_spoilt _ _ _ _
  unfold zFn zb__law_spoilt
  walk_at "z"
  refine l__law_draw ht (by omega) (by omega) fun k hk hk2 => ?_
  walk_at "z"
  refine l__law_pick ht (by simp) (by decide) fun d hd => ?_
  obtain ⟨g, rfl, hg⟩ : ∃ g : Str, d = .str g ∧ g.length ≤ 2 := by
    simp only [List.mem_cons, List.not_mem_nil, or_false] at hd
    rcases hd with rfl | rfl | rfl | rfl | rfl | rfl | rfl | rfl | rfl | rfl <;> exact ⟨_, rfl, by decide +kernel⟩
  have c1 := fun a b => len_cut s a b
  have add : ∀ (u v : Str), (u ++ v).length = u.length + v.length := fun u v => by rw [TL.len_tl, TL.tl_append, List.length_append, ← TL.len_tl, ← TL.len_tl]
  walk_at "z"
  have c2 := c1 none (some k)
  have c3 := c1 (some k) none
  have c4 := c1 (some (k + 1)) none
  refine i_addS (by rw [sizeLine_eq]; omega) ?_
  walk_at "z"
  refine i_addS (by rw [sizeLine_eq, add]; omega) ?_
  walk_at "z"
  refine i_addS (by rw [sizeLine_eq]; omega) ?_
  walk_at "z"
  refine i_addS (by rw [sizeLine_eq]; omega) ?_
  walk_at "z"
  refine i_addS (by rw [sizeLine_eq, add]; omega) ?_
  walk_at "z"
  refine i_addL (by rw [sizeLine_eq]; simp) ?_
  walk_at "z"
  refine l__law_pick ht ?_ ?_ fun d hd => ?_
  · simp
  · simp
  walk_at "z"
  simp only [List.cons_append, List.nil_append, List.mem_cons, List.not_mem_nil, or_false] at hd
  rcases hd with rfl | rfl | rfl | rfl
  · exact q _ (by rw [add, add]; omega)
  · exact q _ (by rw [add]; omega)
  · exact q _ (by omega)
  · exact q _ (by rw [add, add]; omega)

-- needs: _law_items_due _law_bits_due _law_spoilt _law_asked _law_items _law_some_bits
theorem join_short {is : List Nat} (h : ∀ n ∈ is, n < 260) (hl : is.length ≤ 3) : (Txt.join " " (is.map itS)).length ≤ 1000 := by
  rw [TL.len_tl, TL.join_eq, TL.tl_join]
  have h2 := joinL_len (S := TL.tl (" " : Str)) ((is.map itS).map TL.tl)
  have h3 := sum_le_of (f := fun n => (itS n).length) (k := 5) is fun n hn => (itS_len (h n hn)).2
  rw [map_len_tl, List.length_map, List.length_map, blank_tl] at h2
  have h3 : ((is.map itS).map (fun x : Str => x.length)).sum ≤ 5 * is.length := by rw [List.map_map]; exact h3
  rw [blank_tl]
  simp only [List.length_cons, List.length_nil] at h2
  omega
theorem mem_words {s w : Str} (h0 : s ≠ "") (h : TL.tl w ∈ TL.spl [32] 0 [] (TL.tl s)) : w ∈ wordsOf s := by
  unfold wordsOf
  rw [if_neg h0]
  rw [← split_tl] at h
  obtain ⟨w', hw, e⟩ := List.mem_map.mp h
  rw [← TL.ext_tl e]
  exact hw
theorem odd_one {s w : Str} (h0 : s ≠ "") (hl : s.length ≤ 10000) (h1 : TL.tl w ∈ TL.spl [32] 0 [] (TL.tl s)) (h2 : ctl w = false) (h3 : ∀ n : Nat, n < 256 → TL.tl w ≠ TL.numL n) : ∃ s' : Str, D.str s = .str s' ∧ s'.length ≤ 10000 ∧ ¬ ∃ is, Its s' is :=
  ⟨s, rfl, hl, its_no (mem_words h0 h1) h2 fun n hn e => h3 n hn (by rw [e, numS_tl])⟩
theorem odd_no {d : D} (h : d ∈ ([.str "007", .str "256", .str "+5", .str " 5", .str "5 ", .str "Begin", .str "5  6", .str "-0", .str "1_0", .str "00"] : List D)) : ∃ s : Str, d = .str s ∧ s.length ≤ 10000 ∧ ¬ ∃ is, Its s is := by
  simp only [List.mem_cons, List.not_mem_nil, or_false] at h
  rcases h with rfl | rfl | rfl | rfl | rfl | rfl | rfl | rfl | rfl | rfl
  · exact odd_one (w := "007") (by decide +kernel) (by decide +kernel) (by decide +kernel) (by decide +kernel) (by decide +kernel)
  · exact odd_one (w := "256") (by decide +kernel) (by decide +kernel) (by decide +kernel) (by decide +kernel) (by decide +kernel)
  · exact odd_one (w := "+5") (by decide +kernel) (by decide +kernel) (by decide +kernel) (by decide +kernel) (by decide +kernel)
  · exact odd_one (w := "") (by decide +kernel) (by decide +kernel) (by decide +kernel) (by decide +kernel) (by decide +kernel)
  · exact odd_one (w := "") (by decide +kernel) (by decide +kernel) (by decide +kernel) (by decide +kernel) (by decide +kernel)
  · exact odd_one (w := "Begin") (by decide +kernel) (by decide +kernel) (by decide +kernel) (by decide +kernel) (by decide +kernel)
  · exact odd_one (w := "") (by decide +kernel) (by decide +kernel) (by decide +kernel) (by decide +kernel) (by decide +kernel)
  · exact odd_one (w := "-0") (by decide +kernel) (by decide +kernel) (by decide +kernel) (by decide +kernel) (by decide +kernel)
  · exact odd_one (w := "1_0") (by decide +kernel) (by decide +kernel) (by decide +kernel) (by decide +kernel) (by decide +kernel)
  · exact odd_one (w := "00") (by decide +kernel) (by decide +kernel) (by decide +kernel) (by decide +kernel) (by decide +kernel)
theorem law_holds : ∀ ns : List Int, ns.length ≤ 63 → z_law [.scr ns] (fun _ => none) (fun d _ => d = .bl true) fun _ _ _ => False := by
  intro ns hns
  show zFn _ zb_law _ _ _ _
  unfold zFn zb_law
  walk_at "z"
  refine ⟨(fun _ h => nomatch h), fun t ht => ?_⟩
  have hT : mup (fun x => none) t MO.town t = some .town := mup_same
  generalize mup (fun x => none) t MO.town = M0 at hT
  walk_at "z"
  refine zLoop_range (fun k r M' => M' = M0 ∧ ∃ a b c d e : Option D, r = [some (.scr ns), some (.ref t), a, b, c, d, e, none, none, none, none, none, none, none]) ?_ ?_ ⟨rfl, none, none, none, none, none, rfl⟩
  · rintro r M' ⟨rfl, a, b, c, d, e, rfl⟩
    walk_at "z"
    refine l__law_pick hT (by simp) (by decide) fun od ho => ?_
    obtain ⟨s, rfl, hs, hno⟩ := odd_no ho
    walk_at "z"
    refine l__law_asked0 hs (fun is hi => absurd ⟨is, hi⟩ hno) fun _ => ?_
    walk_at "z"
    refine zLoop_ind (fun l r M2 => M2 = M' ∧ (∀ x ∈ l, x ∈ odd47) ∧ ∃ f g : Option D, r = [some (.scr ns), some (.ref t), a, b, c, d, e, some (.str s), f, g, none, none, none, none]) ?_ ?_ ⟨rfl, (fun x hx => hx), none, none, rfl⟩
    · rintro r M' ⟨rfl, _, f, g, rfl⟩
      walk_at "z"
      refine l__law_asked2 ?_ ?_
      · refine ⟨known_lst _, (fun ds e => by cases e; intro x hx; simp only [List.mem_cons, List.not_mem_nil, or_false] at hx; rcases hx with rfl | rfl <;> exact ⟨_, rfl⟩), by simp, fun ds e => by cases e; decide +kernel⟩
      walk_at "z"
      refine l__law_asked3 ?_ ?_
      · refine ⟨known_lst _, (fun ds e => by cases e; intro x hx; simp only [List.mem_cons, List.not_mem_nil, or_false] at hx; rcases hx with rfl | rfl <;> exact ⟨_, rfl⟩), by simp, rfl⟩
      walk_at "z"
      rw [decide_eq_true rfl]
    · rintro x l r M' kk ⟨rfl, ho, f, g, rfl⟩ hk
      have hx := ho x List.mem_cons_self
      walk_at "z"
      rw [rangeD_mapI]
      refine zLcL_mapm (as := List.range 4) (g := fun k => .str (if k < 2 then "text" else if k = 2 then "item" else "bits")) (fun k hk Q hq => ?_) ?_
      · have h4 := List.mem_range.mp hk
        walk_at "z"
        match k, h4, hq with
        | 0, _, hq => exact l__law_asked_odd0 hx hq
        | 1, _, hq => exact l__law_asked_odd1 hx hq
        | 2, _, hq => exact l__law_asked2 (odd_items hx) hq
        | 3, _, hq => exact l__law_asked3 (odd_bits hx) hq
      walk_at "z"
      refine i_neF (.lflat rfl) (.lflat rfl) rfl ?_
      walk_at "z"
      exact hk _ _ ⟨rfl, (fun y hy => ho y (List.mem_cons_of_mem _ hy)), _, _, rfl⟩
  · rintro k r M' kk hlt ⟨rfl, a, b, c, d, e, rfl⟩ hk
    walk_at "z"
    refine l__law_items (most := 3) hT (by decide) fun is hi hl => ?_
    walk_at "z"
    refine zLcL_mapm (g := fun n => .str (itS n)) (fun n hn Q hq => ?_) ?_
    · walk_at "z"
      by_cases h1 : n < 256
      · rw [itD_int h1]
        refine i_strI (by omega) (by omega) ?_
        rw [itS_num h1] at hq
        exact hq
      · rw [itD_itS h1 (hi n hn)]
        exact i_strS hq
    walk_at "z"
    refine i_joinE (ys := is.map itS) (by simp [Function.comp_def]) (itS_sum hi (by omega)) ?_
    walk_at "z"
    refine l__law_spoilt hT (join_short hi hl) fun s hs => ?_
    refine i_name ?_
    dsimp only [st]
    refine i_seqP (fun r M2 => M2 = M' ∧ ∃ y : D, r = [some (.scr ns), some (.ref t), some (.int (0 + (k : Nat))), some (.str s), some y, d, e, none, none, none, none, none, none, none] ∧ ((∃ is, Its s is ∧ y = .lst (is.map itD)) ∨ ((¬ ∃ is, Its s is) ∧ y = .non))) ?_ ?_
    rotate_left
    · intro k2 h2
      walk_at "z"
      refine l__law_items_due (by omega) (fun is hi => ?_) (fun hn => ?_)
      · walk_at "z"
        exact h2 _ _ ⟨rfl, _, rfl, .inl ⟨is, hi, rfl⟩⟩
      · walk_at "z"
        exact h2 _ _ ⟨rfl, _, rfl, .inr ⟨hn, rfl⟩⟩
    rintro r M2 ⟨rfl, y, rfl, hy⟩
    try dsimp only
    refine i_seqP (fun r M3 => M3 = M2 ∧ r = [some (.scr ns), some (.ref t), some (.int (0 + (k : Nat))), some (.str s), some y, d, e, none, none, none, none, none, none, none]) ?_ ?_
    rotate_left
    · intro k2 h2
      rcases hy with ⟨js, hj, rfl⟩ | ⟨hn, rfl⟩
      · walk_at "z"
        refine l__law_asked0 (by omega) (fun js2 hj2 => ?_) (fun hn => absurd ⟨js, hj⟩ hn)
        obtain rfl := hj.one hj2
        walk_at "z"
        refine i_neF (Pl_items _) (Pl_items _) (eqD_items hj.1) ?_
        walk_at "z"
        exact h2 _ _ ⟨rfl, rfl⟩
      · walk_at "z"
        refine l__law_asked0 (by omega) (fun js2 hj2 => absurd ⟨js2, hj2⟩ hn) (fun _ => ?_)
        walk_at "z"
        exact h2 _ _ ⟨rfl, rfl⟩
    rintro r M3 ⟨rfl, rfl⟩
    walk_at "z"
    refine l__law_some_bits (most := 24) hT (by decide) fun B hb hB => ?_
    walk_at "z"
    refine i_range3 ?_
    walk_at "z"
    refine i_onI3 ?_
    have hc := tens_count B.length B (Nat.le_refl _)
    refine ⟨(tens B).length, by rw [hc]; exact rgc_ten (by omega), by rw [hc]; omega, ?_⟩
    refine zLcL_ind (fun l acc M4 => M4 = M3 ∧ ∃ k : Nat, k ≤ (tens B).length ∧ l = rangeD (10 * (k : Nat)) 10 ((tens B).length - k) ∧ acc = ((tens B).take k).map fun r => .str (rowS r)) ?_ ?_ ⟨rfl, 0, by omega, rfl, rfl⟩
    rotate_left
    · rintro x l acc M4 q2 ⟨rfl, k, hk, hr, rfl⟩ g1 g2
      cases e : (tens B).length - k with
      | zero => rw [e] at hr; cases hr
      | succ m =>
        rw [e] at hr
        obtain ⟨rfl, rfl⟩ : x = .int (10 * (k : Nat)) ∧ l = rangeD (10 * (k : Nat) + 10) 10 m := by injection hr with h1 h2; exact ⟨h1, h2⟩
        have hk10 : 10 * k < B.length := by omega
        have hb2 : bitL ((B.drop (10 * k)).take 10) := bitL_take (bitL_drop hb _) _
        walk_at "y"
        rw [show (10 * (k : Nat) : Int) + 10 = ((10 * k + 10 : Nat) : Int) by omega, show (10 * (k : Nat) : Int) = ((10 * k : Nat) : Int) by omega, cutD_mid, show 10 * k + 10 - 10 * k = 10 by omega, ← List.map_drop, ← List.map_take]
        refine zLcL_mapm (g := fun b : Int => .str (numS b.toNat)) (fun b hb' Q hq => ?_) ?_
        · have := hb2 b hb'
          walk_at "z"
          exact i_strI (by omega) (by omega) hq
        walk_at "y"
        refine i_joinE (ys := ((B.drop (10 * k)).take 10).map fun b => numS b.toNat) (by simp [Function.comp_def]) (by
          have := numS_sum hb2
          rw [List.length_take] at this
          omega) ?_
        rw [row_text hb2]
        walk_at "z"
        refine g2 _ _ ⟨rfl, k + 1, by omega, ?_, ?_⟩
        · rw [show (tens B).length - (k + 1) = m by omega]
          congr 1
        · rw [tens_take hk10, List.map_append]; rfl
    rintro acc M4 ⟨rfl, k4, hk4, hr, rfl⟩
    have : k4 = (tens B).length := by
      have := congrArg List.length hr
      rw [rangeD_len, List.length_nil] at this
      omega
    subst this
    rw [List.take_length]
    walk_at "z"
    refine i_joinE (ys := (tens B).map rowS) (by rw [List.map_map]; rfl) ?_ ?_
    · have := rows_sum (rs := tens B) fun r hr => (tens_mem B.length B (Nat.le_refl _) r hr).2.1
      rw [List.length_map, show (" " : Str).length = 1 by decide +kernel]
      omega
    rw [bits_text_eq]
    walk_at "z"
    refine l__law_spoilt hT ?_ fun u hu => ?_
    · have := sgn_len B 0
      rw [TL.len_tl, bitsS_tl]
      omega
    walk_at "z"
    refine l__law_bits_due (by omega) (fun l hl e1 => ?_) (fun hn => ?_)
    · walk_at "z"
      refine l__law_asked1 (by omega) (fun l2 hl2 e2 => ?_) (fun hn => absurd ⟨l, hl, e1⟩ hn)
      have e3 : l = l2 := by
        have a1 := (sgn_plc l 0 hl).2.2.2
        have a2 := (sgn_plc l2 0 hl2).2.2.2
        rw [← bitsS_tl, ← e1] at a1
        rw [← bitsS_tl, ← e2, a1] at a2
        exact a2
      subst e3
      walk_at "z"
      refine i_neIs rfl ?_
      walk_at "z"
      exact hk _ _ ⟨rfl, _, _, _, _, _, rfl⟩
    · walk_at "z"
      refine l__law_asked1 (by omega) (fun l2 hl2 e2 => absurd ⟨l2, hl2, e2⟩ hn) (fun _ => ?_)
      walk_at "z"
      exact hk _ _ ⟨rfl, _, _, _, _, _, rfl⟩

theorem repL_strs {K : PySem.W.Frag} {mg : Str → Option Value} {F : Fz} : ∀ (ns : List Str), ns.all (fun x => PyData.strOk x && decide (x.length ≤ sizeLine)) = true → RepL K mg F (ns.map V.str) (ns.map D.str)
  | [], _ => .nil
  | x :: r, h => by
    rw [List.all_cons, Bool.and_eq_true, Bool.and_eq_true] at h
    exact .cons (.str h.1.1 (of_decide_eq_true h.1.2)) (repL_strs r h.2)
def top (i : Nat) : Stmt := PySem.Challenge.pw_evenline_k47_texts_refused.main.body.getD i (.Pass ⟨0, 0, 0, 0⟩)
abbrev s_is_whole : Stmt := top 15
def N_is_whole : List Str := ["thing", "low", "high"]
def p_is_whole : List Str := ["thing", "low", "high"]
theorem sc_is_whole : FnScope N_is_whole p_is_whole (defScope s_is_whole) := ⟨rfl, rfl, rfl, by decide +kernel, rfl, by decide +kernel, by decide +kernel⟩
abbrev s_look_bits : Stmt := top 16
def N_look_bits : List Str := ["bits", "bit"]
def p_look_bits : List Str := ["bits"]
theorem sc_look_bits : FnScope N_look_bits p_look_bits (defScope s_look_bits) := ⟨rfl, rfl, rfl, by decide +kernel, rfl, by decide +kernel, by decide +kernel⟩
abbrev s_is_item : Stmt := top 20
def N_is_item : List Str := ["thing"]
def p_is_item : List Str := ["thing"]
theorem sc_is_item : FnScope N_is_item p_is_item (defScope s_is_item) := ⟨rfl, rfl, rfl, by decide +kernel, rfl, by decide +kernel, by decide +kernel⟩
abbrev s_look_items : Stmt := top 21
def N_look_items : List Str := ["items", "item"]
def p_look_items : List Str := ["items"]
theorem sc_look_items : FnScope N_look_items p_look_items (defScope s_look_items) := ⟨rfl, rfl, rfl, by decide +kernel, rfl, by decide +kernel, by decide +kernel⟩
abbrev s_items_text : Stmt := top 23
def N_items_text : List Str := ["items", "item"]
def p_items_text : List Str := ["items"]
theorem sc_items_text : FnScope N_items_text p_items_text (defScope s_items_text) := ⟨rfl, rfl, rfl, by decide +kernel, rfl, by decide +kernel, by decide +kernel⟩
abbrev s_word_item : Stmt := top 24
def N_word_item : List Str := ["word", "short", "sign"]
def p_word_item : List Str := ["word"]
theorem sc_word_item : FnScope N_word_item p_word_item (defScope s_word_item) := ⟨rfl, rfl, rfl, by decide +kernel, rfl, by decide +kernel, by decide +kernel⟩
abbrev s_items_read : Stmt := top 25
def N_items_read : List Str := ["text", "word"]
def p_items_read : List Str := ["text"]
theorem sc_items_read : FnScope N_items_read p_items_read (defScope s_items_read) := ⟨rfl, rfl, rfl, by decide +kernel, rfl, by decide +kernel, by decide +kernel⟩
abbrev s_bits_text : Stmt := top 26
def N_bits_text : List Str := ["bits", "rows", "at", "bit"]
def p_bits_text : List Str := ["bits"]
theorem sc_bits_text : FnScope N_bits_text p_bits_text (defScope s_bits_text) := ⟨rfl, rfl, rfl, by decide +kernel, rfl, by decide +kernel, by decide +kernel⟩
abbrev s_bits_read : Stmt := top 27
def N_bits_read : List Str := ["text", "rows", "found", "k", "row", "good", "sign"]
def p_bits_read : List Str := ["text"]
theorem sc_bits_read : FnScope N_bits_read p_bits_read (defScope s_bits_read) := ⟨rfl, rfl, rfl, by decide +kernel, rfl, by decide +kernel, by decide +kernel⟩
abbrev s__law_town : Stmt := top 29
def N__law_town : List Str := ["script"]
def p__law_town : List Str := ["script"]
theorem sc__law_town : FnScope N__law_town p__law_town (defScope s__law_town) := ⟨rfl, rfl, rfl, by decide +kernel, rfl, by decide +kernel, by decide +kernel⟩
abbrev s__law_draw : Stmt := top 30
def N__law_draw : List Str := ["town", "many", "cells", "at", "cell", "mixed"]
def p__law_draw : List Str := ["town", "many"]
theorem sc__law_draw : FnScope N__law_draw p__law_draw (defScope s__law_draw) := ⟨rfl, rfl, rfl, by decide +kernel, rfl, by decide +kernel, by decide +kernel⟩
abbrev s__law_pick : Stmt := top 31
def N__law_pick : List Str := ["town", "some"]
def p__law_pick : List Str := ["town", "some"]
theorem sc__law_pick : FnScope N__law_pick p__law_pick (defScope s__law_pick) := ⟨rfl, rfl, rfl, by decide +kernel, rfl, by decide +kernel, by decide +kernel⟩
abbrev s__law_refusal : Stmt := top 32
def N__law_refusal : List Str := ["caught", "kinds", "words"]
def p__law_refusal : List Str := ["caught"]
theorem sc__law_refusal : FnScope N__law_refusal p__law_refusal (defScope s__law_refusal) := ⟨rfl, rfl, rfl, by decide +kernel, rfl, by decide +kernel, by decide +kernel⟩
abbrev s__law_ten : Stmt := top 33
def N__law_ten : List Str := ["word", "by"]
def p__law_ten : List Str := ["word"]
theorem sc__law_ten : FnScope N__law_ten p__law_ten (defScope s__law_ten) := ⟨rfl, rfl, rfl, by decide +kernel, rfl, by decide +kernel, by decide +kernel⟩
abbrev s__law_some_bits : Stmt := top 34
def N__law_some_bits : List Str := ["town", "most", "found", "many", "kind"]
def p__law_some_bits : List Str := ["town", "most"]
theorem sc__law_some_bits : FnScope N__law_some_bits p__law_some_bits (defScope s__law_some_bits) := ⟨rfl, rfl, rfl, by decide +kernel, rfl, by decide +kernel, by decide +kernel⟩
abbrev s__law_byte : Stmt := top 35
def N__law_byte : List Str := ["town", "kind"]
def p__law_byte : List Str := ["town"]
theorem sc__law_byte : FnScope N__law_byte p__law_byte (defScope s__law_byte) := ⟨rfl, rfl, rfl, by decide +kernel, rfl, by decide +kernel, by decide +kernel⟩
abbrev s__law_item : Stmt := top 36
def N__law_item : List Str := ["town"]
def p__law_item : List Str := ["town"]
theorem sc__law_item : FnScope N__law_item p__law_item (defScope s__law_item) := ⟨rfl, rfl, rfl, by decide +kernel, rfl, by decide +kernel, by decide +kernel⟩
abbrev s__law_items : Stmt := top 37
def N__law_items : List Str := ["town", "most", "k"]
def p__law_items : List Str := ["town", "most"]
theorem sc__law_items : FnScope N__law_items p__law_items (defScope s__law_items) := ⟨rfl, rfl, rfl, by decide +kernel, rfl, by decide +kernel, by decide +kernel⟩
abbrev s__law_asked : Stmt := top 38
def N__law_asked : List Str := ["kind", "thing", "caught", "told", "e"]
def p__law_asked : List Str := ["kind", "thing"]
theorem sc__law_asked : FnScope N__law_asked p__law_asked (defScope s__law_asked) := ⟨rfl, rfl, rfl, by decide +kernel, rfl, by decide +kernel, by decide +kernel⟩
abbrev s__law_items_due : Stmt := top 39
def N__law_items_due : List Str := ["text", "found", "word", "best", "k", "one"]
def p__law_items_due : List Str := ["text"]
theorem sc__law_items_due : FnScope N__law_items_due p__law_items_due (defScope s__law_items_due) := ⟨rfl, rfl, rfl, by decide +kernel, rfl, by decide +kernel, by decide +kernel⟩
abbrev s__law_bits_due : Stmt := top 40
def N__law_bits_due : List Str := ["text", "bits", "due", "k", "sign"]
def p__law_bits_due : List Str := ["text"]
theorem sc__law_bits_due : FnScope N__law_bits_due p__law_bits_due (defScope s__law_bits_due) := ⟨rfl, rfl, rfl, by decide +kernel, rfl, by decide +kernel, by decide +kernel⟩
abbrev s__law_spoilt : Stmt := top 41
def N__law_spoilt : List Str := ["town", "text", "at", "sign", "some"]
def p__law_spoilt : List Str := ["town", "text"]
theorem sc__law_spoilt : FnScope N__law_spoilt p__law_spoilt (defScope s__law_spoilt) := ⟨rfl, rfl, rfl, by decide +kernel, rfl, by decide +kernel, by decide +kernel⟩
abbrev s_law : Stmt := top 42
def N_law : List Str := ["script", "town", "turn", "text", "due", "bits", "signs", "odd", "thing", "found", "item", "k", "bit", "kind"]
def p_law : List Str := ["script"]
theorem sc_law : FnScope N_law p_law (defScope s_law) := ⟨rfl, rfl, rfl, by decide +kernel, rfl, by decide +kernel, by decide +kernel⟩
abbrev cv_CONTROLS : List V := n_CONTROLS.map V.str
theorem rl_CONTROLS {K : PySem.W.Frag} {mg : Str → Option Value} (F : Fz) : RepL K mg F cv_CONTROLS c_CONTROLS := repL_strs _ (by decide +kernel)
theorem fl_CONTROLS : c_CONTROLS.all flatD = true := by decide +kernel
structure Tx (K : PySem.W.Frag) (mg : Str → Option Value) where
  f_is_whole : Addr
  d_is_whole : FuncData
  F_is_whole : Fun K "is_whole" "is_whole" s_is_whole f_is_whole d_is_whole
  b_is_whole : Binds K d_is_whole p_is_whole []
  g_is_whole : mg "is_whole" = some (.ref f_is_whole)
  f_look_bits : Addr
  d_look_bits : FuncData
  F_look_bits : Fun K "look_bits" "look_bits" s_look_bits f_look_bits d_look_bits
  b_look_bits : Binds K d_look_bits p_look_bits []
  g_look_bits : mg "look_bits" = some (.ref f_look_bits)
  f_is_item : Addr
  d_is_item : FuncData
  F_is_item : Fun K "is_item" "is_item" s_is_item f_is_item d_is_item
  b_is_item : Binds K d_is_item p_is_item []
  g_is_item : mg "is_item" = some (.ref f_is_item)
  f_look_items : Addr
  d_look_items : FuncData
  F_look_items : Fun K "look_items" "look_items" s_look_items f_look_items d_look_items
  b_look_items : Binds K d_look_items p_look_items []
  g_look_items : mg "look_items" = some (.ref f_look_items)
  f_items_text : Addr
  d_items_text : FuncData
  F_items_text : Fun K "items_text" "items_text" s_items_text f_items_text d_items_text
  b_items_text : Binds K d_items_text p_items_text []
  g_items_text : mg "items_text" = some (.ref f_items_text)
  f_word_item : Addr
  d_word_item : FuncData
  F_word_item : Fun K "word_item" "word_item" s_word_item f_word_item d_word_item
  b_word_item : Binds K d_word_item p_word_item []
  g_word_item : mg "word_item" = some (.ref f_word_item)
  f_items_read : Addr
  d_items_read : FuncData
  F_items_read : Fun K "items_read" "items_read" s_items_read f_items_read d_items_read
  b_items_read : Binds K d_items_read p_items_read []
  g_items_read : mg "items_read" = some (.ref f_items_read)
  f_bits_text : Addr
  d_bits_text : FuncData
  F_bits_text : Fun K "bits_text" "bits_text" s_bits_text f_bits_text d_bits_text
  b_bits_text : Binds K d_bits_text p_bits_text []
  g_bits_text : mg "bits_text" = some (.ref f_bits_text)
  f_bits_read : Addr
  d_bits_read : FuncData
  F_bits_read : Fun K "bits_read" "bits_read" s_bits_read f_bits_read d_bits_read
  b_bits_read : Binds K d_bits_read p_bits_read []
  g_bits_read : mg "bits_read" = some (.ref f_bits_read)
  f__law_town : Addr
  d__law_town : FuncData
  F__law_town : Fun K "_law_town" "_law_town" s__law_town f__law_town d__law_town
  b__law_town : Binds K d__law_town p__law_town []
  g__law_town : mg "_law_town" = some (.ref f__law_town)
  f__law_draw : Addr
  d__law_draw : FuncData
  F__law_draw : Fun K "_law_draw" "_law_draw" s__law_draw f__law_draw d__law_draw
  b__law_draw : Binds K d__law_draw p__law_draw []
  g__law_draw : mg "_law_draw" = some (.ref f__law_draw)
  f__law_pick : Addr
  d__law_pick : FuncData
  F__law_pick : Fun K "_law_pick" "_law_pick" s__law_pick f__law_pick d__law_pick
  b__law_pick : Binds K d__law_pick p__law_pick []
  g__law_pick : mg "_law_pick" = some (.ref f__law_pick)
  f__law_refusal : Addr
  d__law_refusal : FuncData
  F__law_refusal : Fun K "_law_refusal" "_law_refusal" s__law_refusal f__law_refusal d__law_refusal
  b__law_refusal : Binds K d__law_refusal p__law_refusal []
  g__law_refusal : mg "_law_refusal" = some (.ref f__law_refusal)
  f__law_ten : Addr
  d__law_ten : FuncData
  F__law_ten : Fun K "_law_ten" "_law_ten" s__law_ten f__law_ten d__law_ten
  b__law_ten : Binds K d__law_ten p__law_ten []
  g__law_ten : mg "_law_ten" = some (.ref f__law_ten)
  f__law_some_bits : Addr
  d__law_some_bits : FuncData
  F__law_some_bits : Fun K "_law_some_bits" "_law_some_bits" s__law_some_bits f__law_some_bits d__law_some_bits
  b__law_some_bits : Binds K d__law_some_bits p__law_some_bits []
  g__law_some_bits : mg "_law_some_bits" = some (.ref f__law_some_bits)
  f__law_byte : Addr
  d__law_byte : FuncData
  F__law_byte : Fun K "_law_byte" "_law_byte" s__law_byte f__law_byte d__law_byte
  b__law_byte : Binds K d__law_byte p__law_byte []
  g__law_byte : mg "_law_byte" = some (.ref f__law_byte)
  f__law_item : Addr
  d__law_item : FuncData
  F__law_item : Fun K "_law_item" "_law_item" s__law_item f__law_item d__law_item
  b__law_item : Binds K d__law_item p__law_item []
  g__law_item : mg "_law_item" = some (.ref f__law_item)
  f__law_items : Addr
  d__law_items : FuncData
  F__law_items : Fun K "_law_items" "_law_items" s__law_items f__law_items d__law_items
  b__law_items : Binds K d__law_items p__law_items []
  g__law_items : mg "_law_items" = some (.ref f__law_items)
  f__law_asked : Addr
  d__law_asked : FuncData
  F__law_asked : Fun K "_law_asked" "_law_asked" s__law_asked f__law_asked d__law_asked
  b__law_asked : Binds K d__law_asked p__law_asked []
  g__law_asked : mg "_law_asked" = some (.ref f__law_asked)
  f__law_items_due : Addr
  d__law_items_due : FuncData
  F__law_items_due : Fun K "_law_items_due" "_law_items_due" s__law_items_due f__law_items_due d__law_items_due
  b__law_items_due : Binds K d__law_items_due p__law_items_due []
  g__law_items_due : mg "_law_items_due" = some (.ref f__law_items_due)
  f__law_bits_due : Addr
  d__law_bits_due : FuncData
  F__law_bits_due : Fun K "_law_bits_due" "_law_bits_due" s__law_bits_due f__law_bits_due d__law_bits_due
  b__law_bits_due : Binds K d__law_bits_due p__law_bits_due []
  g__law_bits_due : mg "_law_bits_due" = some (.ref f__law_bits_due)
  f__law_spoilt : Addr
  d__law_spoilt : FuncData
  F__law_spoilt : Fun K "_law_spoilt" "_law_spoilt" s__law_spoilt f__law_spoilt d__law_spoilt
  b__law_spoilt : Binds K d__law_spoilt p__law_spoilt []
  g__law_spoilt : mg "_law_spoilt" = some (.ref f__law_spoilt)
  f_law : Addr
  d_law : FuncData
  F_law : Fun K "law" "law" s_law f_law d_law
  b_law : Binds K d_law p_law []
  g_law : mg "law" = some (.ref f_law)
  g_BEGIN : (t : Tok) ×' mg "BEGIN" = some (.str "begin" t)
  a_CONTROLS : Addr
  g_CONTROLS : mg "CONTROLS" = some (.ref a_CONTROLS)
  k_CONTROLS : KTup K a_CONTROLS cv_CONTROLS
  g_LONG : (t : Tok) ×' mg "LONG" = some (.int 10 t)
  n_ValueError : mg "ValueError" = none
  n_all : mg "all" = none
  n_bool : mg "bool" = none
  n_enumerate : mg "enumerate" = none
  n_int : mg "int" = none
  n_isinstance : mg "isinstance" = none
  n_len : mg "len" = none
  n_list : mg "list" = none
  n_range : mg "range" = none
  n_str : mg "str" = none
  c_BadBits : Addr
  g_BadBits : mg "BadBits" = some (.ref c_BadBits)
  x_BadBits : PySem.W.excIn K c_BadBits [.type "ValueError", .type "Exception", .type "BaseException", .type "object"] "ValueError.__new__" = true
  k_BadBits : PySem.W.keepIn K (.ref c_BadBits) = true
  b_BadBits : PySem.W.subIn K (.ref c_BadBits) (.type "BaseException") = some true
  t_BadBits : PySem.W.typeIn K (.ref c_BadBits) = some (.type "type")
  c_BadItem : Addr
  g_BadItem : mg "BadItem" = some (.ref c_BadItem)
  x_BadItem : PySem.W.excIn K c_BadItem [.type "ValueError", .type "Exception", .type "BaseException", .type "object"] "ValueError.__new__" = true
  k_BadItem : PySem.W.keepIn K (.ref c_BadItem) = true
  b_BadItem : PySem.W.subIn K (.ref c_BadItem) (.type "BaseException") = some true
  t_BadItem : PySem.W.typeIn K (.ref c_BadItem) = some (.type "type")
  c_BadText : Addr
  g_BadText : mg "BadText" = some (.ref c_BadText)
  x_BadText : PySem.W.excIn K c_BadText [.type "ValueError", .type "Exception", .type "BaseException", .type "object"] "ValueError.__new__" = true
  k_BadText : PySem.W.keepIn K (.ref c_BadText) = true
  b_BadText : PySem.W.subIn K (.ref c_BadText) (.type "BaseException") = some true
  t_BadText : PySem.W.typeIn K (.ref c_BadText) = some (.type "type")
  c_Against : Addr
  g_Against : mg "Against" = some (.ref c_Against)
  c_BadLane : Addr
  g_BadLane : mg "BadLane" = some (.ref c_BadLane)
  c_BadPoise : Addr
  g_BadPoise : mg "BadPoise" = some (.ref c_BadPoise)
  c_BadPool : Addr
  g_BadPool : mg "BadPool" = some (.ref c_BadPool)
  c_BadRow : Addr
  g_BadRow : mg "BadRow" = some (.ref c_BadRow)
  c_BadWord : Addr
  g_BadWord : mg "BadWord" = some (.ref c_BadWord)
  c_Dry : Addr
  g_Dry : mg "Dry" = some (.ref c_Dry)
  c_LineError : Addr
  g_LineError : mg "LineError" = some (.ref c_LineError)
  c_Over : Addr
  g_Over : mg "Over" = some (.ref c_Over)
  ec_BadBits : ExcC K c_BadBits
  ec_BadItem : ExcC K c_BadItem
  ec_BadText : ExcC K c_BadText
  kk_Against_BadBits : PySem.W.kitOne K (.ref c_BadBits) (.ref c_Against) = some false
  kk_Against_BadItem : PySem.W.kitOne K (.ref c_BadItem) (.ref c_Against) = some false
  kk_Against_BadText : PySem.W.kitOne K (.ref c_BadText) (.ref c_Against) = some false
  kk_BadBits_BadBits : PySem.W.kitOne K (.ref c_BadBits) (.ref c_BadBits) = some true
  kk_BadBits_BadItem : PySem.W.kitOne K (.ref c_BadItem) (.ref c_BadBits) = some false
  kk_BadBits_BadText : PySem.W.kitOne K (.ref c_BadText) (.ref c_BadBits) = some false
  kk_BadItem_BadBits : PySem.W.kitOne K (.ref c_BadBits) (.ref c_BadItem) = some false
  kk_BadItem_BadItem : PySem.W.kitOne K (.ref c_BadItem) (.ref c_BadItem) = some true
  kk_BadItem_BadText : PySem.W.kitOne K (.ref c_BadText) (.ref c_BadItem) = some false
  kk_BadLane_BadBits : PySem.W.kitOne K (.ref c_BadBits) (.ref c_BadLane) = some false
  kk_BadLane_BadItem : PySem.W.kitOne K (.ref c_BadItem) (.ref c_BadLane) = some false
  kk_BadLane_BadText : PySem.W.kitOne K (.ref c_BadText) (.ref c_BadLane) = some false
  kk_BadPoise_BadBits : PySem.W.kitOne K (.ref c_BadBits) (.ref c_BadPoise) = some false
  kk_BadPoise_BadItem : PySem.W.kitOne K (.ref c_BadItem) (.ref c_BadPoise) = some false
  kk_BadPoise_BadText : PySem.W.kitOne K (.ref c_BadText) (.ref c_BadPoise) = some false
  kk_BadPool_BadBits : PySem.W.kitOne K (.ref c_BadBits) (.ref c_BadPool) = some false
  kk_BadPool_BadItem : PySem.W.kitOne K (.ref c_BadItem) (.ref c_BadPool) = some false
  kk_BadPool_BadText : PySem.W.kitOne K (.ref c_BadText) (.ref c_BadPool) = some false
  kk_BadRow_BadBits : PySem.W.kitOne K (.ref c_BadBits) (.ref c_BadRow) = some false
  kk_BadRow_BadItem : PySem.W.kitOne K (.ref c_BadItem) (.ref c_BadRow) = some false
  kk_BadRow_BadText : PySem.W.kitOne K (.ref c_BadText) (.ref c_BadRow) = some false
  kk_BadText_BadBits : PySem.W.kitOne K (.ref c_BadBits) (.ref c_BadText) = some false
  kk_BadText_BadItem : PySem.W.kitOne K (.ref c_BadItem) (.ref c_BadText) = some false
  kk_BadText_BadText : PySem.W.kitOne K (.ref c_BadText) (.ref c_BadText) = some true
  kk_BadWord_BadBits : PySem.W.kitOne K (.ref c_BadBits) (.ref c_BadWord) = some false
  kk_BadWord_BadItem : PySem.W.kitOne K (.ref c_BadItem) (.ref c_BadWord) = some false
  kk_BadWord_BadText : PySem.W.kitOne K (.ref c_BadText) (.ref c_BadWord) = some false
  kk_Dry_BadBits : PySem.W.kitOne K (.ref c_BadBits) (.ref c_Dry) = some false
  kk_Dry_BadItem : PySem.W.kitOne K (.ref c_BadItem) (.ref c_Dry) = some false
  kk_Dry_BadText : PySem.W.kitOne K (.ref c_BadText) (.ref c_Dry) = some false
  kk_LineError_BadBits : PySem.W.kitOne K (.ref c_BadBits) (.ref c_LineError) = some true
  kk_LineError_BadItem : PySem.W.kitOne K (.ref c_BadItem) (.ref c_LineError) = some true
  kk_LineError_BadText : PySem.W.kitOne K (.ref c_BadText) (.ref c_LineError) = some true
  kk_Over_BadBits : PySem.W.kitOne K (.ref c_BadBits) (.ref c_Over) = some false
  kk_Over_BadItem : PySem.W.kitOne K (.ref c_BadItem) (.ref c_Over) = some false
  kk_Over_BadText : PySem.W.kitOne K (.ref c_BadText) (.ref c_Over) = some false
  kk_ValueError_BadBits : PySem.W.kitOne K (.ref c_BadBits) (.type "ValueError") = some true
  kk_ValueError_BadItem : PySem.W.kitOne K (.ref c_BadItem) (.type "ValueError") = some true
  kk_ValueError_BadText : PySem.W.kitOne K (.ref c_BadText) (.type "ValueError") = some true
  xm_LineError_BadBits : PySem.W.exmOne K (.ref c_BadBits) (.ref c_LineError) = some true
  xm_LineError_BadItem : PySem.W.exmOne K (.ref c_BadItem) (.ref c_LineError) = some true
  xm_LineError_BadText : PySem.W.exmOne K (.ref c_BadText) (.ref c_LineError) = some true
section
variable {P : Program} {w : World} {K : PySem.W.Frag} {mg : Str → Option Value} {base : Heap}
theorem Tx.r_BadBits (T : Tx K mg) {X : Cx} (hK : X.K = K := by rfl) : Raises X (.ref T.c_BadBits) := raises_own (by rw [hK]; exact T.b_BadBits) (by rw [hK]; exact T.t_BadBits)
theorem Tx.r_BadItem (T : Tx K mg) {X : Cx} (hK : X.K = K := by rfl) : Raises X (.ref T.c_BadItem) := raises_own (by rw [hK]; exact T.b_BadItem) (by rw [hK]; exact T.t_BadItem)
theorem Tx.r_BadText (T : Tx K mg) {X : Cx} (hK : X.K = K := by rfl) : Raises X (.ref T.c_BadText) := raises_own (by rw [hK]; exact T.b_BadText) (by rw [hK]; exact T.t_BadText)
theorem Tx.xl_LineError (T : Tx K mg) : ∀ c ∈ c_raised, ∀ C, mg c = some (.ref C) → PySem.W.exmOne K (.ref C) (.ref T.c_LineError) = some true := by
  intro c hc C g
  rcases List.mem_cons.mp hc with rfl | hc
  · rw [T.g_BadBits] at g; cases g; exact T.xm_LineError_BadBits
  rcases List.mem_cons.mp hc with rfl | hc
  · rw [T.g_BadItem] at g; cases g; exact T.xm_LineError_BadItem
  rcases List.mem_cons.mp hc with rfl | hc
  · rw [T.g_BadText] at g; cases g; exact T.xm_LineError_BadText
  cases hc
theorem Tx.kt_Against (T : Tx K mg) : ∀ (c : Str) (b : Bool), tab_Against.lookup c = some b → ∀ C, mg c = some (.ref C) → ExcC K C ∧ PySem.W.kitOne K (.ref C) (.ref T.c_Against) = some b := by
  intro c b h C g
  have h := lookup_mem h
  rcases List.mem_cons.mp h with e | h
  · cases e; rw [T.g_BadBits] at g; cases g; exact ⟨T.ec_BadBits, T.kk_Against_BadBits⟩
  rcases List.mem_cons.mp h with e | h
  · cases e; rw [T.g_BadItem] at g; cases g; exact ⟨T.ec_BadItem, T.kk_Against_BadItem⟩
  rcases List.mem_cons.mp h with e | h
  · cases e; rw [T.g_BadText] at g; cases g; exact ⟨T.ec_BadText, T.kk_Against_BadText⟩
  cases h
theorem Tx.kt_BadBits (T : Tx K mg) : ∀ (c : Str) (b : Bool), tab_BadBits.lookup c = some b → ∀ C, mg c = some (.ref C) → ExcC K C ∧ PySem.W.kitOne K (.ref C) (.ref T.c_BadBits) = some b := by
  intro c b h C g
  have h := lookup_mem h
  rcases List.mem_cons.mp h with e | h
  · cases e; rw [T.g_BadBits] at g; cases g; exact ⟨T.ec_BadBits, T.kk_BadBits_BadBits⟩
  rcases List.mem_cons.mp h with e | h
  · cases e; rw [T.g_BadItem] at g; cases g; exact ⟨T.ec_BadItem, T.kk_BadBits_BadItem⟩
  rcases List.mem_cons.mp h with e | h
  · cases e; rw [T.g_BadText] at g; cases g; exact ⟨T.ec_BadText, T.kk_BadBits_BadText⟩
  cases h
theorem Tx.kt_BadItem (T : Tx K mg) : ∀ (c : Str) (b : Bool), tab_BadItem.lookup c = some b → ∀ C, mg c = some (.ref C) → ExcC K C ∧ PySem.W.kitOne K (.ref C) (.ref T.c_BadItem) = some b := by
  intro c b h C g
  have h := lookup_mem h
  rcases List.mem_cons.mp h with e | h
  · cases e; rw [T.g_BadBits] at g; cases g; exact ⟨T.ec_BadBits, T.kk_BadItem_BadBits⟩
  rcases List.mem_cons.mp h with e | h
  · cases e; rw [T.g_BadItem] at g; cases g; exact ⟨T.ec_BadItem, T.kk_BadItem_BadItem⟩
  rcases List.mem_cons.mp h with e | h
  · cases e; rw [T.g_BadText] at g; cases g; exact ⟨T.ec_BadText, T.kk_BadItem_BadText⟩
  cases h
theorem Tx.kt_BadLane (T : Tx K mg) : ∀ (c : Str) (b : Bool), tab_BadLane.lookup c = some b → ∀ C, mg c = some (.ref C) → ExcC K C ∧ PySem.W.kitOne K (.ref C) (.ref T.c_BadLane) = some b := by
  intro c b h C g
  have h := lookup_mem h
  rcases List.mem_cons.mp h with e | h
  · cases e; rw [T.g_BadBits] at g; cases g; exact ⟨T.ec_BadBits, T.kk_BadLane_BadBits⟩
  rcases List.mem_cons.mp h with e | h
  · cases e; rw [T.g_BadItem] at g; cases g; exact ⟨T.ec_BadItem, T.kk_BadLane_BadItem⟩
  rcases List.mem_cons.mp h with e | h
  · cases e; rw [T.g_BadText] at g; cases g; exact ⟨T.ec_BadText, T.kk_BadLane_BadText⟩
  cases h
theorem Tx.kt_BadPoise (T : Tx K mg) : ∀ (c : Str) (b : Bool), tab_BadPoise.lookup c = some b → ∀ C, mg c = some (.ref C) → ExcC K C ∧ PySem.W.kitOne K (.ref C) (.ref T.c_BadPoise) = some b := by
  intro c b h C g
  have h := lookup_mem h
  rcases List.mem_cons.mp h with e | h
  · cases e; rw [T.g_BadBits] at g; cases g; exact ⟨T.ec_BadBits, T.kk_BadPoise_BadBits⟩
  rcases List.mem_cons.mp h with e | h
  · cases e; rw [T.g_BadItem] at g; cases g; exact ⟨T.ec_BadItem, T.kk_BadPoise_BadItem⟩
  rcases List.mem_cons.mp h with e | h
  · cases e; rw [T.g_BadText] at g; cases g; exact ⟨T.ec_BadText, T.kk_BadPoise_BadText⟩
  cases h
theorem Tx.kt_BadPool (T : Tx K mg) : ∀ (c : Str) (b : Bool), tab_BadPool.lookup c = some b → ∀ C, mg c = some (.ref C) → ExcC K C ∧ PySem.W.kitOne K (.ref C) (.ref T.c_BadPool) = some b := by
  intro c b h C g
  have h := lookup_mem h
  rcases List.mem_cons.mp h with e | h
  · cases e; rw [T.g_BadBits] at g; cases g; exact ⟨T.ec_BadBits, T.kk_BadPool_BadBits⟩
  rcases List.mem_cons.mp h with e | h
  · cases e; rw [T.g_BadItem] at g; cases g; exact ⟨T.ec_BadItem, T.kk_BadPool_BadItem⟩
  rcases List.mem_cons.mp h with e | h
  · cases e; rw [T.g_BadText] at g; cases g; exact ⟨T.ec_BadText, T.kk_BadPool_BadText⟩
  cases h
theorem Tx.kt_BadRow (T : Tx K mg) : ∀ (c : Str) (b : Bool), tab_BadRow.lookup c = some b → ∀ C, mg c = some (.ref C) → ExcC K C ∧ PySem.W.kitOne K (.ref C) (.ref T.c_BadRow) = some b := by
  intro c b h C g
  have h := lookup_mem h
  rcases List.mem_cons.mp h with e | h
  · cases e; rw [T.g_BadBits] at g; cases g; exact ⟨T.ec_BadBits, T.kk_BadRow_BadBits⟩
  rcases List.mem_cons.mp h with e | h
  · cases e; rw [T.g_BadItem] at g; cases g; exact ⟨T.ec_BadItem, T.kk_BadRow_BadItem⟩
  rcases List.mem_cons.mp h with e | h
  · cases e; rw [T.g_BadText] at g; cases g; exact ⟨T.ec_BadText, T.kk_BadRow_BadText⟩
  cases h
theorem Tx.kt_BadText (T : Tx K mg) : ∀ (c : Str) (b : Bool), tab_BadText.lookup c = some b → ∀ C, mg c = some (.ref C) → ExcC K C ∧ PySem.W.kitOne K (.ref C) (.ref T.c_BadText) = some b := by
  intro c b h C g
  have h := lookup_mem h
  rcases List.mem_cons.mp h with e | h
  · cases e; rw [T.g_BadBits] at g; cases g; exact ⟨T.ec_BadBits, T.kk_BadText_BadBits⟩
  rcases List.mem_cons.mp h with e | h
  · cases e; rw [T.g_BadItem] at g; cases g; exact ⟨T.ec_BadItem, T.kk_BadText_BadItem⟩
  rcases List.mem_cons.mp h with e | h
  · cases e; rw [T.g_BadText] at g; cases g; exact ⟨T.ec_BadText, T.kk_BadText_BadText⟩
  cases h
theorem Tx.kt_BadWord (T : Tx K mg) : ∀ (c : Str) (b : Bool), tab_BadWord.lookup c = some b → ∀ C, mg c = some (.ref C) → ExcC K C ∧ PySem.W.kitOne K (.ref C) (.ref T.c_BadWord) = some b := by
  intro c b h C g
  have h := lookup_mem h
  rcases List.mem_cons.mp h with e | h
  · cases e; rw [T.g_BadBits] at g; cases g; exact ⟨T.ec_BadBits, T.kk_BadWord_BadBits⟩
  rcases List.mem_cons.mp h with e | h
  · cases e; rw [T.g_BadItem] at g; cases g; exact ⟨T.ec_BadItem, T.kk_BadWord_BadItem⟩
  rcases List.mem_cons.mp h with e | h
  · cases e; rw [T.g_BadText] at g; cases g; exact ⟨T.ec_BadText, T.kk_BadWord_BadText⟩
  cases h
theorem Tx.kt_Dry (T : Tx K mg) : ∀ (c : Str) (b : Bool), tab_Dry.lookup c = some b → ∀ C, mg c = some (.ref C) → ExcC K C ∧ PySem.W.kitOne K (.ref C) (.ref T.c_Dry) = some b := by
  intro c b h C g
  have h := lookup_mem h
  rcases List.mem_cons.mp h with e | h
  · cases e; rw [T.g_BadBits] at g; cases g; exact ⟨T.ec_BadBits, T.kk_Dry_BadBits⟩
  rcases List.mem_cons.mp h with e | h
  · cases e; rw [T.g_BadItem] at g; cases g; exact ⟨T.ec_BadItem, T.kk_Dry_BadItem⟩
  rcases List.mem_cons.mp h with e | h
  · cases e; rw [T.g_BadText] at g; cases g; exact ⟨T.ec_BadText, T.kk_Dry_BadText⟩
  cases h
theorem Tx.kt_LineError (T : Tx K mg) : ∀ (c : Str) (b : Bool), tab_LineError.lookup c = some b → ∀ C, mg c = some (.ref C) → ExcC K C ∧ PySem.W.kitOne K (.ref C) (.ref T.c_LineError) = some b := by
  intro c b h C g
  have h := lookup_mem h
  rcases List.mem_cons.mp h with e | h
  · cases e; rw [T.g_BadBits] at g; cases g; exact ⟨T.ec_BadBits, T.kk_LineError_BadBits⟩
  rcases List.mem_cons.mp h with e | h
  · cases e; rw [T.g_BadItem] at g; cases g; exact ⟨T.ec_BadItem, T.kk_LineError_BadItem⟩
  rcases List.mem_cons.mp h with e | h
  · cases e; rw [T.g_BadText] at g; cases g; exact ⟨T.ec_BadText, T.kk_LineError_BadText⟩
  cases h
theorem Tx.kt_Over (T : Tx K mg) : ∀ (c : Str) (b : Bool), tab_Over.lookup c = some b → ∀ C, mg c = some (.ref C) → ExcC K C ∧ PySem.W.kitOne K (.ref C) (.ref T.c_Over) = some b := by
  intro c b h C g
  have h := lookup_mem h
  rcases List.mem_cons.mp h with e | h
  · cases e; rw [T.g_BadBits] at g; cases g; exact ⟨T.ec_BadBits, T.kk_Over_BadBits⟩
  rcases List.mem_cons.mp h with e | h
  · cases e; rw [T.g_BadItem] at g; cases g; exact ⟨T.ec_BadItem, T.kk_Over_BadItem⟩
  rcases List.mem_cons.mp h with e | h
  · cases e; rw [T.g_BadText] at g; cases g; exact ⟨T.ec_BadText, T.kk_Over_BadText⟩
  cases h
theorem Tx.kt_ValueError (T : Tx K mg) : ∀ (c : Str) (b : Bool), tab_ValueError.lookup c = some b → ∀ C, mg c = some (.ref C) → ExcC K C ∧ PySem.W.kitOne K (.ref C) (.type "ValueError") = some b := by
  intro c b h C g
  have h := lookup_mem h
  rcases List.mem_cons.mp h with e | h
  · cases e; rw [T.g_BadBits] at g; cases g; exact ⟨T.ec_BadBits, T.kk_ValueError_BadBits⟩
  rcases List.mem_cons.mp h with e | h
  · cases e; rw [T.g_BadItem] at g; cases g; exact ⟨T.ec_BadItem, T.kk_ValueError_BadItem⟩
  rcases List.mem_cons.mp h with e | h
  · cases e; rw [T.g_BadText] at g; cases g; exact ⟨T.ec_BadText, T.kk_ValueError_BadText⟩
  cases h
theorem ok_is_whole (T : Tx K mg) : FnOk P w K mg base (L2.CX P w) 1 T.f_is_whole T.d_is_whole p_is_whole (liftSp K mg z_is_whole) :=
  z_ok false (k := 0) (zb := zb_is_whole) T.F_is_whole sc_is_whole (n := 0) rfl (fun ds M R RE h => by
    unfold z_is_whole at h
    split at h
    · exact ⟨rfl, h⟩
    · exact h.elim)
  fun cdv A outer s H E F0 zE hr wk => (zss_one (zs_ret (ze_and (ze_isi (T := "int") (ze_var 0) T.n_isinstance T.n_int (by decide +kernel)) (ze_and (ze_not (ze_isi (T := "bool") (ze_var 0) T.n_isinstance T.n_bool (by decide +kernel))) (ze_one (ze_chain op_le (sndB0 (g := pLe)) op_le (sndB0 (g := pLe)) (ze_var 1) (ze_var 0) (ze_var 2)))))))
theorem ok_look_bits (T : Tx K mg) : FnOk P w K mg base (L2.CX P w) 2 T.f_look_bits T.d_look_bits p_look_bits (liftSp K mg z_look_bits) :=
  z_ok false (k := 1) (zb := zb_look_bits) T.F_look_bits sc_look_bits (n := 1) rfl (fun ds M R RE h => by
    unfold z_look_bits at h
    split at h
    · exact ⟨rfl, h⟩
    · exact h.elim)
  fun cdv A outer s H E F0 zE hr wk => (zss_one (zs_if (zt_w (zw_or (zt_not (zt_val (ze_isi (T := "list") (ze_var 0) T.n_isinstance T.n_list (by decide +kernel)))) (zw_or1 (zt_not (zt_val (ze_cb (cr_all rfl) snd_all T.n_all (by decide +kernel) (za_cons (ze_lc (own := [("bit", 1)]) false rfl sc_look_bits.nd (zi_list (ze_var 0)) (blkOk_by (N := N_look_bits) (sc := defScope s_look_bits) (by decide +kernel)) (tg_name (by decide)) (fun _ _ _ _ _ => (pg_name (i := 1) sc_look_bits.nd rfl (by first | exact Or.inl rfl | exact Or.inr rfl))) (fun _ _ _ _ _ => zts_nil) (fun _ _ _ _ _ => (ze_call (ok_is_whole T) (hr.mono (by decide)) T.g_is_whole T.F_is_whole.kp T.b_is_whole takes0 wok0 (za_cons (ze_var 1) (za_cons ze_int (za_cons ze_int za_nil)))))) za_nil))))))) (zss_one (zs_raise rfl (takes_of rfl rfl rfl rfl) wk PySem.F.excBase_ValueError T.x_BadBits T.g_BadBits T.k_BadBits T.r_BadBits))
  zss_nil))
theorem ok_is_item (T : Tx K mg) : FnOk P w K mg base (L2.CX P w) 2 T.f_is_item T.d_is_item p_is_item (liftSp K mg z_is_item) :=
  z_ok false (k := 1) (zb := zb_is_item) T.F_is_item sc_is_item (n := 0) rfl (fun ds M R RE h => by
    unfold z_is_item at h
    split at h
    · exact ⟨rfl, h⟩
    · exact h.elim)
  fun cdv A outer s H E F0 zE hr wk => (zss_cons (zs_if (zt_val (ze_isi (T := "str") (ze_var 0) T.n_isinstance T.n_str (by decide +kernel))) (zss_one (zs_ret (ze_or (ze_cmp (op_eqZ hr.units) snd_eq (ze_var 0) (ze_glob (v := .str "begin") rfl T.g_BEGIN.2 ⟨_, rfl⟩ (fun _ => .str (by decide +kernel) (by decide +kernel))) (by first | exact nobehind _ (by decide) (by decide) | rfl)) (ze_one (ze_cmp op_inZ (snd_in false) (ze_var 0) (ze_glob (v := .ref T.a_CONTROLS) rfl T.g_CONTROLS rfl (ktup_rep T.k_CONTROLS rl_CONTROLS)) (by first | exact nobehind _ (by decide) (by decide) | rfl))))))
  zss_nil)
  (zss_one (zs_ret (ze_call (ok_is_whole T) (hr.mono (by decide)) T.g_is_whole T.F_is_whole.kp T.b_is_whole (takes_of rfl rfl rfl rfl) wk (za_cons (ze_var 0) (za_cons ze_int (za_cons ze_int za_nil)))))))
theorem ok_look_items (T : Tx K mg) : FnOk P w K mg base (L2.CX P w) 3 T.f_look_items T.d_look_items p_look_items (liftSp K mg z_look_items) :=
  z_ok false (k := 2) (zb := zb_look_items) T.F_look_items sc_look_items (n := 1) rfl (fun ds M R RE h => by
    unfold z_look_items at h
    split at h
    · exact ⟨rfl, h⟩
    · exact h.elim)
  fun cdv A outer s H E F0 zE hr wk => (zss_one (zs_if (zt_w (zw_or (zt_not (zt_val (ze_isi (T := "list") (ze_var 0) T.n_isinstance T.n_list (by decide +kernel)))) (zw_or1 (zt_not (zt_val (ze_cb (cr_all rfl) snd_all T.n_all (by decide +kernel) (za_cons (ze_lc (own := [("item", 1)]) false rfl sc_look_items.nd (zi_list (ze_var 0)) (blkOk_by (N := N_look_items) (sc := defScope s_look_items) (by decide +kernel)) (tg_name (by decide)) (fun _ _ _ _ _ => (pg_name (i := 1) sc_look_items.nd rfl (by first | exact Or.inl rfl | exact Or.inr rfl))) (fun _ _ _ _ _ => zts_nil) (fun _ _ _ _ _ => (ze_call (ok_is_item T) (hr.mono (by decide)) T.g_is_item T.F_is_item.kp T.b_is_item takes0 wok0 (za_cons (ze_var 1) za_nil)))) za_nil))))))) (zss_one (zs_raise rfl (takes_of rfl rfl rfl rfl) wk PySem.F.excBase_ValueError T.x_BadItem T.g_BadItem T.k_BadItem T.r_BadItem))
  zss_nil))
theorem ok_items_text (T : Tx K mg) : FnOk P w K mg base (L2.CX P w) 4 T.f_items_text T.d_items_text p_items_text (liftSp K mg z_items_text) :=
  z_ok false (k := 3) (zb := zb_items_text) T.F_items_text sc_items_text (n := 1) rfl (fun ds M R RE h => by
    unfold z_items_text at h
    split at h
    · exact ⟨rfl, h⟩
    · exact h.elim)
  fun cdv A outer s H E F0 zE hr wk => (zss_cons (zs_expr (ze_call (ok_look_items T) (hr.mono (by decide)) T.g_look_items T.F_look_items.kp T.b_look_items (takes_of rfl rfl rfl rfl) wk (za_cons (ze_var 0) za_nil)))
  (zss_one (zs_ret (ze_mS PySem.F.plainAttrs_str PySem.F.slot_str_join PySem.F.type_str_join mt_join snd_join ze_str (za_cons (ze_lc (own := [("item", 1)]) false rfl sc_items_text.nd (zi_list (ze_var 0)) (blkOk_by (N := N_items_text) (sc := defScope s_items_text) (by decide +kernel)) (tg_name (by decide)) (fun _ _ _ _ _ => (pg_name (i := 1) sc_items_text.nd rfl (by first | exact Or.inl rfl | exact Or.inr rfl))) (fun _ _ _ _ _ => zts_nil) (fun _ _ _ _ _ => (ze_ct (CallR.or call_str_int SkE.call_str_str) snd_str T.n_str (by decide +kernel) (za_cons (ze_var 1) za_nil)))) za_nil)))))
theorem ok_word_item (T : Tx K mg) : FnOk P w K mg base (L2.CX P w) 1 T.f_word_item T.d_word_item p_word_item (liftSp K mg z_word_item) :=
  z_ok false (k := 0) (zb := zb_word_item) T.F_word_item sc_word_item (n := 2) rfl (fun ds M R RE h => by
    unfold z_word_item at h
    split at h
    · exact ⟨rfl, h⟩
    · exact h.elim)
  fun cdv A outer s H E F0 zE hr wk => (zss_cons (zs_if (zt_w (zw_or (zt_cmp (op_eqZ hr.units) snd_eq (ze_var 0) (ze_glob (v := .str "begin") rfl T.g_BEGIN.2 ⟨_, rfl⟩ (fun _ => .str (by decide +kernel) (by decide +kernel))) (by first | exact nobehind _ (by decide) (by decide) | rfl)) (zw_or1 (zt_cmp op_inZ (snd_in false) (ze_var 0) (ze_glob (v := .ref T.a_CONTROLS) rfl T.g_CONTROLS rfl (ktup_rep T.k_CONTROLS rl_CONTROLS)) (by first | exact nobehind _ (by decide) (by decide) | rfl))))) (zss_one (zs_ret (ze_var 0)))
  zss_nil)
  (zss_cons (zs_set (i := 1) sc_word_item.nd (ze_and (ze_chain op_le (sndB0 (g := pLe)) op_le (sndB0 (g := pLe)) ze_int (ze_cb call_len snd_len T.n_len (by decide +kernel) (za_cons (ze_var 0) za_nil)) ze_int) (ze_one (ze_cb (cr_all rfl) snd_all T.n_all (by decide +kernel) (za_cons (ze_lc (own := [("sign", 2)]) false rfl sc_word_item.nd (zi_str (ze_var 0)) (blkOk_by (N := N_word_item) (sc := defScope s_word_item) (by decide +kernel)) (tg_name (by decide)) (fun _ _ _ _ _ => (pg_name (i := 2) sc_word_item.nd rfl (by first | exact Or.inl rfl | exact Or.inr rfl))) (fun _ _ _ _ _ => zts_nil) (fun _ _ _ _ _ => (ze_cmp op_inZ (snd_in false) (ze_var 2) ze_str (by first | exact nobehind _ (by decide) (by decide) | rfl)))) za_nil)))))
  (zss_cons (zs_if (zt_w (zw_or (zt_not (zt_val (ze_var 1))) (zw_or (zt_cmp (op_neZ hr.units) snd_ne (ze_ct (CallR.or call_str_int SkE.call_str_str) snd_str T.n_str (by decide +kernel) (za_cons (ze_ct call_int_str snd_int T.n_int (by decide +kernel) (za_cons (ze_var 0) za_nil)) za_nil)) (ze_var 0) (by first | exact nobehind _ (by decide) (by decide) | rfl)) (zw_or1 (zt_cmp op_gt (sndB0 (g := pGt)) (ze_ct call_int_str snd_int T.n_int (by decide +kernel) (za_cons (ze_var 0) za_nil)) ze_int (by first | exact nobehind _ (by decide) (by decide) | rfl)))))) (zss_one (zs_raise rfl (takes_of rfl rfl rfl rfl) wk PySem.F.excBase_ValueError T.x_BadText T.g_BadText T.k_BadText T.r_BadText))
  zss_nil)
  (zss_one (zs_ret (ze_ct call_int_str snd_int T.n_int (by decide +kernel) (za_cons (ze_var 0) za_nil)))))))
theorem ok_items_read (T : Tx K mg) : FnOk P w K mg base (L2.CX P w) 2 T.f_items_read T.d_items_read p_items_read (liftSp K mg z_items_read) :=
  z_ok true (k := 1) (zb := zb_items_read) T.F_items_read sc_items_read (n := 1) rfl (fun ds M R RE h => by
    unfold z_items_read at h
    split at h
    · exact ⟨rfl, h⟩
    · exact h.elim)
  fun cdv A outer s H E F0 zE hr wk => (zss_cons (zs_if (zt_not (zt_val (ze_isi (T := "str") (ze_var 0) T.n_isinstance T.n_str (by decide +kernel)))) (zss_one (zs_raise rfl (takes_of rfl rfl rfl rfl) wk PySem.F.excBase_ValueError T.x_BadText T.g_BadText T.k_BadText T.r_BadText))
  zss_nil)
  (zss_one (zs_ret (ze_if (zt_cmp (op_eqZ hr.units) snd_eq (ze_var 0) ze_str (by first | exact nobehind _ (by decide) (by decide) | rfl)) (ze_lst true za_nil) (ze_lcX (own := [("word", 1)]) true rfl sc_items_read.nd rfl rfl (takes_of rfl rfl rfl rfl) wk (zi_list (ze_mS PySem.F.plainAttrs_str PySem.F.slot_str_split PySem.F.type_str_split mt_split (snd_split false) (ze_var 0) (za_cons ze_str za_nil))) (blkOk_by (N := N_items_read) (sc := defScope s_items_read) (by decide +kernel)) (tg_name (by decide)) (fun _ _ _ _ _ _ => (pg_name (i := 1) sc_items_read.nd rfl (by first | exact Or.inl rfl | exact Or.inr rfl))) (fun _ _ _ _ _ _ _ _ _ hx wk => (ze_callP (ok_word_item T) (hr.mono (by decide)) T.g_word_item T.F_word_item.kp T.b_word_item hx wk (za_cons (ze_var 1) za_nil))))))))
theorem ok_bits_text (T : Tx K mg) : FnOk P w K mg base (L2.CX P w) 3 T.f_bits_text T.d_bits_text p_bits_text (liftSp K mg z_bits_text) :=
  z_ok true (k := 2) (zb := zb_bits_text) T.F_bits_text sc_bits_text (n := 3) rfl (fun ds M R RE h => by
    unfold z_bits_text at h
    split at h
    · exact ⟨rfl, h⟩
    · exact h.elim)
  fun cdv A outer s H E F0 zE hr wk => (zss_cons (zs_expr (ze_call (ok_look_bits T) (hr.mono (by decide)) T.g_look_bits T.F_look_bits.kp T.b_look_bits (takes_of rfl rfl rfl rfl) wk (za_cons (ze_var 0) za_nil)))
  (zss_cons (zs_set (i := 1) sc_bits_text.nd (ze_lst true za_nil))
  (zss_cons (zs_for (passes_of rfl) rfl (zi_range3 T.n_range (za_cons ze_int (za_cons (ze_cb call_len snd_len T.n_len (by decide +kernel) (za_cons (ze_var 0) za_nil)) (za_cons (ze_glob (v := .int 10) rfl T.g_LONG.2 ⟨_, rfl⟩ (fun _ => .int _)) za_nil)))) (zg_name (i := 2) sc_bits_text.nd) (zss_one (zs_expr (ze_mL PySem.F.plainAttrs_list PySem.F.slot_list_append PySem.F.type_list_append mt_append snd_app (ze_var 1) (za_cons (ze_mS PySem.F.plainAttrs_str PySem.F.slot_str_join PySem.F.type_str_join mt_join snd_join ze_str (za_cons (ze_lc (own := [("bit", 3)]) false rfl sc_bits_text.nd (zi_list (ze_sl false (ze_var 0) (zo_some (ze_var 2)) (zo_some (ze_add false (ze_var 2) (ze_glob (v := .int 10) rfl T.g_LONG.2 ⟨_, rfl⟩ (fun _ => .int _)))))) (blkOk_by (N := N_bits_text) (sc := defScope s_bits_text) (by decide +kernel)) (tg_name (by decide)) (fun _ _ _ _ _ => (pg_name (i := 3) sc_bits_text.nd rfl (by first | exact Or.inl rfl | exact Or.inr rfl))) (fun _ _ _ _ _ => zts_nil) (fun _ _ _ _ _ => (ze_ct (CallR.or call_str_int SkE.call_str_str) snd_str T.n_str (by decide +kernel) (za_cons (ze_var 3) za_nil)))) za_nil)) za_nil)))))
  (zss_one (zs_ret (ze_mS PySem.F.plainAttrs_str PySem.F.slot_str_join PySem.F.type_str_join mt_join snd_join ze_str (za_cons (ze_var 1) za_nil)))))))
theorem ok_bits_read (T : Tx K mg) : FnOk P w K mg base (L2.CX P w) 1 T.f_bits_read T.d_bits_read p_bits_read (liftSp K mg z_bits_read) :=
  z_ok true (k := 0) (zb := zb_bits_read) T.F_bits_read sc_bits_read (n := 6) rfl (fun ds M R RE h => by
    unfold z_bits_read at h
    split at h
    · exact ⟨rfl, h⟩
    · exact h.elim)
  fun cdv A outer s H E F0 zE hr wk => (zss_cons (zs_if (zt_not (zt_val (ze_isi (T := "str") (ze_var 0) T.n_isinstance T.n_str (by decide +kernel)))) (zss_one (zs_raise rfl (takes_of rfl rfl rfl rfl) wk PySem.F.excBase_ValueError T.x_BadText T.g_BadText T.k_BadText T.r_BadText))
  zss_nil)
  (zss_cons (zs_set (i := 1) sc_bits_read.nd (ze_if (zt_cmp (op_eqZ hr.units) snd_eq (ze_var 0) ze_str (by first | exact nobehind _ (by decide) (by decide) | rfl)) (ze_lst false za_nil) (ze_mS PySem.F.plainAttrs_str PySem.F.slot_str_split PySem.F.type_str_split mt_split (snd_split false) (ze_var 0) (za_cons ze_str za_nil))))
  (zss_cons (zs_set (i := 2) sc_bits_read.nd (ze_lst true za_nil))
  (zss_cons (zs_for (passes_of rfl) rfl (zi_enum T.n_enumerate (za_cons (ze_var 1) za_nil)) (zg_tup rfl (zgs_cons (zg_name (i := 3) sc_bits_read.nd) (zgs_cons (zg_name (i := 4) sc_bits_read.nd) zgs_nil))) (zss_cons (zs_set (i := 5) sc_bits_read.nd (ze_or (ze_cmp (op_eqZ hr.units) snd_eq (ze_cb call_len snd_len T.n_len (by decide +kernel) (za_cons (ze_var 4) za_nil)) (ze_glob (v := .int 10) rfl T.g_LONG.2 ⟨_, rfl⟩ (fun _ => .int _)) (by first | exact nobehind _ (by decide) (by decide) | rfl)) (ze_one (ze_and (ze_cmp (op_eqZ hr.units) snd_eq (ze_var 3) (ze_sub (ze_cb call_len snd_len T.n_len (by decide +kernel) (za_cons (ze_var 1) za_nil)) ze_int) (by first | exact nobehind _ (by decide) (by decide) | rfl)) (ze_one (ze_chain op_lt (sndB0 (g := pLt)) op_lt (sndB0 (g := pLt)) ze_int (ze_cb call_len snd_len T.n_len (by decide +kernel) (za_cons (ze_var 4) za_nil)) (ze_glob (v := .int 10) rfl T.g_LONG.2 ⟨_, rfl⟩ (fun _ => .int _))))))))
  (zss_cons (zs_if (zt_w (zw_or (zt_not (zt_val (ze_var 5))) (zw_or1 (zt_not (zt_val (ze_cb (cr_all rfl) snd_all T.n_all (by decide +kernel) (za_cons (ze_lc (own := [("sign", 6)]) false rfl sc_bits_read.nd (zi_str (ze_var 4)) (blkOk_by (N := N_bits_read) (sc := defScope s_bits_read) (by decide +kernel)) (tg_name (by decide)) (fun _ _ _ _ _ => (pg_name (i := 6) sc_bits_read.nd rfl (by first | exact Or.inl rfl | exact Or.inr rfl))) (fun _ _ _ _ _ => zts_nil) (fun _ _ _ _ _ => (ze_cmp op_inZ (snd_in false) (ze_var 6) ze_str (by first | exact nobehind _ (by decide) (by decide) | rfl)))) za_nil))))))) (zss_one (zs_raise rfl (takes_of rfl rfl rfl rfl) wk PySem.F.excBase_ValueError T.x_BadText T.g_BadText T.k_BadText T.r_BadText))
  zss_nil)
  (zss_one (zs_expr (ze_mL PySem.F.plainAttrs_list PySem.F.slot_list_extend PySem.F.type_list_extend mt_extend snd_ext (ze_var 2) (za_cons (ze_lc (own := [("sign", 6)]) false rfl sc_bits_read.nd (zi_str (ze_var 4)) (blkOk_by (N := N_bits_read) (sc := defScope s_bits_read) (by decide +kernel)) (tg_name (by decide)) (fun _ _ _ _ _ => (pg_name (i := 6) sc_bits_read.nd rfl (by first | exact Or.inl rfl | exact Or.inr rfl))) (fun _ _ _ _ _ => zts_nil) (fun _ _ _ _ _ => (ze_ct call_int_str snd_int T.n_int (by decide +kernel) (za_cons (ze_var 6) za_nil)))) za_nil)))))))
  (zss_one (zs_ret (ze_var 2)))))))
theorem ok__law_town (T : Tx K mg) : FnOk P w K mg base (L2.CX P w) 1 T.f__law_town T.d__law_town p__law_town (liftSp K mg z__law_town) := by
  refine T.F__law_town.okX sc__law_town (fun vs H Q E h => ?_) (fun cdv A outer s H vs Q E hr h => ?_)
  · obtain ⟨F, M, ds, R, RE, w, rl, h, _⟩ := h
    unfold z__law_town at h
    split at h
    · exact rl.length
    · exact h.elim
  · obtain ⟨F, M, ds, R, RE, w, rl, h, kq, kx⟩ := h
    unfold z__law_town at h
    split at h
    · cases rl with
      | cons r1 rl =>
        cases rl
        cases r1 with
        | scr sq sl =>
          rename_i ns a
          have sqH : SqL K H a (ns.map V.int) := Same.seq w.same sq
          refine ⟨_, pss_one (ps_ret (pe_lst (pa_cons (pe_ifExp (pt_cmpR (op_neZ hr.units) (pv 0) (pe_lst pa_nil) (nomark _)) (pe_callTy call_list_of (by rfl) T.n_list (by decide +kernel) (pa_cons (pv 0) pa_nil)) (pe_lst (pa_cons pe_int pa_nil))) (pa_cons pe_int pa_nil)))), ?_⟩
          refine ⟨_, rfl, Nat.zero_le _, fun e he => ?_⟩
          have fin : ∀ {H1 : Hp} {c : Addr} {cells : List Int}, Wd K mg F H1 M → H1 c = none → cells ≠ [] → cellsOk cells → ([V.ref c, V.int 0].length ≤ sizeLine ∧ ∀ p, upd H1 c (.lst (cells.map V.int)) p = none → Q (.ref p) (upd (upd H1 c (.lst (cells.map V.int))) p (.lst [.ref c, .int 0]))) := fun {H1 c cells} w1 hc ne ln => by
            refine ⟨by show 2 ≤ sizeLine; decide, fun p hp => ?_⟩
            obtain ⟨w2, mt⟩ := Wd.town_new (n := 0) h.1 ne ln hc hp w1
            exact kq _ _ (h.2 p mt) F _ _ (Le.refl F) w2 (.ref p)
          have same1 : Same H (upd H e (.lst [])) := same_upd he
          have w1 : Wd K mg F (upd H e (.lst [])) M := by
            have q := w.laidM (p := e) (o := .lst []) (m := .lst []) he (by intro z; cases z) ⟨[], upd_same, Nat.zero_le _, .nil⟩
            refine q.drop fun b m z => ?_
            rw [mup_ne (ne_of_m z (w.free he).1)]; exact z
          refine ⟨toP (.lst (ns.map D.int)), toP (.lst []), ?_, .lst (SqL.of upd_same) .nil, ?_, rfl, .inr (by decide), ?_⟩
          · exact .lst (same1.seq sqH) (RepL.dp (K := K) (mg := mg) (F := ⟨H, H⟩) (H := upd H e (.lst [])) same1 (plains_ints ns) (RepL.ints ns))
          · exact RepL.lay (K := K) (mg := mg) (F := F) (RepL.ints ns) |> fun z => by simpa [toP, PyData.canLay0] using z
          · refine ⟨_, rfl, ?_⟩
            cases ns with
            | nil =>
              have e0 : (!PyData.eqv (toP (.lst (([] : List Int).map D.int))) (toP (.lst []))) = false := by decide
              rw [e0]
              refine iteF ?_
              refine ⟨by show 1 ≤ sizeLine; decide, fun c hc => ?_⟩
              exact fin (cells := [0]) w1 hc (by simp) (by unfold cellsOk; decide)
            | cons n r =>
              have e0 : (!PyData.eqv (toP (.lst ((n :: r).map D.int))) (toP (.lst []))) = true := rfl
              rw [e0]
              refine iteT ?_
              refine ⟨_, rfl, a, _, rfl, .inl (same1.seq sqH), fun c hc => ?_⟩
              exact fin (cells := n :: r) w1 hc (by simp) sl
    · exact h.elim
theorem ok0__law_draw (T : Tx K mg) : FnOk P w K mg base (L2.CX P w) 1 T.f__law_draw T.d__law_draw p__law_draw (liftSp K mg z0__law_draw) :=
  z_ok true (k := 0) (zb := zb__law_draw) T.F__law_draw sc__law_draw (n := 4) rfl (fun ds M R RE h => by
    unfold z0__law_draw at h
    split at h
    · exact ⟨rfl, h⟩
    · exact h.elim)
  fun cdv A outer s H E F0 zE hr wk => (zss_cons (zs_set (i := 2) sc__law_draw.nd (ze_ix (ze_var 0) ze_int (fun _ _ => rfl)))
  (zss_cons (zs_asg (ze_add false (ze_ix (ze_var 0) ze_int (fun _ _ => rfl)) ze_int) (zg_sub (ze_var 0) ze_int))
  (zss_cons (zs_set (i := 3) sc__law_draw.nd (ze_mod (ze_ix (ze_var 0) ze_int (fun _ _ => rfl)) (ze_cb call_len snd_len T.n_len (by decide +kernel) (za_cons (ze_var 2) za_nil))))
  (zss_cons (zs_set (i := 4) sc__law_draw.nd (ze_ix (ze_var 2) (ze_var 3) (fun _ _ => rfl)))
  (zss_cons (zs_if (zt_cmp op_ge (sndB0 (g := pGe)) (ze_var 4) ze_int (by first | exact nobehind _ (by decide) (by decide) | rfl)) (zss_cons (zs_asg (ze_div (ze_var 4) (ze_var 1)) (zg_sub (ze_var 2) (ze_var 3)))
  (zss_one (zs_ret (ze_mod (ze_var 4) (ze_var 1)))))
  zss_nil)
  (zss_cons (zs_set (i := 5) sc__law_draw.nd (ze_mod (ze_add false (ze_var 4) (ze_mul false ze_int (ze_ix (ze_var 0) ze_int (fun _ _ => rfl)))) ze_int))
  (zss_cons (zs_set (i := 5) sc__law_draw.nd (ze_mod (ze_pow (ze_var 5) ze_int) ze_int))
  (zss_one (zs_ret (ze_mod (ze_div (ze_mod (ze_add false (ze_mul false (ze_div (ze_var 5) ze_int) ze_int) (ze_var 5)) ze_int) ze_int) (ze_var 1)))))))))))
theorem ok__law_draw (T : Tx K mg) : FnOk P w K mg base (L2.CX P w) 1 T.f__law_draw T.d__law_draw p__law_draw (liftSp K mg z__law_draw) := by
  refine FnOk.imp (ok0__law_draw T) fun vs H Q E h => ?_
  obtain ⟨F, M, ds, R, RE, w, rl, h, kq, kx⟩ := h
  unfold z__law_draw at h
  split at h
  · obtain ⟨h1, h2, h3, h4⟩ := h
    obtain ⟨c, n, cells, T, w2⟩ := w.town_out h1
    refine ⟨F, _, _, fun d M' => ∃ n' cells', cells' ≠ [] ∧ cellsOk cells' ∧ M' = tOpen M _ c n' cells' ∧ R d M, fun _ _ _ => False, w2, rl, draw0 T h2 h3 fun k m cs hk hk2 hc hl => ⟨m, cs, hc, hl, rfl, h4 k hk hk2⟩, fun d M' hd F' H' v s1 w3 r1 => ?_, fun _ _ _ z => z.elim⟩
    obtain ⟨n', cells', ne, ln, rfl, hR⟩ := hd
    exact kq d M hR F' H' v s1 (w3.town_in T ne ln) r1
  · exact h.elim
theorem ok__law_pick (T : Tx K mg) : FnOk P w K mg base (L2.CX P w) 2 T.f__law_pick T.d__law_pick p__law_pick (liftSp K mg z__law_pick) :=
  z_ok false (k := 1) (zb := zb__law_pick) T.F__law_pick sc__law_pick (n := 0) rfl (fun ds M R RE h => by
    unfold z__law_pick at h
    split at h
    · exact ⟨rfl, h⟩
    · exact h.elim)
  fun cdv A outer s H E F0 zE hr wk => (zss_one (zs_ret (ze_ix (ze_var 1) (ze_call (ok__law_draw T) (hr.mono (by decide)) T.g__law_draw T.F__law_draw.kp T.b__law_draw (takes_of rfl rfl rfl rfl) wk (za_cons (ze_var 0) (za_cons (ze_cb call_len snd_len T.n_len (by decide +kernel) (za_cons (ze_var 1) za_nil)) za_nil))) (fun _ _ => rfl))))
theorem ok__law_refusal (T : Tx K mg) : FnOk P w K mg base (L2.CX P w) 1 T.f__law_refusal T.d__law_refusal p__law_refusal (liftSp K mg z__law_refusal) :=
  z_ok false (k := 0) (zb := zb__law_refusal) T.F__law_refusal sc__law_refusal (n := 2) rfl (fun ds M R RE h => by
    unfold z__law_refusal at h
    split at h
    · exact ⟨rfl, h⟩
    · exact h.elim)
  fun cdv A outer s H E F0 zE hr wk => (zss_cons (zs_set (i := 1) sc__law_refusal.nd (ze_lst false (za_cons (ze_isxO (ze_var 0) T.n_isinstance T.g_BadBits T.kt_BadBits) (za_cons (ze_isxO (ze_var 0) T.n_isinstance T.g_BadWord T.kt_BadWord) (za_cons (ze_isxO (ze_var 0) T.n_isinstance T.g_BadItem T.kt_BadItem) za_nil)))))
  (zss_cons (zs_set (i := 1) sc__law_refusal.nd (ze_add false (ze_var 1) (ze_lst false (za_cons (ze_isxO (ze_var 0) T.n_isinstance T.g_BadPoise T.kt_BadPoise) (za_cons (ze_isxO (ze_var 0) T.n_isinstance T.g_Against T.kt_Against) (za_cons (ze_isxO (ze_var 0) T.n_isinstance T.g_BadRow T.kt_BadRow) za_nil))))))
  (zss_cons (zs_set (i := 1) sc__law_refusal.nd (ze_add false (ze_var 1) (ze_lst false (za_cons (ze_isxO (ze_var 0) T.n_isinstance T.g_BadLane T.kt_BadLane) (za_cons (ze_isxO (ze_var 0) T.n_isinstance T.g_BadPool T.kt_BadPool) (za_cons (ze_isxO (ze_var 0) T.n_isinstance T.g_Over T.kt_Over) za_nil))))))
  (zss_cons (zs_set (i := 1) sc__law_refusal.nd (ze_add false (ze_var 1) (ze_lst false (za_cons (ze_isxO (ze_var 0) T.n_isinstance T.g_Dry T.kt_Dry) (za_cons (ze_isxO (ze_var 0) T.n_isinstance T.g_BadText T.kt_BadText) za_nil)))))
  (zss_cons (zs_if (zt_w (zw_or (zt_cmp (op_neZ hr.units) snd_ne (ze_mL PySem.F.plainAttrs_list PySem.F.slot_list_count PySem.F.type_list_count mt_countZ snd_count (ze_var 1) (za_cons ze_bl za_nil)) ze_int (by first | exact nobehind _ (by decide) (by decide) | rfl)) (zw_or (zt_not (zt_val (ze_isxO (ze_var 0) T.n_isinstance T.g_LineError T.kt_LineError))) (zw_or1 (zt_not (zt_val (ze_isxB (T := "ValueError") (ze_var 0) T.n_isinstance T.n_ValueError (by decide +kernel) T.kt_ValueError))))))) (zss_one (zs_ret ze_str))
  zss_nil)
  (zss_cons (zs_set (i := 2) sc__law_refusal.nd (ze_lst false (za_cons ze_str (za_cons ze_str (za_cons ze_str (za_cons ze_str (za_cons ze_str (za_cons ze_str (za_cons ze_str (za_cons ze_str (za_cons ze_str (za_cons ze_str (za_cons ze_str za_nil)))))))))))))
  (zss_one (zs_ret (ze_ix (ze_var 2) (ze_mL PySem.F.plainAttrs_list PySem.F.slot_list_index PySem.F.type_list_index mt_index snd_index (ze_var 1) (za_cons ze_bl za_nil)) (fun _ _ => rfl))))))))))
theorem ok__law_ten (T : Tx K mg) : FnOk P w K mg base (L2.CX P w) 1 T.f__law_ten T.d__law_ten p__law_ten (liftSp K mg z__law_ten) :=
  z_ok false (k := 0) (zb := zb__law_ten) T.F__law_ten sc__law_ten (n := 1) rfl (fun ds M R RE h => by
    unfold z__law_ten at h
    split at h
    · exact ⟨rfl, h⟩
    · exact h.elim)
  fun cdv A outer s H E F0 zE hr wk => (zss_one (zs_ret (ze_lc (own := [("by", 1)]) false rfl sc__law_ten.nd (zi_list (ze_lst false (za_cons ze_int (za_cons ze_int (za_cons ze_int (za_cons ze_int (za_cons ze_int (za_cons ze_int (za_cons ze_int (za_cons ze_int (za_cons ze_int (za_cons ze_int za_nil)))))))))))) (blkOk_by (N := N__law_ten) (sc := defScope s__law_ten) (by decide +kernel)) (tg_name (by decide)) (fun _ _ _ _ _ => (pg_name (i := 1) sc__law_ten.nd rfl (by first | exact Or.inl rfl | exact Or.inr rfl))) (fun _ _ _ _ _ => zts_nil) (fun _ _ _ _ _ => (ze_mod (ze_div (ze_var 0) (ze_var 1)) ze_int)))))
theorem ok__law_some_bits (T : Tx K mg) : FnOk P w K mg base (L2.CX P w) 3 T.f__law_some_bits T.d__law_some_bits p__law_some_bits (liftSp K mg z__law_some_bits) :=
  z_ok false (k := 2) (zb := zb__law_some_bits) T.F__law_some_bits sc__law_some_bits (n := 3) rfl (fun ds M R RE h => by
    unfold z__law_some_bits at h
    split at h
    · exact ⟨rfl, h⟩
    · exact h.elim)
  fun cdv A outer s H E F0 zE hr wk => (zss_cons (zs_set (i := 2) sc__law_some_bits.nd (ze_lst false za_nil))
  (zss_cons (zs_set (i := 3) sc__law_some_bits.nd (ze_call (ok__law_draw T) (hr.mono (by decide)) T.g__law_draw T.F__law_draw.kp T.b__law_draw (takes_of rfl rfl rfl rfl) wk (za_cons (ze_var 0) (za_cons (ze_add false (ze_var 1) ze_int) za_nil))))
  (zss_cons (zs_while (passes_of rfl) (zt_cmp op_lt (sndB0 (g := pLt)) (ze_cb call_len snd_len T.n_len (by decide +kernel) (za_cons (ze_var 2) za_nil)) (ze_var 3) (by first | exact nobehind _ (by decide) (by decide) | rfl)) (zss_cons (zs_set (i := 4) sc__law_some_bits.nd (ze_call (ok__law_draw T) (hr.mono (by decide)) T.g__law_draw T.F__law_draw.kp T.b__law_draw (takes_of rfl rfl rfl rfl) wk (za_cons (ze_var 0) (za_cons ze_int za_nil))))
  (zss_one (zs_if (zt_cmp (op_eqZ hr.units) snd_eq (ze_var 4) ze_int (by first | exact nobehind _ (by decide) (by decide) | rfl)) (zss_one (zs_set (i := 2) sc__law_some_bits.nd (ze_add false (ze_var 2) (ze_call (ok__law_pick T) (hr.mono (by decide)) T.g__law_pick T.F__law_pick.kp T.b__law_pick (takes_of rfl rfl rfl rfl) wk (za_cons (ze_var 0) (za_cons (ze_lst false (za_cons (ze_lst false (za_cons ze_int (za_cons ze_int (za_cons ze_int (za_cons ze_int (za_cons ze_int (za_cons ze_int (za_cons ze_int za_nil)))))))) (za_cons (ze_lst false (za_cons ze_int (za_cons ze_int (za_cons ze_int (za_cons ze_int (za_cons ze_int (za_cons ze_int (za_cons ze_int za_nil)))))))) za_nil))) za_nil))))))
  (zss_one (zs_if (zt_cmp (op_eqZ hr.units) snd_eq (ze_var 4) ze_int (by first | exact nobehind _ (by decide) (by decide) | rfl)) (zss_one (zs_set (i := 2) sc__law_some_bits.nd (ze_add false (ze_var 2) (ze_mul false (ze_lst false (za_cons (ze_call (ok__law_draw T) (hr.mono (by decide)) T.g__law_draw T.F__law_draw.kp T.b__law_draw (takes_of rfl rfl rfl rfl) wk (za_cons (ze_var 0) (za_cons ze_int za_nil))) za_nil)) (ze_add false ze_int (ze_call (ok__law_draw T) (hr.mono (by decide)) T.g__law_draw T.F__law_draw.kp T.b__law_draw (takes_of rfl rfl rfl rfl) wk (za_cons (ze_var 0) (za_cons ze_int za_nil))))))))
  (zss_one (zs_if (zt_cmp (op_eqZ hr.units) snd_eq (ze_var 4) ze_int (by first | exact nobehind _ (by decide) (by decide) | rfl)) (zss_one (zs_set (i := 2) sc__law_some_bits.nd (ze_add false (ze_var 2) (ze_call (ok__law_ten T) (hr.mono (by decide)) T.g__law_ten T.F__law_ten.kp T.b__law_ten (takes_of rfl rfl rfl rfl) wk (za_cons (ze_call (ok__law_pick T) (hr.mono (by decide)) T.g__law_pick T.F__law_pick.kp T.b__law_pick (takes_of rfl rfl rfl rfl) wk (za_cons (ze_var 0) (za_cons (ze_lst false (za_cons ze_int (za_cons ze_int (za_cons ze_int (za_cons ze_int (za_cons ze_int (za_cons ze_int za_nil))))))) za_nil))) za_nil)))))
  (zss_one (zs_set (i := 2) sc__law_some_bits.nd (ze_add false (ze_var 2) (ze_sl false (ze_call (ok__law_ten T) (hr.mono (by decide)) T.g__law_ten T.F__law_ten.kp T.b__law_ten (takes_of rfl rfl rfl rfl) wk (za_cons (ze_call (ok__law_draw T) (hr.mono (by decide)) T.g__law_draw T.F__law_draw.kp T.b__law_draw (takes_of rfl rfl rfl rfl) wk (za_cons (ze_var 0) (za_cons ze_int za_nil))) za_nil)) (zo_some (ze_call (ok__law_draw T) (hr.mono (by decide)) T.g__law_draw T.F__law_draw.kp T.b__law_draw (takes_of rfl rfl rfl rfl) wk (za_cons (ze_var 0) (za_cons ze_int za_nil)))) zo_none))))))))))))
  (zss_one (zs_ret (ze_sl false (ze_var 2) zo_none (zo_some (ze_var 3))))))))
theorem ok__law_byte (T : Tx K mg) : FnOk P w K mg base (L2.CX P w) 3 T.f__law_byte T.d__law_byte p__law_byte (liftSp K mg z__law_byte) :=
  z_ok false (k := 2) (zb := zb__law_byte) T.F__law_byte sc__law_byte (n := 1) rfl (fun ds M R RE h => by
    unfold z__law_byte at h
    split at h
    · exact ⟨rfl, h⟩
    · exact h.elim)
  fun cdv A outer s H E F0 zE hr wk => (zss_cons (zs_set (i := 1) sc__law_byte.nd (ze_call (ok__law_draw T) (hr.mono (by decide)) T.g__law_draw T.F__law_draw.kp T.b__law_draw (takes_of rfl rfl rfl rfl) wk (za_cons (ze_var 0) (za_cons ze_int za_nil))))
  (zss_cons (zs_if (zt_cmp (op_eqZ hr.units) snd_eq (ze_var 1) ze_int (by first | exact nobehind _ (by decide) (by decide) | rfl)) (zss_one (zs_ret (ze_call (ok__law_pick T) (hr.mono (by decide)) T.g__law_pick T.F__law_pick.kp T.b__law_pick (takes_of rfl rfl rfl rfl) wk (za_cons (ze_var 0) (za_cons (ze_lst false (za_cons ze_int (za_cons ze_int (za_cons ze_int (za_cons ze_int (za_cons ze_int (za_cons ze_int (za_cons ze_int (za_cons ze_int za_nil))))))))) za_nil)))))
  zss_nil)
  (zss_one (zs_ret (ze_if (zt_cmp op_lt (sndB0 (g := pLt)) (ze_var 1) ze_int (by first | exact nobehind _ (by decide) (by decide) | rfl)) (ze_add false ze_int (ze_call (ok__law_draw T) (hr.mono (by decide)) T.g__law_draw T.F__law_draw.kp T.b__law_draw (takes_of rfl rfl rfl rfl) wk (za_cons (ze_var 0) (za_cons ze_int za_nil)))) (ze_call (ok__law_draw T) (hr.mono (by decide)) T.g__law_draw T.F__law_draw.kp T.b__law_draw (takes_of rfl rfl rfl rfl) wk (za_cons (ze_var 0) (za_cons ze_int za_nil))))))))
theorem ok__law_item (T : Tx K mg) : FnOk P w K mg base (L2.CX P w) 4 T.f__law_item T.d__law_item p__law_item (liftSp K mg z__law_item) :=
  z_ok false (k := 3) (zb := zb__law_item) T.F__law_item sc__law_item (n := 0) rfl (fun ds M R RE h => by
    unfold z__law_item at h
    split at h
    · exact ⟨rfl, h⟩
    · exact h.elim)
  fun cdv A outer s H E F0 zE hr wk => (zss_cons (zs_if (zt_cmp (op_eqZ hr.units) snd_eq (ze_call (ok__law_draw T) (hr.mono (by decide)) T.g__law_draw T.F__law_draw.kp T.b__law_draw (takes_of rfl rfl rfl rfl) wk (za_cons (ze_var 0) (za_cons ze_int za_nil))) ze_int (by first | exact nobehind _ (by decide) (by decide) | rfl)) (zss_one (zs_ret (ze_call (ok__law_pick T) (hr.mono (by decide)) T.g__law_pick T.F__law_pick.kp T.b__law_pick (takes_of rfl rfl rfl rfl) wk (za_cons (ze_var 0) (za_cons (ze_lst false (za_cons ze_str (za_cons ze_str (za_cons ze_str (za_cons ze_str za_nil))))) za_nil)))))
  zss_nil)
  (zss_one (zs_ret (ze_call (ok__law_byte T) (hr.mono (by decide)) T.g__law_byte T.F__law_byte.kp T.b__law_byte (takes_of rfl rfl rfl rfl) wk (za_cons (ze_var 0) za_nil)))))
theorem ok__law_items (T : Tx K mg) : FnOk P w K mg base (L2.CX P w) 5 T.f__law_items T.d__law_items p__law_items (liftSp K mg z__law_items) :=
  z_ok false (k := 4) (zb := zb__law_items) T.F__law_items sc__law_items (n := 1) rfl (fun ds M R RE h => by
    unfold z__law_items at h
    split at h
    · exact ⟨rfl, h⟩
    · exact h.elim)
  fun cdv A outer s H E F0 zE hr wk => (zss_one (zs_ret (ze_lc (own := [("k", 2)]) false rfl sc__law_items.nd (zi_range1 T.n_range (za_cons (ze_call (ok__law_draw T) (hr.mono (by decide)) T.g__law_draw T.F__law_draw.kp T.b__law_draw (takes_of rfl rfl rfl rfl) wk (za_cons (ze_var 0) (za_cons (ze_add false (ze_var 1) ze_int) za_nil))) za_nil)) (blkOk_by (N := N__law_items) (sc := defScope s__law_items) (by decide +kernel)) (tg_name (by decide)) (fun _ _ _ _ _ => (pg_name (i := 2) sc__law_items.nd rfl (by first | exact Or.inl rfl | exact Or.inr rfl))) (fun _ _ _ _ _ => zts_nil) (fun _ _ _ _ _ => (ze_call (ok__law_item T) (hr.mono (by decide)) T.g__law_item T.F__law_item.kp T.b__law_item takes0 wok0 (za_cons (ze_var 0) za_nil))))))
theorem ok__law_asked (T : Tx K mg) : FnOk P w K mg base (L2.CX P w) 5 T.f__law_asked T.d__law_asked p__law_asked (liftSp K mg z__law_asked) :=
  z_ok false (k := 4) (zb := zb__law_asked) T.F__law_asked sc__law_asked (n := 3) rfl (fun ds M R RE h => by
    unfold z__law_asked at h
    split at h
    · exact ⟨rfl, h⟩
    · exact h.elim)
  fun cdv A outer s H E F0 zE hr wk => (zss_cons (zs_set (i := 2) sc__law_asked.nd ze_non)
  (zss_cons (zs_set (i := 3) sc__law_asked.nd ze_non)
  (zss_cons (zs_try (i := 4) (j := 2) rfl rfl rfl sc__law_asked.nd T.g_LineError T.xl_LineError (fun F1 W zE pn xe tk hp wk => (zss_one (zs_if (zt_cmp (op_eqZ hr.units) snd_eq (ze_var 0) ze_int (by first | exact nobehind _ (by decide) (by decide) | rfl)) (zss_one (zs_set (i := 3) sc__law_asked.nd (ze_call (ok_items_read T) (hr.mono (by decide)) T.g_items_read T.F_items_read.kp T.b_items_read tk wk (za_cons (ze_var 1) za_nil))))
  (zss_one (zs_if (zt_cmp (op_eqZ hr.units) snd_eq (ze_var 0) ze_int (by first | exact nobehind _ (by decide) (by decide) | rfl)) (zss_one (zs_set (i := 3) sc__law_asked.nd (ze_call (ok_bits_read T) (hr.mono (by decide)) T.g_bits_read T.F_bits_read.kp T.b_bits_read tk wk (za_cons (ze_var 1) za_nil))))
  (zss_one (zs_if (zt_cmp (op_eqZ hr.units) snd_eq (ze_var 0) ze_int (by first | exact nobehind _ (by decide) (by decide) | rfl)) (zss_one (zs_set (i := 3) sc__law_asked.nd (ze_call (ok_items_text T) (hr.mono (by decide)) T.g_items_text T.F_items_text.kp T.b_items_text tk wk (za_cons (ze_var 1) za_nil))))
  (zss_one (zs_set (i := 3) sc__law_asked.nd (ze_call (ok_bits_text T) (hr.mono (by decide)) T.g_bits_text T.F_bits_text.kp T.b_bits_text tk wk (za_cons (ze_var 1) za_nil))))))))))))
  (zss_one (zs_ret (ze_if (zt_cmp (OpR.or op_isN op_isBl) snd_is (ze_var 2) ze_non (by first | exact nobehind _ (by decide) (by decide) | rfl)) (ze_var 3) (ze_call (ok__law_refusal T) (hr.mono (by decide)) T.g__law_refusal T.F__law_refusal.kp T.b__law_refusal (takes_of rfl rfl rfl rfl) wk (za_cons (ze_var 2) za_nil))))))))
theorem ok__law_items_due (T : Tx K mg) : FnOk P w K mg base (L2.CX P w) 1 T.f__law_items_due T.d__law_items_due p__law_items_due (liftSp K mg z__law_items_due) :=
  z_ok true (k := 0) (zb := zb__law_items_due) T.F__law_items_due sc__law_items_due (n := 5) rfl (fun ds M R RE h => by
    unfold z__law_items_due at h
    split at h
    · exact ⟨rfl, h⟩
    · exact h.elim)
  fun cdv A outer s H E F0 zE hr wk => (zss_cons (zs_if (zt_cmp (op_eqZ hr.units) snd_eq (ze_var 0) ze_str (by first | exact nobehind _ (by decide) (by decide) | rfl)) (zss_one (zs_ret (ze_lst false za_nil)))
  zss_nil)
  (zss_cons (zs_set (i := 1) sc__law_items_due.nd (ze_lst true za_nil))
  (zss_cons (zs_for (passes_of rfl) rfl (zi_list (ze_mS PySem.F.plainAttrs_str PySem.F.slot_str_split PySem.F.type_str_split mt_split (snd_split false) (ze_var 0) (za_cons ze_str za_nil))) (zg_name (i := 2) sc__law_items_due.nd) (zss_cons (zs_setLc (own := [("k", 4)]) (i := 3) false rfl sc__law_items_due.nd (sw_true rfl rfl rfl (by decide +kernel)) (zi_range1 T.n_range (za_cons ze_int za_nil)) (blkOk_by (N := N__law_items_due) (sc := defScope s__law_items_due) (by decide +kernel)) (tg_name (by decide)) (fun _ _ _ _ _ => (pg_name (i := 4) sc__law_items_due.nd rfl (by first | exact Or.inl rfl | exact Or.inr rfl))) (fun _ _ _ _ _ => (zts_one (zt_cmp (op_eqZ hr.units) snd_eq (ze_ct (CallR.or call_str_int SkE.call_str_str) snd_str T.n_str (by decide +kernel) (za_cons (ze_var 4) za_nil)) (ze_var 2) (by first | exact nobehind _ (by decide) (by decide) | rfl)))) (fun _ _ _ _ _ => (ze_var 4)))
  (zss_cons (zs_set (i := 3) sc__law_items_due.nd (ze_add false (ze_var 3) (ze_lc (own := [("one", 5)]) false rfl sc__law_items_due.nd (zi_list (ze_lst false (za_cons ze_str (za_cons ze_str (za_cons ze_str (za_cons ze_str za_nil)))))) (blkOk_by (N := N__law_items_due) (sc := defScope s__law_items_due) (by decide +kernel)) (tg_name (by decide)) (fun _ _ _ _ _ => (pg_name (i := 5) sc__law_items_due.nd rfl (by first | exact Or.inl rfl | exact Or.inr rfl))) (fun _ _ _ _ _ => (zts_one (zt_cmp (op_eqZ hr.units) snd_eq (ze_var 5) (ze_var 2) (by first | exact nobehind _ (by decide) (by decide) | rfl)))) (fun _ _ _ _ _ => (ze_var 5)))))
  (zss_cons (zs_if (zt_cmp (op_eqZ hr.units) snd_eq (ze_var 3) (ze_lst false za_nil) (by first | exact nobehind _ (by decide) (by decide) | rfl)) (zss_one (zs_ret ze_non))
  zss_nil)
  (zss_one (zs_expr (ze_mL PySem.F.plainAttrs_list PySem.F.slot_list_append PySem.F.type_list_append mt_append snd_app (ze_var 1) (za_cons (ze_ix (ze_var 3) ze_int (fun _ _ => rfl)) za_nil))))))))
  (zss_one (zs_ret (ze_var 1))))))
theorem ok__law_bits_due (T : Tx K mg) : FnOk P w K mg base (L2.CX P w) 1 T.f__law_bits_due T.d__law_bits_due p__law_bits_due (liftSp K mg z__law_bits_due) :=
  z_ok false (k := 0) (zb := zb__law_bits_due) T.F__law_bits_due sc__law_bits_due (n := 4) rfl (fun ds M R RE h => by
    unfold z__law_bits_due at h
    split at h
    · exact ⟨rfl, h⟩
    · exact h.elim)
  fun cdv A outer s H E F0 zE hr wk => (zss_cons (zs_setLc (own := [("k", 3)]) (i := 1) false rfl sc__law_bits_due.nd (sw_true rfl rfl rfl (by decide +kernel)) (zi_range1 T.n_range (za_cons (ze_cb call_len snd_len T.n_len (by decide +kernel) (za_cons (ze_var 0) za_nil)) za_nil)) (blkOk_by (N := N__law_bits_due) (sc := defScope s__law_bits_due) (by decide +kernel)) (tg_name (by decide)) (fun _ _ _ _ _ => (pg_name (i := 3) sc__law_bits_due.nd rfl (by first | exact Or.inl rfl | exact Or.inr rfl))) (fun _ _ _ _ _ => (zts_one (zt_cmp (op_neZ hr.units) snd_ne (ze_ix (ze_var 0) (ze_var 3) (fun _ _ => rfl)) ze_str (by first | exact nobehind _ (by decide) (by decide) | rfl)))) (fun _ _ _ _ _ => (ze_var 3)))
  (zss_cons (zs_setLc (own := [("k", 3)]) (i := 2) false rfl sc__law_bits_due.nd (sw_true rfl rfl rfl (by decide +kernel)) (zi_range1 T.n_range (za_cons (ze_cb call_len snd_len T.n_len (by decide +kernel) (za_cons (ze_var 1) za_nil)) za_nil)) (blkOk_by (N := N__law_bits_due) (sc := defScope s__law_bits_due) (by decide +kernel)) (tg_name (by decide)) (fun _ _ _ _ _ => (pg_name (i := 3) sc__law_bits_due.nd rfl (by first | exact Or.inl rfl | exact Or.inr rfl))) (fun _ _ _ _ _ => zts_nil) (fun _ _ _ _ _ => (ze_add false (ze_mul false ze_int (ze_div (ze_var 3) ze_int)) (ze_mod (ze_var 3) ze_int))))
  (zss_cons (zs_if (zt_w (zw_or (zt_cmp (op_neZ hr.units) snd_ne (ze_var 1) (ze_var 2) (by first | exact nobehind _ (by decide) (by decide) | rfl)) (zw_or1 (zt_cmp (op_neZ hr.units) snd_ne (ze_cb call_len snd_len T.n_len (by decide +kernel) (za_cons (ze_var 0) za_nil)) (ze_add false (ze_ix (ze_add false (ze_lst false (za_cons (ze_sub ze_int ze_int) za_nil)) (ze_var 2)) (ze_neg ze_int) (fun _ _ => rfl)) ze_int) (by first | exact nobehind _ (by decide) (by decide) | rfl))))) (zss_one (zs_ret ze_non))
  zss_nil)
  (zss_cons (zs_if (zt_cmp (op_neZ hr.units) snd_ne (ze_lc (own := [("sign", 4)]) false rfl sc__law_bits_due.nd (zi_str (ze_var 0)) (blkOk_by (N := N__law_bits_due) (sc := defScope s__law_bits_due) (by decide +kernel)) (tg_name (by decide)) (fun _ _ _ _ _ => (pg_name (i := 4) sc__law_bits_due.nd rfl (by first | exact Or.inl rfl | exact Or.inr rfl))) (fun _ _ _ _ _ => (zts_one (zt_cmp op_notInZ (snd_in true) (ze_var 4) ze_str (by first | exact nobehind _ (by decide) (by decide) | rfl)))) (fun _ _ _ _ _ => (ze_var 4))) (ze_lst false za_nil) (by first | exact nobehind _ (by decide) (by decide) | rfl)) (zss_one (zs_ret ze_non))
  zss_nil)
  (zss_one (zs_ret (ze_lc (own := [("k", 3)]) false rfl sc__law_bits_due.nd (zi_list (ze_var 1)) (blkOk_by (N := N__law_bits_due) (sc := defScope s__law_bits_due) (by decide +kernel)) (tg_name (by decide)) (fun _ _ _ _ _ => (pg_name (i := 3) sc__law_bits_due.nd rfl (by first | exact Or.inl rfl | exact Or.inr rfl))) (fun _ _ _ _ _ => zts_nil) (fun _ _ _ _ _ => (ze_if (zt_cmp (op_eqZ hr.units) snd_eq (ze_ix (ze_var 0) (ze_var 3) (fun _ _ => rfl)) ze_str (by first | exact nobehind _ (by decide) (by decide) | rfl)) ze_int ze_int)))))))))
theorem ok__law_spoilt (T : Tx K mg) : FnOk P w K mg base (L2.CX P w) 3 T.f__law_spoilt T.d__law_spoilt p__law_spoilt (liftSp K mg z__law_spoilt) :=
  z_ok false (k := 2) (zb := zb__law_spoilt) T.F__law_spoilt sc__law_spoilt (n := 3) rfl (fun ds M R RE h => by
    unfold z__law_spoilt at h
    split at h
    · exact ⟨rfl, h⟩
    · exact h.elim)
  fun cdv A outer s H E F0 zE hr wk => (zss_cons (zs_set (i := 2) sc__law_spoilt.nd (ze_call (ok__law_draw T) (hr.mono (by decide)) T.g__law_draw T.F__law_draw.kp T.b__law_draw (takes_of rfl rfl rfl rfl) wk (za_cons (ze_var 0) (za_cons (ze_add false (ze_cb call_len snd_len T.n_len (by decide +kernel) (za_cons (ze_var 1) za_nil)) ze_int) za_nil))))
  (zss_cons (zs_set (i := 3) sc__law_spoilt.nd (ze_call (ok__law_pick T) (hr.mono (by decide)) T.g__law_pick T.F__law_pick.kp T.b__law_pick (takes_of rfl rfl rfl rfl) wk (za_cons (ze_var 0) (za_cons (ze_lst false (za_cons ze_str (za_cons ze_str (za_cons ze_str (za_cons ze_str (za_cons ze_str (za_cons ze_str (za_cons ze_str (za_cons ze_str (za_cons ze_str (za_cons ze_str za_nil))))))))))) za_nil))))
  (zss_cons (zs_set (i := 4) sc__law_spoilt.nd (ze_lst false (za_cons (ze_add false (ze_add false (ze_sl false (ze_var 1) zo_none (zo_some (ze_var 2))) (ze_var 3)) (ze_sl false (ze_var 1) (zo_some (ze_var 2)) zo_none)) (za_cons (ze_add false (ze_sl false (ze_var 1) zo_none (zo_some (ze_var 2))) (ze_sl false (ze_var 1) (zo_some (ze_add false (ze_var 2) ze_int)) zo_none)) (za_cons (ze_var 1) za_nil)))))
  (zss_one (zs_ret (ze_call (ok__law_pick T) (hr.mono (by decide)) T.g__law_pick T.F__law_pick.kp T.b__law_pick (takes_of rfl rfl rfl rfl) wk (za_cons (ze_var 0) (za_cons (ze_add false (ze_var 4) (ze_lst false (za_cons (ze_add false (ze_add false (ze_sl false (ze_var 1) zo_none (zo_some (ze_var 2))) (ze_var 3)) (ze_sl false (ze_var 1) (zo_some (ze_add false (ze_var 2) ze_int)) zo_none)) za_nil))) za_nil))))))))
theorem ok_law (T : Tx K mg) : FnOk P w K mg base (L2.CX P w) 6 T.f_law T.d_law p_law (liftSp K mg z_law) :=
  z_ok false (k := 5) (zb := zb_law) T.F_law sc_law (n := 13) rfl (fun ds M R RE h => by
    unfold z_law at h
    split at h
    · exact ⟨rfl, h⟩
    · exact h.elim)
  fun cdv A outer s H E F0 zE hr wk => (zss_cons (zs_set (i := 1) sc_law.nd (ze_call (ok__law_town T) (hr.mono (by decide)) T.g__law_town T.F__law_town.kp T.b__law_town (takes_of rfl rfl rfl rfl) wk (za_cons (ze_var 0) za_nil)))
  (zss_cons (zs_for (passes_of rfl) rfl (zi_range1 T.n_range (za_cons ze_int za_nil)) (zg_name (i := 2) sc_law.nd) (zss_cons (zs_set (i := 3) sc_law.nd (ze_call (ok__law_spoilt T) (hr.mono (by decide)) T.g__law_spoilt T.F__law_spoilt.kp T.b__law_spoilt (takes_of rfl rfl rfl rfl) wk (za_cons (ze_var 1) (za_cons (ze_mS PySem.F.plainAttrs_str PySem.F.slot_str_join PySem.F.type_str_join mt_join snd_join ze_str (za_cons (ze_lc (own := [("item", 10)]) false rfl sc_law.nd (zi_list (ze_call (ok__law_items T) (hr.mono (by decide)) T.g__law_items T.F__law_items.kp T.b__law_items (takes_of rfl rfl rfl rfl) wk (za_cons (ze_var 1) (za_cons ze_int za_nil)))) (blkOk_by (N := N_law) (sc := defScope s_law) (by decide +kernel)) (tg_name (by decide)) (fun _ _ _ _ _ => (pg_name (i := 10) sc_law.nd rfl (by first | exact Or.inl rfl | exact Or.inr rfl))) (fun _ _ _ _ _ => zts_nil) (fun _ _ _ _ _ => (ze_ct (CallR.or call_str_int SkE.call_str_str) snd_str T.n_str (by decide +kernel) (za_cons (ze_var 10) za_nil)))) za_nil)) za_nil))))
  (zss_cons (zs_set (i := 4) sc_law.nd (ze_call (ok__law_items_due T) (hr.mono (by decide)) T.g__law_items_due T.F__law_items_due.kp T.b__law_items_due (takes_of rfl rfl rfl rfl) wk (za_cons (ze_var 3) za_nil)))
  (zss_cons (zs_if (zt_cmp (op_neZ hr.units) snd_ne (ze_call (ok__law_asked T) (hr.mono (by decide)) T.g__law_asked T.F__law_asked.kp T.b__law_asked (takes_of rfl rfl rfl rfl) wk (za_cons ze_int (za_cons (ze_var 3) za_nil))) (ze_if (zt_cmp (OpR.or op_isN op_isBl) snd_is (ze_var 4) ze_non (by first | exact nobehind _ (by decide) (by decide) | rfl)) ze_str (ze_var 4)) (by first | exact nobehind _ (by decide) (by decide) | rfl)) (zss_one (zs_ret ze_bl))
  zss_nil)
  (zss_cons (zs_set (i := 5) sc_law.nd (ze_call (ok__law_some_bits T) (hr.mono (by decide)) T.g__law_some_bits T.F__law_some_bits.kp T.b__law_some_bits (takes_of rfl rfl rfl rfl) wk (za_cons (ze_var 1) (za_cons ze_int za_nil))))
  (zss_cons (zs_set (i := 6) sc_law.nd (ze_mS PySem.F.plainAttrs_str PySem.F.slot_str_join PySem.F.type_str_join mt_join snd_join ze_str (za_cons (ze_lc (own := [("k", 11)]) false rfl sc_law.nd (zi_range3 T.n_range (za_cons ze_int (za_cons (ze_cb call_len snd_len T.n_len (by decide +kernel) (za_cons (ze_var 5) za_nil)) (za_cons ze_int za_nil)))) (blkOk_by (N := N_law) (sc := defScope s_law) (by decide +kernel)) (tg_name (by decide)) (fun _ _ _ _ _ => (pg_name (i := 11) sc_law.nd rfl (by first | exact Or.inl rfl | exact Or.inr rfl))) (fun _ _ _ _ _ => zts_nil) (fun _ _ _ _ _ => (ze_mS PySem.F.plainAttrs_str PySem.F.slot_str_join PySem.F.type_str_join mt_join snd_join ze_str (za_cons (ze_lc (own := [("bit", 12)]) false rfl sc_law.nd (zi_list (ze_sl false (ze_var 5) (zo_some (ze_var 11)) (zo_some (ze_add false (ze_var 11) ze_int)))) (blkOk_by (by kernel_rfl)) (tg_name (by decide)) (fun _ _ _ _ _ => (pg_name (i := 12) sc_law.nd rfl (by first | exact Or.inl rfl | exact Or.inr rfl))) (fun _ _ _ _ _ => zts_nil) (fun _ _ _ _ _ => (ze_ct (CallR.or call_str_int SkE.call_str_str) snd_str T.n_str (by decide +kernel) (za_cons (ze_var 12) za_nil)))) za_nil)))) za_nil)))
  (zss_cons (zs_set (i := 6) sc_law.nd (ze_call (ok__law_spoilt T) (hr.mono (by decide)) T.g__law_spoilt T.F__law_spoilt.kp T.b__law_spoilt (takes_of rfl rfl rfl rfl) wk (za_cons (ze_var 1) (za_cons (ze_var 6) za_nil))))
  (zss_cons (zs_set (i := 4) sc_law.nd (ze_call (ok__law_bits_due T) (hr.mono (by decide)) T.g__law_bits_due T.F__law_bits_due.kp T.b__law_bits_due (takes_of rfl rfl rfl rfl) wk (za_cons (ze_var 6) za_nil)))
  (zss_one (zs_if (zt_cmp (op_neZ hr.units) snd_ne (ze_call (ok__law_asked T) (hr.mono (by decide)) T.g__law_asked T.F__law_asked.kp T.b__law_asked (takes_of rfl rfl rfl rfl) wk (za_cons ze_int (za_cons (ze_var 6) za_nil))) (ze_if (zt_cmp (OpR.or op_isN op_isBl) snd_is (ze_var 4) ze_non (by first | exact nobehind _ (by decide) (by decide) | rfl)) ze_str (ze_var 4)) (by first | exact nobehind _ (by decide) (by decide) | rfl)) (zss_one (zs_ret ze_bl))
  zss_nil))))))))))
  (zss_cons (zs_set (i := 7) sc_law.nd (ze_call (ok__law_pick T) (hr.mono (by decide)) T.g__law_pick T.F__law_pick.kp T.b__law_pick (takes_of rfl rfl rfl rfl) wk (za_cons (ze_var 1) (za_cons (ze_lst false (za_cons ze_str (za_cons ze_str (za_cons ze_str (za_cons ze_str (za_cons ze_str (za_cons ze_str (za_cons ze_str (za_cons ze_str (za_cons ze_str (za_cons ze_str za_nil))))))))))) za_nil))))
  (zss_cons (zs_if (zt_cmp (op_neZ hr.units) snd_ne (ze_call (ok__law_asked T) (hr.mono (by decide)) T.g__law_asked T.F__law_asked.kp T.b__law_asked (takes_of rfl rfl rfl rfl) wk (za_cons ze_int (za_cons (ze_var 7) za_nil))) ze_str (by first | exact nobehind _ (by decide) (by decide) | rfl)) (zss_one (zs_ret ze_bl))
  zss_nil)
  (zss_cons (zs_for (passes_of rfl) rfl (zi_list (ze_lst false (za_cons ze_non (za_cons ze_int (za_cons (ze_lst false (za_cons ze_str za_nil)) (za_cons ze_bl (za_cons ze_dct (za_cons (ze_tup (za_cons ze_int za_nil)) za_nil)))))))) (zg_name (i := 8) sc_law.nd) (zss_cons (zs_setLc (own := [("kind", 13)]) (i := 9) false rfl sc_law.nd (sw_true rfl rfl rfl (by decide +kernel)) (zi_range1 T.n_range (za_cons ze_int za_nil)) (blkOk_by (N := N_law) (sc := defScope s_law) (by decide +kernel)) (tg_name (by decide)) (fun _ _ _ _ _ => (pg_name (i := 13) sc_law.nd rfl (by first | exact Or.inl rfl | exact Or.inr rfl))) (fun _ _ _ _ _ => zts_nil) (fun _ _ _ _ _ => (ze_call (ok__law_asked T) (hr.mono (by decide)) T.g__law_asked T.F__law_asked.kp T.b__law_asked takes0 wok0 (za_cons (ze_var 13) (za_cons (ze_var 8) za_nil)))))
  (zss_one (zs_if (zt_cmp (op_neZ hr.units) snd_ne (ze_var 9) (ze_lst false (za_cons ze_str (za_cons ze_str (za_cons ze_str (za_cons ze_str za_nil))))) (by first | exact nobehind _ (by decide) (by decide) | rfl)) (zss_one (zs_ret ze_bl))
  zss_nil))))
  (zss_one (zs_ret (ze_and (ze_cmp (op_eqZ hr.units) snd_eq (ze_call (ok__law_asked T) (hr.mono (by decide)) T.g__law_asked T.F__law_asked.kp T.b__law_asked (takes_of rfl rfl rfl rfl) wk (za_cons ze_int (za_cons (ze_lst false (za_cons ze_int (za_cons ze_int za_nil))) za_nil))) ze_str (by first | exact nobehind _ (by decide) (by decide) | rfl)) (ze_one (ze_cmp (op_eqZ hr.units) snd_eq (ze_call (ok__law_asked T) (hr.mono (by decide)) T.g__law_asked T.F__law_asked.kp T.b__law_asked (takes_of rfl rfl rfl rfl) wk (za_cons ze_int (za_cons (ze_lst false (za_cons ze_int (za_cons ze_int za_nil))) za_nil))) ze_str (by first | exact nobehind _ (by decide) (by decide) | rfl)))))))))))
end
def spLaw (K : PySem.W.Frag) : Sp := fun vs H Q _ => ∃ (a : Addr) (ns : List Int), vs = [.ref a] ∧ SqL K H a (ns.map V.int) ∧ cellsOk ns ∧ ∀ H', Q (.bl true) H'
theorem all_mk (HL : ∀ ns : List Int, ns.length ≤ 63 → z_law [.scr ns] (fun _ => none) (fun d _ => d = .bl true) fun _ _ _ => False) {l : PySem.W.OpenLaw} {w : World} {K : PySem.W.Frag} {h : Heap} {mg : Str → Option Value} {fa : Addr} (X : K.In h) (G : h.Ns mainGlobals mg) (hfa : mg "law" = some (.ref fa))
    {f_is_whole : Addr} {od_is_whole an_is_whole : Option Addr} {sl_is_whole : Array (Option Value)} {oc_is_whole kV_is_whole dc_is_whole pm_is_whole cd_is_whole ct_is_whole : Value}
    {f_look_bits : Addr} {od_look_bits an_look_bits : Option Addr} {sl_look_bits : Array (Option Value)} {oc_look_bits kV_look_bits dc_look_bits pm_look_bits cd_look_bits ct_look_bits : Value}
    {f_is_item : Addr} {od_is_item an_is_item : Option Addr} {sl_is_item : Array (Option Value)} {oc_is_item kV_is_item dc_is_item pm_is_item cd_is_item ct_is_item : Value}
    {f_look_items : Addr} {od_look_items an_look_items : Option Addr} {sl_look_items : Array (Option Value)} {oc_look_items kV_look_items dc_look_items pm_look_items cd_look_items ct_look_items : Value}
    {f_items_text : Addr} {od_items_text an_items_text : Option Addr} {sl_items_text : Array (Option Value)} {oc_items_text kV_items_text dc_items_text pm_items_text cd_items_text ct_items_text : Value}
    {f_word_item : Addr} {od_word_item an_word_item : Option Addr} {sl_word_item : Array (Option Value)} {oc_word_item kV_word_item dc_word_item pm_word_item cd_word_item ct_word_item : Value}
    {f_items_read : Addr} {od_items_read an_items_read : Option Addr} {sl_items_read : Array (Option Value)} {oc_items_read kV_items_read dc_items_read pm_items_read cd_items_read ct_items_read : Value}
    {f_bits_text : Addr} {od_bits_text an_bits_text : Option Addr} {sl_bits_text : Array (Option Value)} {oc_bits_text kV_bits_text dc_bits_text pm_bits_text cd_bits_text ct_bits_text : Value}
    {f_bits_read : Addr} {od_bits_read an_bits_read : Option Addr} {sl_bits_read : Array (Option Value)} {oc_bits_read kV_bits_read dc_bits_read pm_bits_read cd_bits_read ct_bits_read : Value}
    {f__law_town : Addr} {od__law_town an__law_town : Option Addr} {sl__law_town : Array (Option Value)} {oc__law_town kV__law_town dc__law_town pm__law_town cd__law_town ct__law_town : Value}
    {f__law_draw : Addr} {od__law_draw an__law_draw : Option Addr} {sl__law_draw : Array (Option Value)} {oc__law_draw kV__law_draw dc__law_draw pm__law_draw cd__law_draw ct__law_draw : Value}
    {f__law_pick : Addr} {od__law_pick an__law_pick : Option Addr} {sl__law_pick : Array (Option Value)} {oc__law_pick kV__law_pick dc__law_pick pm__law_pick cd__law_pick ct__law_pick : Value}
    {f__law_refusal : Addr} {od__law_refusal an__law_refusal : Option Addr} {sl__law_refusal : Array (Option Value)} {oc__law_refusal kV__law_refusal dc__law_refusal pm__law_refusal cd__law_refusal ct__law_refusal : Value}
    {f__law_ten : Addr} {od__law_ten an__law_ten : Option Addr} {sl__law_ten : Array (Option Value)} {oc__law_ten kV__law_ten dc__law_ten pm__law_ten cd__law_ten ct__law_ten : Value}
    {f__law_some_bits : Addr} {od__law_some_bits an__law_some_bits : Option Addr} {sl__law_some_bits : Array (Option Value)} {oc__law_some_bits kV__law_some_bits dc__law_some_bits pm__law_some_bits cd__law_some_bits ct__law_some_bits : Value}
    {f__law_byte : Addr} {od__law_byte an__law_byte : Option Addr} {sl__law_byte : Array (Option Value)} {oc__law_byte kV__law_byte dc__law_byte pm__law_byte cd__law_byte ct__law_byte : Value}
    {f__law_item : Addr} {od__law_item an__law_item : Option Addr} {sl__law_item : Array (Option Value)} {oc__law_item kV__law_item dc__law_item pm__law_item cd__law_item ct__law_item : Value}
    {f__law_items : Addr} {od__law_items an__law_items : Option Addr} {sl__law_items : Array (Option Value)} {oc__law_items kV__law_items dc__law_items pm__law_items cd__law_items ct__law_items : Value}
    {f__law_asked : Addr} {od__law_asked an__law_asked : Option Addr} {sl__law_asked : Array (Option Value)} {oc__law_asked kV__law_asked dc__law_asked pm__law_asked cd__law_asked ct__law_asked : Value}
    {f__law_items_due : Addr} {od__law_items_due an__law_items_due : Option Addr} {sl__law_items_due : Array (Option Value)} {oc__law_items_due kV__law_items_due dc__law_items_due pm__law_items_due cd__law_items_due ct__law_items_due : Value}
    {f__law_bits_due : Addr} {od__law_bits_due an__law_bits_due : Option Addr} {sl__law_bits_due : Array (Option Value)} {oc__law_bits_due kV__law_bits_due dc__law_bits_due pm__law_bits_due cd__law_bits_due ct__law_bits_due : Value}
    {f__law_spoilt : Addr} {od__law_spoilt an__law_spoilt : Option Addr} {sl__law_spoilt : Array (Option Value)} {oc__law_spoilt kV__law_spoilt dc__law_spoilt pm__law_spoilt cd__law_spoilt ct__law_spoilt : Value}
    {f_law : Addr} {od_law an_law : Option Addr} {sl_law : Array (Option Value)} {oc_law kV_law dc_law pm_law cd_law ct_law : Value}
    {t_BEGIN : Tok}
    {ca_CONTROLS : Addr} {cn_CONTROLS : Nat} {ci_CONTROLS : List Value} {cs_CONTROLS : Array (Option Value)}
    {t_LONG : Tok}
    {xc_BadBits : Addr}
    {xc_BadItem : Addr}
    {xc_BadText : Addr}
    {xc_Against : Addr}
    {xc_BadLane : Addr}
    {xc_BadPoise : Addr}
    {xc_BadPool : Addr}
    {xc_BadRow : Addr}
    {xc_BadWord : Addr}
    {xc_Dry : Addr}
    {xc_LineError : Addr}
    {xc_Over : Addr}
    (a_is_whole : PySem.W.nsIn K mainGlobals "is_whole" = some (some (.ref f_is_whole)))
    (l_is_whole : K.lookup f_is_whole = some ⟨oc_is_whole, od_is_whole, .func (PySem.W.fnOf "is_whole" "is_whole" (defArgs s_is_whole) (defBody s_is_whole) (defScope s_is_whole) .none kV_is_whole dc_is_whole pm_is_whole an_is_whole cd_is_whole ct_is_whole), sl_is_whole⟩)
    (c_is_whole : PySem.W.codeIn K cd_is_whole "is_whole" = true)
    (k_is_whole : PySem.W.keepIn K (.ref f_is_whole) = true)
    (a_look_bits : PySem.W.nsIn K mainGlobals "look_bits" = some (some (.ref f_look_bits)))
    (l_look_bits : K.lookup f_look_bits = some ⟨oc_look_bits, od_look_bits, .func (PySem.W.fnOf "look_bits" "look_bits" (defArgs s_look_bits) (defBody s_look_bits) (defScope s_look_bits) .none kV_look_bits dc_look_bits pm_look_bits an_look_bits cd_look_bits ct_look_bits), sl_look_bits⟩)
    (c_look_bits : PySem.W.codeIn K cd_look_bits "look_bits" = true)
    (k_look_bits : PySem.W.keepIn K (.ref f_look_bits) = true)
    (a_is_item : PySem.W.nsIn K mainGlobals "is_item" = some (some (.ref f_is_item)))
    (l_is_item : K.lookup f_is_item = some ⟨oc_is_item, od_is_item, .func (PySem.W.fnOf "is_item" "is_item" (defArgs s_is_item) (defBody s_is_item) (defScope s_is_item) .none kV_is_item dc_is_item pm_is_item an_is_item cd_is_item ct_is_item), sl_is_item⟩)
    (c_is_item : PySem.W.codeIn K cd_is_item "is_item" = true)
    (k_is_item : PySem.W.keepIn K (.ref f_is_item) = true)
    (a_look_items : PySem.W.nsIn K mainGlobals "look_items" = some (some (.ref f_look_items)))
    (l_look_items : K.lookup f_look_items = some ⟨oc_look_items, od_look_items, .func (PySem.W.fnOf "look_items" "look_items" (defArgs s_look_items) (defBody s_look_items) (defScope s_look_items) .none kV_look_items dc_look_items pm_look_items an_look_items cd_look_items ct_look_items), sl_look_items⟩)
    (c_look_items : PySem.W.codeIn K cd_look_items "look_items" = true)
    (k_look_items : PySem.W.keepIn K (.ref f_look_items) = true)
    (a_items_text : PySem.W.nsIn K mainGlobals "items_text" = some (some (.ref f_items_text)))
    (l_items_text : K.lookup f_items_text = some ⟨oc_items_text, od_items_text, .func (PySem.W.fnOf "items_text" "items_text" (defArgs s_items_text) (defBody s_items_text) (defScope s_items_text) .none kV_items_text dc_items_text pm_items_text an_items_text cd_items_text ct_items_text), sl_items_text⟩)
    (c_items_text : PySem.W.codeIn K cd_items_text "items_text" = true)
    (k_items_text : PySem.W.keepIn K (.ref f_items_text) = true)
    (a_word_item : PySem.W.nsIn K mainGlobals "word_item" = some (some (.ref f_word_item)))
    (l_word_item : K.lookup f_word_item = some ⟨oc_word_item, od_word_item, .func (PySem.W.fnOf "word_item" "word_item" (defArgs s_word_item) (defBody s_word_item) (defScope s_word_item) .none kV_word_item dc_word_item pm_word_item an_word_item cd_word_item ct_word_item), sl_word_item⟩)
    (c_word_item : PySem.W.codeIn K cd_word_item "word_item" = true)
    (k_word_item : PySem.W.keepIn K (.ref f_word_item) = true)
    (a_items_read : PySem.W.nsIn K mainGlobals "items_read" = some (some (.ref f_items_read)))
    (l_items_read : K.lookup f_items_read = some ⟨oc_items_read, od_items_read, .func (PySem.W.fnOf "items_read" "items_read" (defArgs s_items_read) (defBody s_items_read) (defScope s_items_read) .none kV_items_read dc_items_read pm_items_read an_items_read cd_items_read ct_items_read), sl_items_read⟩)
    (c_items_read : PySem.W.codeIn K cd_items_read "items_read" = true)
    (k_items_read : PySem.W.keepIn K (.ref f_items_read) = true)
    (a_bits_text : PySem.W.nsIn K mainGlobals "bits_text" = some (some (.ref f_bits_text)))
    (l_bits_text : K.lookup f_bits_text = some ⟨oc_bits_text, od_bits_text, .func (PySem.W.fnOf "bits_text" "bits_text" (defArgs s_bits_text) (defBody s_bits_text) (defScope s_bits_text) .none kV_bits_text dc_bits_text pm_bits_text an_bits_text cd_bits_text ct_bits_text), sl_bits_text⟩)
    (c_bits_text : PySem.W.codeIn K cd_bits_text "bits_text" = true)
    (k_bits_text : PySem.W.keepIn K (.ref f_bits_text) = true)
    (a_bits_read : PySem.W.nsIn K mainGlobals "bits_read" = some (some (.ref f_bits_read)))
    (l_bits_read : K.lookup f_bits_read = some ⟨oc_bits_read, od_bits_read, .func (PySem.W.fnOf "bits_read" "bits_read" (defArgs s_bits_read) (defBody s_bits_read) (defScope s_bits_read) .none kV_bits_read dc_bits_read pm_bits_read an_bits_read cd_bits_read ct_bits_read), sl_bits_read⟩)
    (c_bits_read : PySem.W.codeIn K cd_bits_read "bits_read" = true)
    (k_bits_read : PySem.W.keepIn K (.ref f_bits_read) = true)
    (a__law_town : PySem.W.nsIn K mainGlobals "_law_town" = some (some (.ref f__law_town)))
    (l__law_town : K.lookup f__law_town = some ⟨oc__law_town, od__law_town, .func (PySem.W.fnOf "_law_town" "_law_town" (defArgs s__law_town) (defBody s__law_town) (defScope s__law_town) .none kV__law_town dc__law_town pm__law_town an__law_town cd__law_town ct__law_town), sl__law_town⟩)
    (c__law_town : PySem.W.codeIn K cd__law_town "_law_town" = true)
    (k__law_town : PySem.W.keepIn K (.ref f__law_town) = true)
    (a__law_draw : PySem.W.nsIn K mainGlobals "_law_draw" = some (some (.ref f__law_draw)))
    (l__law_draw : K.lookup f__law_draw = some ⟨oc__law_draw, od__law_draw, .func (PySem.W.fnOf "_law_draw" "_law_draw" (defArgs s__law_draw) (defBody s__law_draw) (defScope s__law_draw) .none kV__law_draw dc__law_draw pm__law_draw an__law_draw cd__law_draw ct__law_draw), sl__law_draw⟩)
    (c__law_draw : PySem.W.codeIn K cd__law_draw "_law_draw" = true)
    (k__law_draw : PySem.W.keepIn K (.ref f__law_draw) = true)
    (a__law_pick : PySem.W.nsIn K mainGlobals "_law_pick" = some (some (.ref f__law_pick)))
    (l__law_pick : K.lookup f__law_pick = some ⟨oc__law_pick, od__law_pick, .func (PySem.W.fnOf "_law_pick" "_law_pick" (defArgs s__law_pick) (defBody s__law_pick) (defScope s__law_pick) .none kV__law_pick dc__law_pick pm__law_pick an__law_pick cd__law_pick ct__law_pick), sl__law_pick⟩)
    (c__law_pick : PySem.W.codeIn K cd__law_pick "_law_pick" = true)
    (k__law_pick : PySem.W.keepIn K (.ref f__law_pick) = true)
    (a__law_refusal : PySem.W.nsIn K mainGlobals "_law_refusal" = some (some (.ref f__law_refusal)))
    (l__law_refusal : K.lookup f__law_refusal = some ⟨oc__law_refusal, od__law_refusal, .func (PySem.W.fnOf "_law_refusal" "_law_refusal" (defArgs s__law_refusal) (defBody s__law_refusal) (defScope s__law_refusal) .none kV__law_refusal dc__law_refusal pm__law_refusal an__law_refusal cd__law_refusal ct__law_refusal), sl__law_refusal⟩)
    (c__law_refusal : PySem.W.codeIn K cd__law_refusal "_law_refusal" = true)
    (k__law_refusal : PySem.W.keepIn K (.ref f__law_refusal) = true)
    (a__law_ten : PySem.W.nsIn K mainGlobals "_law_ten" = some (some (.ref f__law_ten)))
    (l__law_ten : K.lookup f__law_ten = some ⟨oc__law_ten, od__law_ten, .func (PySem.W.fnOf "_law_ten" "_law_ten" (defArgs s__law_ten) (defBody s__law_ten) (defScope s__law_ten) .none kV__law_ten dc__law_ten pm__law_ten an__law_ten cd__law_ten ct__law_ten), sl__law_ten⟩)
    (c__law_ten : PySem.W.codeIn K cd__law_ten "_law_ten" = true)
    (k__law_ten : PySem.W.keepIn K (.ref f__law_ten) = true)
    (a__law_some_bits : PySem.W.nsIn K mainGlobals "_law_some_bits" = some (some (.ref f__law_some_bits)))
    (l__law_some_bits : K.lookup f__law_some_bits = some ⟨oc__law_some_bits, od__law_some_bits, .func (PySem.W.fnOf "_law_some_bits" "_law_some_bits" (defArgs s__law_some_bits) (defBody s__law_some_bits) (defScope s__law_some_bits) .none kV__law_some_bits dc__law_some_bits pm__law_some_bits an__law_some_bits cd__law_some_bits ct__law_some_bits), sl__law_some_bits⟩)
    (c__law_some_bits : PySem.W.codeIn K cd__law_some_bits "_law_some_bits" = true)
    (k__law_some_bits : PySem.W.keepIn K (.ref f__law_some_bits) = true)
    (a__law_byte : PySem.W.nsIn K mainGlobals "_law_byte" = some (some (.ref f__law_byte)))
    (l__law_byte : K.lookup f__law_byte = some ⟨oc__law_byte, od__law_byte, .func (PySem.W.fnOf "_law_byte" "_law_byte" (defArgs s__law_byte) (defBody s__law_byte) (defScope s__law_byte) .none kV__law_byte dc__law_byte pm__law_byte an__law_byte cd__law_byte ct__law_byte), sl__law_byte⟩)
    (c__law_byte : PySem.W.codeIn K cd__law_byte "_law_byte" = true)
    (k__law_byte : PySem.W.keepIn K (.ref f__law_byte) = true)
    (a__law_item : PySem.W.nsIn K mainGlobals "_law_item" = some (some (.ref f__law_item)))
    (l__law_item : K.lookup f__law_item = some ⟨oc__law_item, od__law_item, .func (PySem.W.fnOf "_law_item" "_law_item" (defArgs s__law_item) (defBody s__law_item) (defScope s__law_item) .none kV__law_item dc__law_item pm__law_item an__law_item cd__law_item ct__law_item), sl__law_item⟩)
    (c__law_item : PySem.W.codeIn K cd__law_item "_law_item" = true)
    (k__law_item : PySem.W.keepIn K (.ref f__law_item) = true)
    (a__law_items : PySem.W.nsIn K mainGlobals "_law_items" = some (some (.ref f__law_items)))
    (l__law_items : K.lookup f__law_items = some ⟨oc__law_items, od__law_items, .func (PySem.W.fnOf "_law_items" "_law_items" (defArgs s__law_items) (defBody s__law_items) (defScope s__law_items) .none kV__law_items dc__law_items pm__law_items an__law_items cd__law_items ct__law_items), sl__law_items⟩)
    (c__law_items : PySem.W.codeIn K cd__law_items "_law_items" = true)
    (k__law_items : PySem.W.keepIn K (.ref f__law_items) = true)
    (a__law_asked : PySem.W.nsIn K mainGlobals "_law_asked" = some (some (.ref f__law_asked)))
    (l__law_asked : K.lookup f__law_asked = some ⟨oc__law_asked, od__law_asked, .func (PySem.W.fnOf "_law_asked" "_law_asked" (defArgs s__law_asked) (defBody s__law_asked) (defScope s__law_asked) .none kV__law_asked dc__law_asked pm__law_asked an__law_asked cd__law_asked ct__law_asked), sl__law_asked⟩)
    (c__law_asked : PySem.W.codeIn K cd__law_asked "_law_asked" = true)
    (k__law_asked : PySem.W.keepIn K (.ref f__law_asked) = true)
    (a__law_items_due : PySem.W.nsIn K mainGlobals "_law_items_due" = some (some (.ref f__law_items_due)))
    (l__law_items_due : K.lookup f__law_items_due = some ⟨oc__law_items_due, od__law_items_due, .func (PySem.W.fnOf "_law_items_due" "_law_items_due" (defArgs s__law_items_due) (defBody s__law_items_due) (defScope s__law_items_due) .none kV__law_items_due dc__law_items_due pm__law_items_due an__law_items_due cd__law_items_due ct__law_items_due), sl__law_items_due⟩)
    (c__law_items_due : PySem.W.codeIn K cd__law_items_due "_law_items_due" = true)
    (k__law_items_due : PySem.W.keepIn K (.ref f__law_items_due) = true)
    (a__law_bits_due : PySem.W.nsIn K mainGlobals "_law_bits_due" = some (some (.ref f__law_bits_due)))
    (l__law_bits_due : K.lookup f__law_bits_due = some ⟨oc__law_bits_due, od__law_bits_due, .func (PySem.W.fnOf "_law_bits_due" "_law_bits_due" (defArgs s__law_bits_due) (defBody s__law_bits_due) (defScope s__law_bits_due) .none kV__law_bits_due dc__law_bits_due pm__law_bits_due an__law_bits_due cd__law_bits_due ct__law_bits_due), sl__law_bits_due⟩)
    (c__law_bits_due : PySem.W.codeIn K cd__law_bits_due "_law_bits_due" = true)
    (k__law_bits_due : PySem.W.keepIn K (.ref f__law_bits_due) = true)
    (a__law_spoilt : PySem.W.nsIn K mainGlobals "_law_spoilt" = some (some (.ref f__law_spoilt)))
    (l__law_spoilt : K.lookup f__law_spoilt = some ⟨oc__law_spoilt, od__law_spoilt, .func (PySem.W.fnOf "_law_spoilt" "_law_spoilt" (defArgs s__law_spoilt) (defBody s__law_spoilt) (defScope s__law_spoilt) .none kV__law_spoilt dc__law_spoilt pm__law_spoilt an__law_spoilt cd__law_spoilt ct__law_spoilt), sl__law_spoilt⟩)
    (c__law_spoilt : PySem.W.codeIn K cd__law_spoilt "_law_spoilt" = true)
    (k__law_spoilt : PySem.W.keepIn K (.ref f__law_spoilt) = true)
    (a_law : PySem.W.nsIn K mainGlobals "law" = some (some (.ref f_law)))
    (l_law : K.lookup f_law = some ⟨oc_law, od_law, .func (PySem.W.fnOf "law" "law" (defArgs s_law) (defBody s_law) (defScope s_law) .none kV_law dc_law pm_law an_law cd_law ct_law), sl_law⟩)
    (c_law : PySem.W.codeIn K cd_law "law" = true)
    (k_law : PySem.W.keepIn K (.ref f_law) = true)
    (cn_BEGIN : PySem.W.nsIn K mainGlobals "BEGIN" = some (some (.str "begin" t_BEGIN)))
    (ga_CONTROLS : PySem.W.nsIn K mainGlobals "CONTROLS" = some (some (.ref ca_CONTROLS)))
    (gl_CONTROLS : K.lookup ca_CONTROLS = some ⟨.type "tuple", none, .seq ci_CONTROLS.toArray cn_CONTROLS, cs_CONTROLS⟩)
    (gv_CONTROLS : ci_CONTROLS.map absV = cv_CONTROLS.map some)
    (cn_LONG : PySem.W.nsIn K mainGlobals "LONG" = some (some (.int 10 t_LONG)))
    (n_ValueError : PySem.W.nsIn K mainGlobals "ValueError" = some none)
    (n_all : PySem.W.nsIn K mainGlobals "all" = some none)
    (n_bool : PySem.W.nsIn K mainGlobals "bool" = some none)
    (n_enumerate : PySem.W.nsIn K mainGlobals "enumerate" = some none)
    (n_int : PySem.W.nsIn K mainGlobals "int" = some none)
    (n_isinstance : PySem.W.nsIn K mainGlobals "isinstance" = some none)
    (n_len : PySem.W.nsIn K mainGlobals "len" = some none)
    (n_list : PySem.W.nsIn K mainGlobals "list" = some none)
    (n_range : PySem.W.nsIn K mainGlobals "range" = some none)
    (n_str : PySem.W.nsIn K mainGlobals "str" = some none)
    (xa_BadBits : PySem.W.nsIn K mainGlobals "BadBits" = some (some (.ref xc_BadBits)))
    (xx_BadBits : PySem.W.excIn K xc_BadBits [.type "ValueError", .type "Exception", .type "BaseException", .type "object"] "ValueError.__new__" = true)
    (xk_BadBits : PySem.W.keepIn K (.ref xc_BadBits) = true)
    (xb_BadBits : PySem.W.subIn K (.ref xc_BadBits) (.type "BaseException") = some true)
    (xt_BadBits : PySem.W.typeIn K (.ref xc_BadBits) = some (.type "type"))
    (xa_BadItem : PySem.W.nsIn K mainGlobals "BadItem" = some (some (.ref xc_BadItem)))
    (xx_BadItem : PySem.W.excIn K xc_BadItem [.type "ValueError", .type "Exception", .type "BaseException", .type "object"] "ValueError.__new__" = true)
    (xk_BadItem : PySem.W.keepIn K (.ref xc_BadItem) = true)
    (xb_BadItem : PySem.W.subIn K (.ref xc_BadItem) (.type "BaseException") = some true)
    (xt_BadItem : PySem.W.typeIn K (.ref xc_BadItem) = some (.type "type"))
    (xa_BadText : PySem.W.nsIn K mainGlobals "BadText" = some (some (.ref xc_BadText)))
    (xx_BadText : PySem.W.excIn K xc_BadText [.type "ValueError", .type "Exception", .type "BaseException", .type "object"] "ValueError.__new__" = true)
    (xk_BadText : PySem.W.keepIn K (.ref xc_BadText) = true)
    (xb_BadText : PySem.W.subIn K (.ref xc_BadText) (.type "BaseException") = some true)
    (xt_BadText : PySem.W.typeIn K (.ref xc_BadText) = some (.type "type"))
    (xa_Against : PySem.W.nsIn K mainGlobals "Against" = some (some (.ref xc_Against)))
    (xa_BadLane : PySem.W.nsIn K mainGlobals "BadLane" = some (some (.ref xc_BadLane)))
    (xa_BadPoise : PySem.W.nsIn K mainGlobals "BadPoise" = some (some (.ref xc_BadPoise)))
    (xa_BadPool : PySem.W.nsIn K mainGlobals "BadPool" = some (some (.ref xc_BadPool)))
    (xa_BadRow : PySem.W.nsIn K mainGlobals "BadRow" = some (some (.ref xc_BadRow)))
    (xa_BadWord : PySem.W.nsIn K mainGlobals "BadWord" = some (some (.ref xc_BadWord)))
    (xa_Dry : PySem.W.nsIn K mainGlobals "Dry" = some (some (.ref xc_Dry)))
    (xa_LineError : PySem.W.nsIn K mainGlobals "LineError" = some (some (.ref xc_LineError)))
    (xa_Over : PySem.W.nsIn K mainGlobals "Over" = some (some (.ref xc_Over)))
    (ec_BadBits : ecB K xc_BadBits = true)
    (ec_BadItem : ecB K xc_BadItem = true)
    (ec_BadText : ecB K xc_BadText = true)
    (kk_Against_BadBits : PySem.W.kitOne K (.ref xc_BadBits) (.ref xc_Against) = some false)
    (kk_Against_BadItem : PySem.W.kitOne K (.ref xc_BadItem) (.ref xc_Against) = some false)
    (kk_Against_BadText : PySem.W.kitOne K (.ref xc_BadText) (.ref xc_Against) = some false)
    (kk_BadBits_BadBits : PySem.W.kitOne K (.ref xc_BadBits) (.ref xc_BadBits) = some true)
    (kk_BadBits_BadItem : PySem.W.kitOne K (.ref xc_BadItem) (.ref xc_BadBits) = some false)
    (kk_BadBits_BadText : PySem.W.kitOne K (.ref xc_BadText) (.ref xc_BadBits) = some false)
    (kk_BadItem_BadBits : PySem.W.kitOne K (.ref xc_BadBits) (.ref xc_BadItem) = some false)
    (kk_BadItem_BadItem : PySem.W.kitOne K (.ref xc_BadItem) (.ref xc_BadItem) = some true)
    (kk_BadItem_BadText : PySem.W.kitOne K (.ref xc_BadText) (.ref xc_BadItem) = some false)
    (kk_BadLane_BadBits : PySem.W.kitOne K (.ref xc_BadBits) (.ref xc_BadLane) = some false)
    (kk_BadLane_BadItem : PySem.W.kitOne K (.ref xc_BadItem) (.ref xc_BadLane) = some false)
    (kk_BadLane_BadText : PySem.W.kitOne K (.ref xc_BadText) (.ref xc_BadLane) = some false)
    (kk_BadPoise_BadBits : PySem.W.kitOne K (.ref xc_BadBits) (.ref xc_BadPoise) = some false)
    (kk_BadPoise_BadItem : PySem.W.kitOne K (.ref xc_BadItem) (.ref xc_BadPoise) = some false)
    (kk_BadPoise_BadText : PySem.W.kitOne K (.ref xc_BadText) (.ref xc_BadPoise) = some false)
    (kk_BadPool_BadBits : PySem.W.kitOne K (.ref xc_BadBits) (.ref xc_BadPool) = some false)
    (kk_BadPool_BadItem : PySem.W.kitOne K (.ref xc_BadItem) (.ref xc_BadPool) = some false)
    (kk_BadPool_BadText : PySem.W.kitOne K (.ref xc_BadText) (.ref xc_BadPool) = some false)
    (kk_BadRow_BadBits : PySem.W.kitOne K (.ref xc_BadBits) (.ref xc_BadRow) = some false)
    (kk_BadRow_BadItem : PySem.W.kitOne K (.ref xc_BadItem) (.ref xc_BadRow) = some false)
    (kk_BadRow_BadText : PySem.W.kitOne K (.ref xc_BadText) (.ref xc_BadRow) = some false)
    (kk_BadText_BadBits : PySem.W.kitOne K (.ref xc_BadBits) (.ref xc_BadText) = some false)
    (kk_BadText_BadItem : PySem.W.kitOne K (.ref xc_BadItem) (.ref xc_BadText) = some false)
    (kk_BadText_BadText : PySem.W.kitOne K (.ref xc_BadText) (.ref xc_BadText) = some true)
    (kk_BadWord_BadBits : PySem.W.kitOne K (.ref xc_BadBits) (.ref xc_BadWord) = some false)
    (kk_BadWord_BadItem : PySem.W.kitOne K (.ref xc_BadItem) (.ref xc_BadWord) = some false)
    (kk_BadWord_BadText : PySem.W.kitOne K (.ref xc_BadText) (.ref xc_BadWord) = some false)
    (kk_Dry_BadBits : PySem.W.kitOne K (.ref xc_BadBits) (.ref xc_Dry) = some false)
    (kk_Dry_BadItem : PySem.W.kitOne K (.ref xc_BadItem) (.ref xc_Dry) = some false)
    (kk_Dry_BadText : PySem.W.kitOne K (.ref xc_BadText) (.ref xc_Dry) = some false)
    (kk_LineError_BadBits : PySem.W.kitOne K (.ref xc_BadBits) (.ref xc_LineError) = some true)
    (kk_LineError_BadItem : PySem.W.kitOne K (.ref xc_BadItem) (.ref xc_LineError) = some true)
    (kk_LineError_BadText : PySem.W.kitOne K (.ref xc_BadText) (.ref xc_LineError) = some true)
    (kk_Over_BadBits : PySem.W.kitOne K (.ref xc_BadBits) (.ref xc_Over) = some false)
    (kk_Over_BadItem : PySem.W.kitOne K (.ref xc_BadItem) (.ref xc_Over) = some false)
    (kk_Over_BadText : PySem.W.kitOne K (.ref xc_BadText) (.ref xc_Over) = some false)
    (kk_ValueError_BadBits : PySem.W.kitOne K (.ref xc_BadBits) (.type "ValueError") = some true)
    (kk_ValueError_BadItem : PySem.W.kitOne K (.ref xc_BadItem) (.type "ValueError") = some true)
    (kk_ValueError_BadText : PySem.W.kitOne K (.ref xc_BadText) (.type "ValueError") = some true)
    (xm_LineError_BadBits : PySem.W.exmOne K (.ref xc_BadBits) (.ref xc_LineError) = some true)
    (xm_LineError_BadItem : PySem.W.exmOne K (.ref xc_BadItem) (.ref xc_LineError) = some true)
    (xm_LineError_BadText : PySem.W.exmOne K (.ref xc_BadText) (.ref xc_LineError) = some true) :
    ∃ fd : FuncData, (∀ (s : Shared) (v : Value), BindsTo s fd ⟨[v], []⟩ [("script", v)]) ∧ ∀ base : Heap, K.In base → base.Ns mainGlobals mg → FnOk l.prog w K mg base (L2.CX l.prog w) 6 fa fd ["script"] (spLaw K) := by
  have e := hfa.symm.trans (PySem.W.mg_of X G a_law)
  cases e
  have F_is_whole := fun_mk (st := s_is_whole) l_is_whole c_is_whole k_is_whole
  have b_is_whole := F_is_whole.binds (ps := p_is_whole) fun _ _ _ _ _ _ us hl => match us, hl with | [_, _, _], _ => rfl
  have F_look_bits := fun_mk (st := s_look_bits) l_look_bits c_look_bits k_look_bits
  have b_look_bits := F_look_bits.binds (ps := p_look_bits) fun _ _ _ _ _ _ us hl => match us, hl with | [_], _ => rfl
  have F_is_item := fun_mk (st := s_is_item) l_is_item c_is_item k_is_item
  have b_is_item := F_is_item.binds (ps := p_is_item) fun _ _ _ _ _ _ us hl => match us, hl with | [_], _ => rfl
  have F_look_items := fun_mk (st := s_look_items) l_look_items c_look_items k_look_items
  have b_look_items := F_look_items.binds (ps := p_look_items) fun _ _ _ _ _ _ us hl => match us, hl with | [_], _ => rfl
  have F_items_text := fun_mk (st := s_items_text) l_items_text c_items_text k_items_text
  have b_items_text := F_items_text.binds (ps := p_items_text) fun _ _ _ _ _ _ us hl => match us, hl with | [_], _ => rfl
  have F_word_item := fun_mk (st := s_word_item) l_word_item c_word_item k_word_item
  have b_word_item := F_word_item.binds (ps := p_word_item) fun _ _ _ _ _ _ us hl => match us, hl with | [_], _ => rfl
  have F_items_read := fun_mk (st := s_items_read) l_items_read c_items_read k_items_read
  have b_items_read := F_items_read.binds (ps := p_items_read) fun _ _ _ _ _ _ us hl => match us, hl with | [_], _ => rfl
  have F_bits_text := fun_mk (st := s_bits_text) l_bits_text c_bits_text k_bits_text
  have b_bits_text := F_bits_text.binds (ps := p_bits_text) fun _ _ _ _ _ _ us hl => match us, hl with | [_], _ => rfl
  have F_bits_read := fun_mk (st := s_bits_read) l_bits_read c_bits_read k_bits_read
  have b_bits_read := F_bits_read.binds (ps := p_bits_read) fun _ _ _ _ _ _ us hl => match us, hl with | [_], _ => rfl
  have F__law_town := fun_mk (st := s__law_town) l__law_town c__law_town k__law_town
  have b__law_town := F__law_town.binds (ps := p__law_town) fun _ _ _ _ _ _ us hl => match us, hl with | [_], _ => rfl
  have F__law_draw := fun_mk (st := s__law_draw) l__law_draw c__law_draw k__law_draw
  have b__law_draw := F__law_draw.binds (ps := p__law_draw) fun _ _ _ _ _ _ us hl => match us, hl with | [_, _], _ => rfl
  have F__law_pick := fun_mk (st := s__law_pick) l__law_pick c__law_pick k__law_pick
  have b__law_pick := F__law_pick.binds (ps := p__law_pick) fun _ _ _ _ _ _ us hl => match us, hl with | [_, _], _ => rfl
  have F__law_refusal := fun_mk (st := s__law_refusal) l__law_refusal c__law_refusal k__law_refusal
  have b__law_refusal := F__law_refusal.binds (ps := p__law_refusal) fun _ _ _ _ _ _ us hl => match us, hl with | [_], _ => rfl
  have F__law_ten := fun_mk (st := s__law_ten) l__law_ten c__law_ten k__law_ten
  have b__law_ten := F__law_ten.binds (ps := p__law_ten) fun _ _ _ _ _ _ us hl => match us, hl with | [_], _ => rfl
  have F__law_some_bits := fun_mk (st := s__law_some_bits) l__law_some_bits c__law_some_bits k__law_some_bits
  have b__law_some_bits := F__law_some_bits.binds (ps := p__law_some_bits) fun _ _ _ _ _ _ us hl => match us, hl with | [_, _], _ => rfl
  have F__law_byte := fun_mk (st := s__law_byte) l__law_byte c__law_byte k__law_byte
  have b__law_byte := F__law_byte.binds (ps := p__law_byte) fun _ _ _ _ _ _ us hl => match us, hl with | [_], _ => rfl
  have F__law_item := fun_mk (st := s__law_item) l__law_item c__law_item k__law_item
  have b__law_item := F__law_item.binds (ps := p__law_item) fun _ _ _ _ _ _ us hl => match us, hl with | [_], _ => rfl
  have F__law_items := fun_mk (st := s__law_items) l__law_items c__law_items k__law_items
  have b__law_items := F__law_items.binds (ps := p__law_items) fun _ _ _ _ _ _ us hl => match us, hl with | [_, _], _ => rfl
  have F__law_asked := fun_mk (st := s__law_asked) l__law_asked c__law_asked k__law_asked
  have b__law_asked := F__law_asked.binds (ps := p__law_asked) fun _ _ _ _ _ _ us hl => match us, hl with | [_, _], _ => rfl
  have F__law_items_due := fun_mk (st := s__law_items_due) l__law_items_due c__law_items_due k__law_items_due
  have b__law_items_due := F__law_items_due.binds (ps := p__law_items_due) fun _ _ _ _ _ _ us hl => match us, hl with | [_], _ => rfl
  have F__law_bits_due := fun_mk (st := s__law_bits_due) l__law_bits_due c__law_bits_due k__law_bits_due
  have b__law_bits_due := F__law_bits_due.binds (ps := p__law_bits_due) fun _ _ _ _ _ _ us hl => match us, hl with | [_], _ => rfl
  have F__law_spoilt := fun_mk (st := s__law_spoilt) l__law_spoilt c__law_spoilt k__law_spoilt
  have b__law_spoilt := F__law_spoilt.binds (ps := p__law_spoilt) fun _ _ _ _ _ _ us hl => match us, hl with | [_, _], _ => rfl
  have F_law := fun_mk (st := s_law) l_law c_law k_law
  have b_law := F_law.binds (ps := p_law) fun _ _ _ _ _ _ us hl => match us, hl with | [_], _ => rfl
  let T : Tx K mg := { f_is_whole := f_is_whole, d_is_whole := _, F_is_whole := F_is_whole, b_is_whole := b_is_whole, g_is_whole := PySem.W.mg_of X G a_is_whole, f_look_bits := f_look_bits, d_look_bits := _, F_look_bits := F_look_bits, b_look_bits := b_look_bits, g_look_bits := PySem.W.mg_of X G a_look_bits, f_is_item := f_is_item, d_is_item := _, F_is_item := F_is_item, b_is_item := b_is_item, g_is_item := PySem.W.mg_of X G a_is_item, f_look_items := f_look_items, d_look_items := _, F_look_items := F_look_items, b_look_items := b_look_items, g_look_items := PySem.W.mg_of X G a_look_items, f_items_text := f_items_text, d_items_text := _, F_items_text := F_items_text, b_items_text := b_items_text, g_items_text := PySem.W.mg_of X G a_items_text, f_word_item := f_word_item, d_word_item := _, F_word_item := F_word_item, b_word_item := b_word_item, g_word_item := PySem.W.mg_of X G a_word_item, f_items_read := f_items_read, d_items_read := _, F_items_read := F_items_read, b_items_read := b_items_read, g_items_read := PySem.W.mg_of X G a_items_read, f_bits_text := f_bits_text, d_bits_text := _, F_bits_text := F_bits_text, b_bits_text := b_bits_text, g_bits_text := PySem.W.mg_of X G a_bits_text, f_bits_read := f_bits_read, d_bits_read := _, F_bits_read := F_bits_read, b_bits_read := b_bits_read, g_bits_read := PySem.W.mg_of X G a_bits_read, f__law_town := f__law_town, d__law_town := _, F__law_town := F__law_town, b__law_town := b__law_town, g__law_town := PySem.W.mg_of X G a__law_town, f__law_draw := f__law_draw, d__law_draw := _, F__law_draw := F__law_draw, b__law_draw := b__law_draw, g__law_draw := PySem.W.mg_of X G a__law_draw, f__law_pick := f__law_pick, d__law_pick := _, F__law_pick := F__law_pick, b__law_pick := b__law_pick, g__law_pick := PySem.W.mg_of X G a__law_pick, f__law_refusal := f__law_refusal, d__law_refusal := _, F__law_refusal := F__law_refusal, b__law_refusal := b__law_refusal, g__law_refusal := PySem.W.mg_of X G a__law_refusal, f__law_ten := f__law_ten, d__law_ten := _, F__law_ten := F__law_ten, b__law_ten := b__law_ten, g__law_ten := PySem.W.mg_of X G a__law_ten, f__law_some_bits := f__law_some_bits, d__law_some_bits := _, F__law_some_bits := F__law_some_bits, b__law_some_bits := b__law_some_bits, g__law_some_bits := PySem.W.mg_of X G a__law_some_bits, f__law_byte := f__law_byte, d__law_byte := _, F__law_byte := F__law_byte, b__law_byte := b__law_byte, g__law_byte := PySem.W.mg_of X G a__law_byte, f__law_item := f__law_item, d__law_item := _, F__law_item := F__law_item, b__law_item := b__law_item, g__law_item := PySem.W.mg_of X G a__law_item, f__law_items := f__law_items, d__law_items := _, F__law_items := F__law_items, b__law_items := b__law_items, g__law_items := PySem.W.mg_of X G a__law_items, f__law_asked := f__law_asked, d__law_asked := _, F__law_asked := F__law_asked, b__law_asked := b__law_asked, g__law_asked := PySem.W.mg_of X G a__law_asked, f__law_items_due := f__law_items_due, d__law_items_due := _, F__law_items_due := F__law_items_due, b__law_items_due := b__law_items_due, g__law_items_due := PySem.W.mg_of X G a__law_items_due, f__law_bits_due := f__law_bits_due, d__law_bits_due := _, F__law_bits_due := F__law_bits_due, b__law_bits_due := b__law_bits_due, g__law_bits_due := PySem.W.mg_of X G a__law_bits_due, f__law_spoilt := f__law_spoilt, d__law_spoilt := _, F__law_spoilt := F__law_spoilt, b__law_spoilt := b__law_spoilt, g__law_spoilt := PySem.W.mg_of X G a__law_spoilt, f_law := fa, d_law := _, F_law := F_law, b_law := b_law, g_law := PySem.W.mg_of X G a_law, g_BEGIN := ⟨_, PySem.W.mg_of X G cn_BEGIN⟩, a_CONTROLS := ca_CONTROLS, g_CONTROLS := PySem.W.mg_of X G ga_CONTROLS, k_CONTROLS := ktup_mk gl_CONTROLS gv_CONTROLS (by rw [← List.length_map (f := absV), gv_CONTROLS]; decide +kernel), g_LONG := ⟨_, PySem.W.mg_of X G cn_LONG⟩, n_ValueError := PySem.W.mg_none_of X G n_ValueError, n_all := PySem.W.mg_none_of X G n_all, n_bool := PySem.W.mg_none_of X G n_bool, n_enumerate := PySem.W.mg_none_of X G n_enumerate, n_int := PySem.W.mg_none_of X G n_int, n_isinstance := PySem.W.mg_none_of X G n_isinstance, n_len := PySem.W.mg_none_of X G n_len, n_list := PySem.W.mg_none_of X G n_list, n_range := PySem.W.mg_none_of X G n_range, n_str := PySem.W.mg_none_of X G n_str, c_BadBits := xc_BadBits, g_BadBits := PySem.W.mg_of X G xa_BadBits, x_BadBits := xx_BadBits, k_BadBits := xk_BadBits, b_BadBits := xb_BadBits, t_BadBits := xt_BadBits, c_BadItem := xc_BadItem, g_BadItem := PySem.W.mg_of X G xa_BadItem, x_BadItem := xx_BadItem, k_BadItem := xk_BadItem, b_BadItem := xb_BadItem, t_BadItem := xt_BadItem, c_BadText := xc_BadText, g_BadText := PySem.W.mg_of X G xa_BadText, x_BadText := xx_BadText, k_BadText := xk_BadText, b_BadText := xb_BadText, t_BadText := xt_BadText, c_Against := xc_Against, g_Against := PySem.W.mg_of X G xa_Against, c_BadLane := xc_BadLane, g_BadLane := PySem.W.mg_of X G xa_BadLane, c_BadPoise := xc_BadPoise, g_BadPoise := PySem.W.mg_of X G xa_BadPoise, c_BadPool := xc_BadPool, g_BadPool := PySem.W.mg_of X G xa_BadPool, c_BadRow := xc_BadRow, g_BadRow := PySem.W.mg_of X G xa_BadRow, c_BadWord := xc_BadWord, g_BadWord := PySem.W.mg_of X G xa_BadWord, c_Dry := xc_Dry, g_Dry := PySem.W.mg_of X G xa_Dry, c_LineError := xc_LineError, g_LineError := PySem.W.mg_of X G xa_LineError, c_Over := xc_Over, g_Over := PySem.W.mg_of X G xa_Over, ec_BadBits := ecB_ok ec_BadBits, ec_BadItem := ecB_ok ec_BadItem, ec_BadText := ecB_ok ec_BadText, kk_Against_BadBits := kk_Against_BadBits, kk_Against_BadItem := kk_Against_BadItem, kk_Against_BadText := kk_Against_BadText, kk_BadBits_BadBits := kk_BadBits_BadBits, kk_BadBits_BadItem := kk_BadBits_BadItem, kk_BadBits_BadText := kk_BadBits_BadText, kk_BadItem_BadBits := kk_BadItem_BadBits, kk_BadItem_BadItem := kk_BadItem_BadItem, kk_BadItem_BadText := kk_BadItem_BadText, kk_BadLane_BadBits := kk_BadLane_BadBits, kk_BadLane_BadItem := kk_BadLane_BadItem, kk_BadLane_BadText := kk_BadLane_BadText, kk_BadPoise_BadBits := kk_BadPoise_BadBits, kk_BadPoise_BadItem := kk_BadPoise_BadItem, kk_BadPoise_BadText := kk_BadPoise_BadText, kk_BadPool_BadBits := kk_BadPool_BadBits, kk_BadPool_BadItem := kk_BadPool_BadItem, kk_BadPool_BadText := kk_BadPool_BadText, kk_BadRow_BadBits := kk_BadRow_BadBits, kk_BadRow_BadItem := kk_BadRow_BadItem, kk_BadRow_BadText := kk_BadRow_BadText, kk_BadText_BadBits := kk_BadText_BadBits, kk_BadText_BadItem := kk_BadText_BadItem, kk_BadText_BadText := kk_BadText_BadText, kk_BadWord_BadBits := kk_BadWord_BadBits, kk_BadWord_BadItem := kk_BadWord_BadItem, kk_BadWord_BadText := kk_BadWord_BadText, kk_Dry_BadBits := kk_Dry_BadBits, kk_Dry_BadItem := kk_Dry_BadItem, kk_Dry_BadText := kk_Dry_BadText, kk_LineError_BadBits := kk_LineError_BadBits, kk_LineError_BadItem := kk_LineError_BadItem, kk_LineError_BadText := kk_LineError_BadText, kk_Over_BadBits := kk_Over_BadBits, kk_Over_BadItem := kk_Over_BadItem, kk_Over_BadText := kk_Over_BadText, kk_ValueError_BadBits := kk_ValueError_BadBits, kk_ValueError_BadItem := kk_ValueError_BadItem, kk_ValueError_BadText := kk_ValueError_BadText, xm_LineError_BadBits := xm_LineError_BadBits, xm_LineError_BadItem := xm_LineError_BadItem, xm_LineError_BadText := xm_LineError_BadText }
  refine ⟨PySem.W.fnOf "law" "law" (defArgs s_law) (defBody s_law) (defScope s_law) .none kV_law dc_law pm_law an_law cd_law ct_law, fun s v => .of_eq rfl, fun base _ _ => FnOk.imp (ok_law (P := l.prog) (w := w) (base := base) T) fun vs H Q E h => ?_⟩
  obtain ⟨a, ns, rfl, sq, hl, q⟩ := h
  refine ⟨⟨H, fun _ => none⟩, fun _ => none, [.scr ns], fun d _ => d = .bl true, fun _ _ _ => False, ⟨fun _ _ e => e, (fun _ _ e => nomatch e), (fun _ _ e => nomatch e)⟩, .cons (.scr sq hl) .nil, HL ns hl.1, fun d M' hd F' H' v s w r => ?_, fun _ _ _ z => z.elim⟩
  subst hd
  cases r
  exact q H'
end Zp
open PySem PySem.W PyProof.Rows
set_option maxRecDepth 100000 in
set_option maxHeartbeats 0 in
theorem PySem.Challenge.cw_evenline_k47_texts_refused_holds : PySem.Challenge.rw_evenline_k47_texts_refused.Holds := by
  w_on; o_law; k_head; (case hw => w_witness2)
  k_fill
  refine Zl.walk_cells (l := PySem.Challenge.rw_evenline_k47_texts_refused) (k := 6) (x := "script") (CX := fun w => L2.CX PySem.Challenge.rw_evenline_k47_texts_refused.prog w) (sp := fun w => Zp.spLaw _) rfl rfl ⟨rfl, by decide, by decide⟩ (fun w h Y => PySem.W.kIn_of Y) ?F (fun _ _ a ns hc hS => ⟨a, ns, rfl, hS, hc, fun _ => rfl⟩) (fun _ _ _ _ _ h => Zl.cx_no h)
  case F =>
    intro w mg fa h KX G hmg
    refine' Zp.all_mk Zp.law_holds KX G hmg ?a_is_whole ?l_is_whole ?c_is_whole ?k_is_whole ?a_look_bits ?l_look_bits ?c_look_bits ?k_look_bits ?a_is_item ?l_is_item ?c_is_item ?k_is_item ?a_look_items ?l_look_items ?c_look_items ?k_look_items ?a_items_text ?l_items_text ?c_items_text ?k_items_text ?a_word_item ?l_word_item ?c_word_item ?k_word_item ?a_items_read ?l_items_read ?c_items_read ?k_items_read ?a_bits_text ?l_bits_text ?c_bits_text ?k_bits_text ?a_bits_read ?l_bits_read ?c_bits_read ?k_bits_read ?a__law_town ?l__law_town ?c__law_town ?k__law_town ?a__law_draw ?l__law_draw ?c__law_draw ?k__law_draw ?a__law_pick ?l__law_pick ?c__law_pick ?k__law_pick ?a__law_refusal ?l__law_refusal ?c__law_refusal ?k__law_refusal ?a__law_ten ?l__law_ten ?c__law_ten ?k__law_ten ?a__law_some_bits ?l__law_some_bits ?c__law_some_bits ?k__law_some_bits ?a__law_byte ?l__law_byte ?c__law_byte ?k__law_byte ?a__law_item ?l__law_item ?c__law_item ?k__law_item ?a__law_items ?l__law_items ?c__law_items ?k__law_items ?a__law_asked ?l__law_asked ?c__law_asked ?k__law_asked ?a__law_items_due ?l__law_items_due ?c__law_items_due ?k__law_items_due ?a__law_bits_due ?l__law_bits_due ?c__law_bits_due ?k__law_bits_due ?a__law_spoilt ?l__law_spoilt ?c__law_spoilt ?k__law_spoilt ?a_law ?l_law ?c_law ?k_law ?cn_BEGIN ?ga_CONTROLS ?gl_CONTROLS ?gv_CONTROLS ?cn_LONG ?n_ValueError ?n_all ?n_bool ?n_enumerate ?n_int ?n_isinstance ?n_len ?n_list ?n_range ?n_str ?xa_BadBits ?xx_BadBits ?xk_BadBits ?xb_BadBits ?xt_BadBits ?xa_BadItem ?xx_BadItem ?xk_BadItem ?xb_BadItem ?xt_BadItem ?xa_BadText ?xx_BadText ?xk_BadText ?xb_BadText ?xt_BadText ?xa_Against ?xa_BadLane ?xa_BadPoise ?xa_BadPool ?xa_BadRow ?xa_BadWord ?xa_Dry ?xa_LineError ?xa_Over ?ec_BadBits ?ec_BadItem ?ec_BadText ?kk_Against_BadBits ?kk_Against_BadItem ?kk_Against_BadText ?kk_BadBits_BadBits ?kk_BadBits_BadItem ?kk_BadBits_BadText ?kk_BadItem_BadBits ?kk_BadItem_BadItem ?kk_BadItem_BadText ?kk_BadLane_BadBits ?kk_BadLane_BadItem ?kk_BadLane_BadText ?kk_BadPoise_BadBits ?kk_BadPoise_BadItem ?kk_BadPoise_BadText ?kk_BadPool_BadBits ?kk_BadPool_BadItem ?kk_BadPool_BadText ?kk_BadRow_BadBits ?kk_BadRow_BadItem ?kk_BadRow_BadText ?kk_BadText_BadBits ?kk_BadText_BadItem ?kk_BadText_BadText ?kk_BadWord_BadBits ?kk_BadWord_BadItem ?kk_BadWord_BadText ?kk_Dry_BadBits ?kk_Dry_BadItem ?kk_Dry_BadText ?kk_LineError_BadBits ?kk_LineError_BadItem ?kk_LineError_BadText ?kk_Over_BadBits ?kk_Over_BadItem ?kk_Over_BadText ?kk_ValueError_BadBits ?kk_ValueError_BadItem ?kk_ValueError_BadText ?xm_LineError_BadBits ?xm_LineError_BadItem ?xm_LineError_BadText
    (case a_is_whole => k_is)
    (case l_is_whole => k_is)
    (case c_is_whole => k_is)
    (case k_is_whole => k_is)
    (case a_look_bits => k_is)
    (case l_look_bits => k_is)
    (case c_look_bits => k_is)
    (case k_look_bits => k_is)
    (case a_is_item => k_is)
    (case l_is_item => k_is)
    (case c_is_item => k_is)
    (case k_is_item => k_is)
    (case a_look_items => k_is)
    (case l_look_items => k_is)
    (case c_look_items => k_is)
    (case k_look_items => k_is)
    (case a_items_text => k_is)
    (case l_items_text => k_is)
    (case c_items_text => k_is)
    (case k_items_text => k_is)
    (case a_word_item => k_is)
    (case l_word_item => k_is)
    (case c_word_item => k_is)
    (case k_word_item => k_is)
    (case a_items_read => k_is)
    (case l_items_read => k_is)
    (case c_items_read => k_is)
    (case k_items_read => k_is)
    (case a_bits_text => k_is)
    (case l_bits_text => k_is)
    (case c_bits_text => k_is)
    (case k_bits_text => k_is)
    (case a_bits_read => k_is)
    (case l_bits_read => k_is)
    (case c_bits_read => k_is)
    (case k_bits_read => k_is)
    (case a__law_town => k_is)
    (case l__law_town => k_is)
    (case c__law_town => k_is)
    (case k__law_town => k_is)
    (case a__law_draw => k_is)
    (case l__law_draw => k_is)
    (case c__law_draw => k_is)
    (case k__law_draw => k_is)
    (case a__law_pick => k_is)
    (case l__law_pick => k_is)
    (case c__law_pick => k_is)
    (case k__law_pick => k_is)
    (case a__law_refusal => k_is)
    (case l__law_refusal => k_is)
    (case c__law_refusal => k_is)
    (case k__law_refusal => k_is)
    (case a__law_ten => k_is)
    (case l__law_ten => k_is)
    (case c__law_ten => k_is)
    (case k__law_ten => k_is)
    (case a__law_some_bits => k_is)
    (case l__law_some_bits => k_is)
    (case c__law_some_bits => k_is)
    (case k__law_some_bits => k_is)
    (case a__law_byte => k_is)
    (case l__law_byte => k_is)
    (case c__law_byte => k_is)
    (case k__law_byte => k_is)
    (case a__law_item => k_is)
    (case l__law_item => k_is)
    (case c__law_item => k_is)
    (case k__law_item => k_is)
    (case a__law_items => k_is)
    (case l__law_items => k_is)
    (case c__law_items => k_is)
    (case k__law_items => k_is)
    (case a__law_asked => k_is)
    (case l__law_asked => k_is)
    (case c__law_asked => k_is)
    (case k__law_asked => k_is)
    (case a__law_items_due => k_is)
    (case l__law_items_due => k_is)
    (case c__law_items_due => k_is)
    (case k__law_items_due => k_is)
    (case a__law_bits_due => k_is)
    (case l__law_bits_due => k_is)
    (case c__law_bits_due => k_is)
    (case k__law_bits_due => k_is)
    (case a__law_spoilt => k_is)
    (case l__law_spoilt => k_is)
    (case c__law_spoilt => k_is)
    (case k__law_spoilt => k_is)
    (case a_law => k_is)
    (case l_law => k_is)
    (case c_law => k_is)
    (case k_law => k_is)
    (case cn_BEGIN => k_is)
    (case ga_CONTROLS => k_is)
    (case gl_CONTROLS => k_is)
    (case gv_CONTROLS => first | rfl | decide +kernel | k_is)
    (case cn_LONG => k_is)
    (case n_ValueError => k_is)
    (case n_all => k_is)
    (case n_bool => k_is)
    (case n_enumerate => k_is)
    (case n_int => k_is)
    (case n_isinstance => k_is)
    (case n_len => k_is)
    (case n_list => k_is)
    (case n_range => k_is)
    (case n_str => k_is)
    (case xa_BadBits => k_is)
    (case xx_BadBits => k_exc)
    (case xk_BadBits => k_is)
    (case xb_BadBits => k_is)
    (case xt_BadBits => k_is)
    (case xa_BadItem => k_is)
    (case xx_BadItem => k_exc)
    (case xk_BadItem => k_is)
    (case xb_BadItem => k_is)
    (case xt_BadItem => k_is)
    (case xa_BadText => k_is)
    (case xx_BadText => k_exc)
    (case xk_BadText => k_is)
    (case xb_BadText => k_is)
    (case xt_BadText => k_is)
    (case xa_Against => k_is)
    (case xa_BadLane => k_is)
    (case xa_BadPoise => k_is)
    (case xa_BadPool => k_is)
    (case xa_BadRow => k_is)
    (case xa_BadWord => k_is)
    (case xa_Dry => k_is)
    (case xa_LineError => k_is)
    (case xa_Over => k_is)
    (case ec_BadBits => kernel_rfl)
    (case ec_BadItem => kernel_rfl)
    (case ec_BadText => kernel_rfl)
    (case kk_Against_BadBits => kernel_rfl)
    (case kk_Against_BadItem => kernel_rfl)
    (case kk_Against_BadText => kernel_rfl)
    (case kk_BadBits_BadBits => kernel_rfl)
    (case kk_BadBits_BadItem => kernel_rfl)
    (case kk_BadBits_BadText => kernel_rfl)
    (case kk_BadItem_BadBits => kernel_rfl)
    (case kk_BadItem_BadItem => kernel_rfl)
    (case kk_BadItem_BadText => kernel_rfl)
    (case kk_BadLane_BadBits => kernel_rfl)
    (case kk_BadLane_BadItem => kernel_rfl)
    (case kk_BadLane_BadText => kernel_rfl)
    (case kk_BadPoise_BadBits => kernel_rfl)
    (case kk_BadPoise_BadItem => kernel_rfl)
    (case kk_BadPoise_BadText => kernel_rfl)
    (case kk_BadPool_BadBits => kernel_rfl)
    (case kk_BadPool_BadItem => kernel_rfl)
    (case kk_BadPool_BadText => kernel_rfl)
    (case kk_BadRow_BadBits => kernel_rfl)
    (case kk_BadRow_BadItem => kernel_rfl)
    (case kk_BadRow_BadText => kernel_rfl)
    (case kk_BadText_BadBits => kernel_rfl)
    (case kk_BadText_BadItem => kernel_rfl)
    (case kk_BadText_BadText => kernel_rfl)
    (case kk_BadWord_BadBits => kernel_rfl)
    (case kk_BadWord_BadItem => kernel_rfl)
    (case kk_BadWord_BadText => kernel_rfl)
    (case kk_Dry_BadBits => kernel_rfl)
    (case kk_Dry_BadItem => kernel_rfl)
    (case kk_Dry_BadText => kernel_rfl)
    (case kk_LineError_BadBits => kernel_rfl)
    (case kk_LineError_BadItem => kernel_rfl)
    (case kk_LineError_BadText => kernel_rfl)
    (case kk_Over_BadBits => kernel_rfl)
    (case kk_Over_BadItem => kernel_rfl)
    (case kk_Over_BadText => kernel_rfl)
    (case kk_ValueError_BadBits => kernel_rfl)
    (case kk_ValueError_BadItem => kernel_rfl)
    (case kk_ValueError_BadText => kernel_rfl)
    (case xm_LineError_BadBits => kernel_rfl)
    (case xm_LineError_BadItem => kernel_rfl)
    (case xm_LineError_BadText => kernel_rfl)
