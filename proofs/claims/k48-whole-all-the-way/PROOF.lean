import PyProof.Rows.All
import Wide.All
import OpenK.AllK
import Wide.FinOn
import HandS.ForMost
import HandS.Exc
import HandS.TryOnly
import HandS.ExcOwn
import HandS.WordsExc
import HandS.IsInst
import HandS.EndBits
import HandS.Style
import HandS.CallSlots
import HandS.SortInts
import HandS.RaiseMore
import HandS.Strs
import HandS.SetFor
import HandS.Wide
import HandS.ExcIs
import KE.KExcIs
import HandS.Deep
import HandS.Defaults
import HandS.Conv
import HandS.SortKw
import HandS.MakeKw
import HandS.MakeKwOnly
import HandS.OwnEq
import HandS.NamedTupGet
import PySem.Challenge.RW_evenline_k48_whole_all_the_way
set_option Elab.async false
set_option linter.all false
set_option maxRecDepth 100000
set_option maxHeartbeats 4000000
set_option autoImplicit false
/-! Zl1: deep data, the small mutable heap, heap-free readings, their lifting to HandS -/
namespace Zl
open PySem L2

/-- a script's numbers: not too many, not too great -/
def cellsOk (cs : List Int) : Prop := cs.length ≤ 63 ∧ (cs.map fun x : Int => x.natAbs.log2).sum ≤ 1048576
/-- deep data: what a Python value is worth; ref: a thing that may change, or is not looked into -/
inductive D where
  | non | bl (b : Bool) | int (i : Int) | str (x : Str) | lst (ds : List D) | tup (ds : List D) | dct | exc (c : Str) | scr (ns : List Int) | ref (a : Addr)
/-- what may change -/
inductive MO where
  | lst (ds : List D) | ins (c : Str) (fs : List (Str × D)) | town
abbrev Mh := Addr → Option MO
def mup (M : Mh) (a : Addr) (o : MO) : Mh := fun b => if b = a then some o else M b
def mdel (M : Mh) (a : Addr) : Mh := fun b => if b = a then none else M b
@[simp] theorem mup_same {M : Mh} {a : Addr} {o : MO} : mup M a o a = some o := by unfold mup; rw [if_pos rfl]
theorem mup_ne {M : Mh} {a b : Addr} {o : MO} (h : b ≠ a) : mup M a o b = M b := by unfold mup; rw [if_neg h]
@[simp] theorem mdel_same {M : Mh} {a : Addr} : mdel M a a = none := by unfold mdel; rw [if_pos rfl]
theorem mdel_ne {M : Mh} {a b : Addr} (h : b ≠ a) : mdel M a b = M b := by unfold mdel; rw [if_neg h]
theorem mup_mup {M : Mh} {a : Addr} {o p : MO} : mup (mup M a o) a p = mup M a p := by
  funext b; unfold mup; split <;> rfl
theorem mdel_mup {M : Mh} {a : Addr} {o : MO} (h : M a = none) : mdel (mup M a o) a = M := by
  funext b; unfold mdel mup
  by_cases e : b = a
  · rw [if_pos e, e, h]
  · rw [if_neg e, if_neg e]
theorem ne_of_m {M : Mh} {a b : Addr} {o : MO} (h : M a = some o) (h' : M b = none) : a ≠ b := by
  intro e; subst e; rw [h] at h'; cases h'

abbrev Env := List (Option D)
/-- the value of a slot -/
def gt : Env → Nat → Option D
  | [], _ => none
  | d :: _, 0 => d
  | _ :: r, n + 1 => gt r n
/-- a slot stored -/
def st : Env → Nat → Option D → Env
  | [], _, _ => []
  | _ :: r, 0, x => x :: r
  | d :: r, n + 1, x => d :: st r n x
theorem st_len : ∀ (r : Env) (i : Nat) (x : Option D), (st r i x).length = r.length
  | [], _, _ => rfl
  | _ :: _, 0, _ => rfl
  | _ :: r, n + 1, x => congrArg (· + 1) (st_len r n x)
theorem gt_st_ne : ∀ (r : Env) (i j : Nat) (x : Option D), j ≠ i → gt (st r i x) j = gt r j
  | [], _, _, _, _ => rfl
  | _ :: _, 0, 0, _, h => absurd rfl h
  | _ :: _, 0, _ + 1, _, _ => rfl
  | _ :: _, _ + 1, 0, _, _ => rfl
  | _ :: r, i + 1, j + 1, x, h => gt_st_ne r i j x (fun e => h (congrArg (· + 1) e))
theorem gt_st_same : ∀ (r : Env) (i : Nat) (x : Option D) (d : D), gt (st r i x) i = some d → x = some d ∧ i < r.length
  | [], _, _, _, h => nomatch h
  | _ :: _, 0, _, _, h => ⟨h, Nat.succ_pos _⟩
  | _ :: r, i + 1, x, d, h => let ⟨a, b⟩ := gt_st_same r i x d h; ⟨a, Nat.succ_lt_succ b⟩
/-- slots forgotten -/
def zwipe (r : Env) : List Nat → Env
  | [] => r
  | v :: vs => st (zwipe r vs) v none

/-- an exception object of the class at C -/
def ExZ (C : Addr) (d : Option Addr) (a : Addr) : HO := .ext fun h => ∃ (oe : Obj) (vs : Array Value), h.get? a = some oe ∧ Zc (.ref C) d oe ∧ oe.data = .fields vs

/-- what never changes any more (f), and what others hold and nobody here touches (u) -/
structure Fz where
  f : Hp
  u : Hp
structure Le (F F' : Fz) : Prop where
  f : Same F.f F'.f
  u : F'.u = F.u
theorem Le.refl (F : Fz) : Le F F := ⟨Same.refl _, rfl⟩
theorem Le.trans {F F1 F2 : Fz} (a : Le F F1) (b : Le F1 F2) : Le F F2 := ⟨a.f.trans b.f, b.u.trans a.u⟩
structure Ge (F0 F : Fz) : Prop where
  f : Same F0.f F.f
  u : Same F0.u F.u
theorem Ge.trans {F0 F F1 : Fz} (a : Ge F0 F) (b : Le F F1) : Ge F0 F1 := ⟨a.f.trans b.f, by rw [b.u]; exact a.u⟩
theorem Ge.refl (F : Fz) : Ge F F := ⟨Same.refl _, Same.refl _⟩
def Fz.up (F : Fz) (p : Addr) (o : HO) : Fz := ⟨upd F.f p o, F.u⟩
mutual
inductive Rep (K : PySem.W.Frag) (mg : Str → Option Value) (F : Fz) : V → D → Prop
  | non : Rep K mg F .non .non
  | bl (b : Bool) : Rep K mg F (.bl b) (.bl b)
  | int (i : Int) : Rep K mg F (.int i) (.int i)
  | str {x : Str} : PyData.strOk x = true → x.length ≤ sizeLine → Rep K mg F (.str x) (.str x)
  | lst {a : Addr} {vs : List V} {ds : List D} : F.f a = some (.lst vs) → vs.length ≤ sizeLine → RepL K mg F vs ds → Rep K mg F (.ref a) (.lst ds)
  | tup {a : Addr} {vs : List V} {ds : List D} : SqT K F.f a vs → vs.length ≤ sizeLine → RepL K mg F vs ds → Rep K mg F (.ref a) (.tup ds)
  | dct {a : Addr} : F.f a = some (.dK []) → Rep K mg F (.ref a) .dct
  | exc {a C : Addr} {c : Str} {d : Option Addr} : mg c = some (.ref C) → F.f a = some (ExZ C d a) → (∀ dx, d = some dx → ∃ fs, F.f dx = some (.xd fs)) → Rep K mg F (.ref a) (.exc c)
  | scr {a : Addr} {ns : List Int} : SqL K F.f a (ns.map V.int) → cellsOk ns → Rep K mg F (.ref a) (.scr ns)
  | ref (a : Addr) : Rep K mg F (.ref a) (.ref a)
inductive RepL (K : PySem.W.Frag) (mg : Str → Option Value) (F : Fz) : List V → List D → Prop
  | nil : RepL K mg F [] []
  | cons {v : V} {vs : List V} {d : D} {ds : List D} : Rep K mg F v d → RepL K mg F vs ds → RepL K mg F (v :: vs) (d :: ds)
end

section
variable {K : PySem.W.Frag} {mg : Str → Option Value} {F F' F1 F2 : Fz} {H H' : Hp}
theorem same_sqT {f f' : Hp} {a : Addr} {xs : List V} (e : Same f f') (h : SqT K f a xs) : SqT K f' a xs := by
  rcases h with (h | ⟨o, h⟩) | h
  · exact .inl (.inl (e _ _ h))
  · exact .inl (.inr ⟨o, e _ _ h⟩)
  · exact .inr h
theorem same_upd {p : Addr} {o : HO} (h : H p = none) : Same H (upd H p o) := fun b x e => by
  rw [upd_ne (ne_of_none e h)]
  exact e
mutual
theorem Rep.monoF (e : Same F.f F'.f) : ∀ {v : V} {d : D}, Rep K mg F v d → Rep K mg F' v d
  | _, _, .non => .non
  | _, _, .bl b => .bl b
  | _, _, .int i => .int i
  | _, _, .str h h' => .str h h'
  | _, _, .lst h l r => .lst (e _ _ h) l (RepL.monoF e r)
  | _, _, .tup h l r => .tup (same_sqT e h) l (RepL.monoF e r)
  | _, _, .dct h => .dct (e _ _ h)
  | _, _, .exc h h' h2 => .exc h (e _ _ h') fun dx z => let ⟨fs, q⟩ := h2 dx z; ⟨fs, e _ _ q⟩
  | _, _, .scr h l => .scr (e.seq h) l
  | _, _, .ref a => .ref a
theorem RepL.monoF (e : Same F.f F'.f) : ∀ {vs : List V} {ds : List D}, RepL K mg F vs ds → RepL K mg F' vs ds
  | _, _, .nil => .nil
  | _, _, .cons h t => .cons (Rep.monoF e h) (RepL.monoF e t)
end
theorem Rep.mono (e : Le F F') {v : V} {d : D} (h : Rep K mg F v d) : Rep K mg F' v d := h.monoF e.f
theorem RepL.mono (e : Le F F') {vs : List V} {ds : List D} (h : RepL K mg F vs ds) : RepL K mg F' vs ds := h.monoF e.f
theorem RepL.length : ∀ {vs : List V} {ds : List D}, RepL K mg F vs ds → vs.length = ds.length
  | _, _, .nil => rfl
  | _, _, .cons _ t => congrArg (· + 1) t.length
theorem RepL.get : ∀ {vs : List V} {ds : List D} {i : Nat} {d : D}, RepL K mg F vs ds → ds[i]? = some d → ∃ v, vs[i]? = some v ∧ Rep K mg F v d
  | _, _, _, _, .nil, e => by simp at e
  | _, _, 0, _, .cons h _, e => by simp at e; subst e; exact ⟨_, rfl, h⟩
  | _, _, i + 1, d, .cons _ t, e => by
    obtain ⟨v, h1, h2⟩ := RepL.get (i := i) (d := d) t (by simpa using e)
    exact ⟨v, by simpa using h1, h2⟩
theorem RepL.getV : ∀ {vs : List V} {ds : List D} {i : Nat} {v : V}, RepL K mg F vs ds → vs[i]? = some v → ∃ d, ds[i]? = some d ∧ Rep K mg F v d
  | _, _, _, _, .nil, e => by simp at e
  | _, _, 0, _, .cons h _, e => by simp at e; subst e; exact ⟨_, rfl, h⟩
  | _, _, i + 1, v, .cons _ t, e => by
    obtain ⟨d, h1, h2⟩ := RepL.getV (i := i) (v := v) t (by simpa using e)
    exact ⟨d, by simpa using h1, h2⟩
theorem RepL.append : ∀ {vs ws : List V} {ds es : List D}, RepL K mg F vs ds → RepL K mg F ws es → RepL K mg F (vs ++ ws) (ds ++ es)
  | _, _, _, _, .nil, s => s
  | _, _, _, _, .cons h t, s => .cons h (RepL.append t s)
theorem RepL.drop : ∀ {vs : List V} {ds : List D} (n : Nat), RepL K mg F vs ds → RepL K mg F (vs.drop n) (ds.drop n)
  | _, _, 0, r => r
  | _, _, _ + 1, .nil => .nil
  | _, _, n + 1, .cons _ t => RepL.drop n t
theorem RepL.take : ∀ {vs : List V} {ds : List D} (n : Nat), RepL K mg F vs ds → RepL K mg F (vs.take n) (ds.take n)
  | _, _, 0, _ => .nil
  | _, _, _ + 1, .nil => .nil
  | _, _, n + 1, .cons r t => .cons r (RepL.take n t)
theorem RepL.set {v : V} {d : D} (r : Rep K mg F v d) : ∀ {vs : List V} {ds : List D} (i : Nat), RepL K mg F vs ds → RepL K mg F (vs.set i v) (ds.set i d)
  | _, _, _, .nil => .nil
  | _, _, 0, .cons _ t => .cons r t
  | _, _, i + 1, .cons q t => .cons q (RepL.set r i t)
theorem RepL.eraseIdx : ∀ {vs : List V} {ds : List D} (i : Nat), RepL K mg F vs ds → RepL K mg F (vs.eraseIdx i) (ds.eraseIdx i)
  | _, _, _, .nil => .nil
  | _, _, 0, .cons _ t => t
  | _, _, i + 1, .cons q t => .cons q (RepL.eraseIdx i t)
theorem RepL.reverse {vs : List V} {ds : List D} (h : RepL K mg F vs ds) : RepL K mg F vs.reverse ds.reverse := by
  induction vs generalizing ds with
  | nil => cases h; exact .nil
  | cons v vs ih =>
    cases h with
    | cons r t =>
      rw [List.reverse_cons, List.reverse_cons]
      exact (ih t).append (.cons r .nil)
theorem RepL.flat {vs : List V} {ds : List D} (h : RepL K mg F vs ds) : ∀ n : Nat, RepL K mg F (List.replicate n vs).flatten (List.replicate n ds).flatten
  | 0 => .nil
  | n + 1 => by
    rw [List.replicate_succ, List.replicate_succ, List.flatten_cons, List.flatten_cons]
    exact h.append (h.flat n)
theorem RepL.ints : ∀ (ns : List Int), RepL K mg F (ns.map V.int) (ns.map D.int)
  | [] => .nil
  | n :: r => .cons (.int n) (RepL.ints r)
theorem RepL.ints_of : ∀ {vs : List V} {ns : List Int}, RepL K mg F vs (ns.map D.int) → vs = ns.map V.int
  | _, [], h => by cases h; rfl
  | _, n :: r, h => by
    cases h with
    | cons a t => cases a; rw [RepL.ints_of (ns := r) t]; rfl
theorem RepL.strs_of : ∀ {vs : List V} {ns : List Str}, RepL K mg F vs (ns.map D.str) → vs = ns.map V.str
  | _, [], h => by cases h; rfl
  | _, n :: r, h => by
    cases h with
    | cons a t => cases a; rw [RepL.strs_of (ns := r) t]; rfl
theorem RepL.bls_of : ∀ {vs : List V} {ns : List Bool}, RepL K mg F vs (ns.map D.bl) → vs = ns.map V.bl
  | _, [], h => by cases h; rfl
  | _, n :: r, h => by
    cases h with
    | cons a t => cases a; rw [RepL.bls_of (ns := r) t]; rfl

/-- the slots -/
def RepE (K : PySem.W.Frag) (mg : Str → Option Value) (F : Fz) (s : St) (r : Env) : Prop := s.length = r.length ∧ ∀ i d, gt r i = some d → ∃ v, s[i]? = some (some v) ∧ Rep K mg F v d
theorem RepE.mono {s : St} {r : Env} (e : Le F F') (h : RepE K mg F s r) : RepE K mg F' s r := ⟨h.1, fun i d q => let ⟨v, a, b⟩ := h.2 i d q; ⟨v, a, b.mono e⟩⟩
theorem RepE.set {s : St} {r : Env} {v : V} {d : D} (i : Nat) (h : RepE K mg F s r) (q : Rep K mg F v d) : RepE K mg F (s.set i (some v)) (st r i (some d)) := by
  refine ⟨by rw [List.length_set, st_len]; exact h.1, fun j e z => ?_⟩
  by_cases hj : j = i
  · subst hj
    obtain ⟨a, b⟩ := gt_st_same _ _ _ _ z
    cases a
    exact ⟨v, List.getElem?_set_self (by rw [h.1]; exact b), q⟩
  · rw [gt_st_ne _ _ _ _ hj] at z
    obtain ⟨w, a, b⟩ := h.2 j e z
    exact ⟨w, by rw [List.getElem?_set_ne (Ne.symm hj)]; exact a, b⟩
theorem RepE.unset {s : St} {r : Env} (i : Nat) (h : RepE K mg F s r) : RepE K mg F (s.set i none) (st r i none) := by
  refine ⟨by rw [List.length_set, st_len]; exact h.1, fun j e z => ?_⟩
  by_cases hj : j = i
  · subst hj
    obtain ⟨a, b⟩ := gt_st_same _ _ _ _ z
    cases a
  · rw [gt_st_ne _ _ _ _ hj] at z
    obtain ⟨w, a, b⟩ := h.2 j e z
    exact ⟨w, by rw [List.getElem?_set_ne (Ne.symm hj)]; exact a, b⟩
theorem RepE.wipe {s : St} {r : Env} (h : RepE K mg F s r) : ∀ vs : List Nat, RepE K mg F (wipe s vs) (zwipe r vs)
  | [] => h
  | v :: vs => by
    show RepE K mg F ((L2.wipe s vs).set v none) (st (zwipe r vs) v none)
    exact (h.wipe vs).unset v

/-- what stands at a changing address -/
def RepO (K : PySem.W.Frag) (mg : Str → Option Value) (F : Fz) (H : Hp) (M : Mh) (a : Addr) : MO → Prop
  | .lst ds => ∃ vs, H a = some (.lst vs) ∧ vs.length ≤ sizeLine ∧ RepL K mg F vs ds
  | .ins c fs => ∃ C dx vs, mg c = some (.ref C) ∧ H a = some (.ins C dx (List.zip (fs.map (·.1)) vs)) ∧ RepL K mg F vs (fs.map (·.2))
  | .town => ∃ c n cells, H a = some (.lst [.ref c, .int n]) ∧ H c = some (.lst (cells.map V.int)) ∧ F.f c = none ∧ F.u c = none ∧ M c = none ∧ cells ≠ [] ∧ cellsOk cells ∧ ∀ t, M t = some .town → t = a
/-- F: what never changes any more; M: what may -/
structure Wd (K : PySem.W.Frag) (mg : Str → Option Value) (F : Fz) (H : Hp) (M : Mh) : Prop where
  sub : ∀ a o, F.f a = some o → H a = some o
  un : ∀ a o, F.u a = some o → H a = some o ∧ F.f a = none ∧ M a = none
  mu : ∀ a m, M a = some m → F.f a = none ∧ RepO K mg F H M a m
theorem Wd.tr {M : Mh} {a : Addr} {m : MO} (w : Wd K mg F H M) (h : M a = some m) : ∃ o, H a = some o := by
  obtain ⟨_, r⟩ := w.mu a m h
  cases m with
  | lst ds => obtain ⟨vs, e, _⟩ := r; exact ⟨_, e⟩
  | ins c fs => obtain ⟨C, dx, vs, _, e, _⟩ := r; exact ⟨_, e⟩
  | town => obtain ⟨c, n, cells, e, _⟩ := r; exact ⟨_, e⟩
theorem Wd.free {M : Mh} {a : Addr} (w : Wd K mg F H M) (h : H a = none) : M a = none ∧ F.f a = none ∧ F.u a = none := by
  refine ⟨?_, ?_, ?_⟩
  · cases e : M a with
    | none => rfl
    | some m => obtain ⟨o, q⟩ := w.tr e; rw [q] at h; cases h
  · cases e : F.f a with
    | none => rfl
    | some o => rw [w.sub a o e] at h; cases h
  · cases e : F.u a with
    | none => rfl
    | some o => rw [(w.un a o e).1] at h; cases h
/-- what is at b (not at p) looks the same, if p alone differs -/
theorem RepO.stay {M M' : Mh} {b : Addr} {m : MO} (e : Same F.f F'.f) (hb : H' b = H b) (hc : ∀ c, (∃ o, H c = some o) → F.f c = none → F.u c = none → M c = none → H' c = H c ∧ F'.f c = none ∧ F'.u c = none ∧ M' c = none) (ht : ∀ t, M' t = some .town → M t = some .town)
    (r : RepO K mg F H M b m) : RepO K mg F' H' M' b m := by
  cases m with
  | lst ds => obtain ⟨vs, h, l, q⟩ := r; exact ⟨vs, hb.trans h, l, q.monoF e⟩
  | ins c fs => obtain ⟨C, dx, vs, h0, h, q⟩ := r; exact ⟨C, dx, vs, h0, hb.trans h, q.monoF e⟩
  | town =>
    obtain ⟨c, n, cells, h1, h2, h3, h3', h4, h5, h6, h7⟩ := r
    obtain ⟨k1, k2, k2', k3⟩ := hc c ⟨_, h2⟩ h3 h3' h4
    exact ⟨c, n, cells, hb.trans h1, k1.trans h2, k2, k2', k3, h5, h6, fun t q => h7 t (ht t q)⟩
/-- a new thing is laid, frozen at once -/
theorem Wd.laidF {M : Mh} {p : Addr} {o : HO} (w : Wd K mg F H M) (hp : H p = none) : Le F (F.up p o) ∧ Wd K mg (F.up p o) (upd H p o) M := by
  obtain ⟨m0, f0, u0⟩ := w.free hp
  refine ⟨⟨same_upd f0, rfl⟩, fun a x e => ?_, fun a x e => ?_, fun a m e => ?_⟩
  · have e : upd F.f p o a = some x := e
    by_cases h : a = p
    · rw [h, upd_same] at e ⊢; exact e
    · rw [upd_ne h] at e ⊢; exact w.sub a x e
  · have h : a ≠ p := ne_of_none (show F.u a = some x from e) u0
    obtain ⟨q1, q2, q3⟩ := w.un a x e
    exact ⟨by rw [upd_ne h]; exact q1, (upd_ne h).trans q2, q3⟩
  · have h : a ≠ p := ne_of_m e m0
    obtain ⟨q, r⟩ := w.mu a m e
    refine ⟨(upd_ne h).trans q, r.stay (F' := F.up p o) (same_upd f0) (upd_ne h) (fun c ⟨x, hx⟩ hf hu hm => ?_) fun _ z => z⟩
    have hc : c ≠ p := ne_of_none hx hp
    exact ⟨upd_ne hc, (upd_ne hc).trans hf, hu, hm⟩
/-- a new thing is laid that may change -/
theorem Wd.laidM {M : Mh} {p : Addr} {o : HO} {m : MO} (w : Wd K mg F H M) (hp : H p = none) (hm : m ≠ .town) (r : RepO K mg F (upd H p o) (mup M p m) p m) : Wd K mg F (upd H p o) (mup M p m) := by
  obtain ⟨m0, f0, u0⟩ := w.free hp
  refine ⟨fun a x e => ?_, fun a x e => ?_, fun a m' e => ?_⟩
  · have h : a ≠ p := ne_of_none (w.sub a x e) hp
    rw [upd_ne h]; exact w.sub a x e
  · have h : a ≠ p := ne_of_none e u0
    obtain ⟨q1, q2, q3⟩ := w.un a x e
    exact ⟨by rw [upd_ne h]; exact q1, q2, by rw [mup_ne h]; exact q3⟩
  · by_cases h : a = p
    · subst h; rw [mup_same] at e; cases e; exact ⟨f0, r⟩
    · rw [mup_ne h] at e
      obtain ⟨q, r'⟩ := w.mu a m' e
      refine ⟨q, r'.stay (Same.refl _) (upd_ne h) (fun c ⟨x, hx⟩ hf hu hmc => ?_) fun t z => ?_⟩
      · have hc : c ≠ p := ne_of_none hx hp
        exact ⟨upd_ne hc, hf, hu, by rw [mup_ne hc]; exact hmc⟩
      · by_cases ht : t = p
        · subst ht; rw [mup_same] at z; cases z; exact absurd rfl hm
        · rw [mup_ne ht] at z; exact z
/-- a changing thing is changed -/
theorem Wd.write {M : Mh} {p : Addr} {o : HO} {m m0 : MO} (w : Wd K mg F H M) (hp : M p = some m0) (hm : m ≠ .town) (h0 : m0 ≠ .town) (r : RepO K mg F (upd H p o) (mup M p m) p m) : Wd K mg F (upd H p o) (mup M p m) := by
  obtain ⟨f0, _⟩ := w.mu p m0 hp
  refine ⟨fun a x e => ?_, fun a x e => ?_, fun a m' e => ?_⟩
  · have h : a ≠ p := fun z => by rw [z, f0] at e; cases e
    rw [upd_ne h]; exact w.sub a x e
  · obtain ⟨q1, q2, q3⟩ := w.un a x e
    have h : a ≠ p := fun z => by rw [z, hp] at q3; cases q3
    exact ⟨by rw [upd_ne h]; exact q1, q2, by rw [mup_ne h]; exact q3⟩
  · by_cases h : a = p
    · subst h; rw [mup_same] at e; cases e; exact ⟨f0, r⟩
    · rw [mup_ne h] at e
      obtain ⟨q, r'⟩ := w.mu a m' e
      refine ⟨q, r'.stay (Same.refl _) (upd_ne h) (fun c ⟨x, hx⟩ hf hu hmc => ?_) fun t z => ?_⟩
      · have hc : c ≠ p := fun z => by rw [z, hp] at hmc; cases hmc
        exact ⟨upd_ne hc, hf, hu, by rw [mup_ne hc]; exact hmc⟩
      · by_cases ht : t = p
        · subst ht; rw [mup_same] at z; cases z; exact absurd rfl hm
        · rw [mup_ne ht] at z; exact z
/-- a changing list is frozen -/
theorem Wd.freeze {M : Mh} {p : Addr} {ds : List D} (w : Wd K mg F H M) (hp : M p = some (.lst ds)) : ∃ F', Le F F' ∧ Wd K mg F' H (mdel M p) ∧ Rep K mg F' (.ref p) (.lst ds) := by
  obtain ⟨f0, vs, e, l, q⟩ := w.mu p _ hp
  have s : Le F (F.up p (.lst vs)) := ⟨same_upd f0, rfl⟩
  refine ⟨F.up p (.lst vs), s, ⟨fun a x z => ?_, fun a x z => ?_, fun a m z => ?_⟩, .lst upd_same l (q.mono s)⟩
  · have z : upd F.f p (.lst vs) a = some x := z
    by_cases h : a = p
    · subst h; rw [upd_same] at z; rw [← z]; exact e
    · rw [upd_ne h] at z; exact w.sub a x z
  · obtain ⟨q1, q2, q3⟩ := w.un a x z
    have h : a ≠ p := fun y => by rw [y, hp] at q3; cases q3
    exact ⟨q1, (upd_ne h).trans q2, by rw [mdel_ne h]; exact q3⟩
  · have h : a ≠ p := fun y => by rw [y, mdel_same] at z; cases z
    rw [mdel_ne h] at z
    obtain ⟨f1, r⟩ := w.mu a m z
    refine ⟨(upd_ne h).trans f1, r.stay (F' := F.up p (.lst vs)) s.f rfl (fun c _ hf hu hm => ?_) fun t y => ?_⟩
    · have hc : c ≠ p := fun y => by rw [y, hp] at hm; cases hm
      exact ⟨rfl, (upd_ne hc).trans hf, hu, by rw [mdel_ne hc]; exact hm⟩
    · have ht : t ≠ p := fun x => by rw [x, mdel_same] at y; cases y
      rw [mdel_ne ht] at y; exact y
/-- things are forgotten -/
theorem Wd.drop {M M' : Mh} (w : Wd K mg F H M) (h : ∀ a m, M' a = some m → M a = some m) : Wd K mg F H M' := by
  have nn : ∀ c, M c = none → M' c = none := fun c hm => by
    cases q : M' c with
    | none => rfl
    | some x => rw [h c x q] at hm; cases hm
  refine ⟨w.sub, fun a x e => let ⟨q1, q2, q3⟩ := w.un a x e; ⟨q1, q2, nn a q3⟩, fun a m e => ?_⟩
  obtain ⟨f, r⟩ := w.mu a m (h a m e)
  exact ⟨f, r.stay (Same.refl _) rfl (fun c _ hf hu hm => ⟨rfl, hf, hu, nn c hm⟩) fun t z => h t _ z⟩
/-- a thing of no one is put among the untouched -/
theorem Wd.hide {M : Mh} {a : Addr} {o : HO} (w : Wd K mg F H M) (h : H a = none) : Wd K mg ⟨F.f, upd F.u a o⟩ (upd H a o) M := by
  obtain ⟨m0, f0, u0⟩ := w.free h
  refine ⟨fun b x e => ?_, fun b x e => ?_, fun b m e => ?_⟩
  · have hb : b ≠ a := ne_of_none (w.sub b x e) h
    rw [upd_ne hb]; exact w.sub b x e
  · have e : upd F.u a o b = some x := e
    by_cases hb : b = a
    · subst hb; rw [upd_same] at e ⊢; exact ⟨e, f0, m0⟩
    · rw [upd_ne hb] at e ⊢; exact w.un b x e
  · have hb : b ≠ a := ne_of_m e m0
    obtain ⟨q, r⟩ := w.mu b m e
    refine ⟨q, r.stay (F := F) (F' := ⟨F.f, upd F.u a o⟩) (Same.refl _) (upd_ne hb) (fun c ⟨x, hx⟩ hf hu hm => ?_) fun _ z => z⟩
    have hc : c ≠ a := ne_of_none hx h
    exact ⟨upd_ne hc, hf, (upd_ne hc).trans hu, hm⟩
/-- .. and changed by its holder -/
theorem Wd.rehide {M : Mh} {a : Addr} {o o' : HO} (w : Wd K mg F H M) (h : F.u a = some o') : Wd K mg ⟨F.f, upd F.u a o⟩ (upd H a o) M := by
  obtain ⟨h0, f0, m0⟩ := w.un a o' h
  refine ⟨fun b x e => ?_, fun b x e => ?_, fun b m e => ?_⟩
  · have hb : b ≠ a := fun z => by rw [z, f0] at e; cases e
    rw [upd_ne hb]; exact w.sub b x e
  · have e : upd F.u a o b = some x := e
    by_cases hb : b = a
    · subst hb; rw [upd_same] at e ⊢; exact ⟨e, f0, m0⟩
    · rw [upd_ne hb] at e ⊢; exact w.un b x e
  · have hb : b ≠ a := ne_of_m e m0
    obtain ⟨q, r⟩ := w.mu b m e
    refine ⟨q, r.stay (F := F) (F' := ⟨F.f, upd F.u a o⟩) (Same.refl _) (upd_ne hb) (fun c ⟨x, hx⟩ hf hu hm => ?_) fun _ z => z⟩
    have hc : c ≠ a := fun z => by rw [z, h] at hu; cases hu
    exact ⟨upd_ne hc, hf, (upd_ne hc).trans hu, hm⟩
/-- fewer untouched ones -/
theorem Wd.less {M : Mh} {u : Hp} (w : Wd K mg F H M) (h : Same u F.u) : Wd K mg ⟨F.f, u⟩ H M := by
  refine ⟨w.sub, fun a o e => w.un a o (h a o e), fun b m e => ?_⟩
  obtain ⟨q, r⟩ := w.mu b m e
  refine ⟨q, r.stay (F := F) (F' := ⟨F.f, u⟩) (Same.refl _) rfl (fun c _ hf hu hm => ⟨rfl, hf, h.free hu, hm⟩) fun _ z => z⟩

abbrev QZ := D → Mh → Prop
abbrev ZE := Env → Mh → QZ → Prop
abbrev ZT := Env → Mh → (Bool → Mh → Prop) → Prop
abbrev ZA := Env → Mh → (List D → Mh → Prop) → Prop
structure ZEnds where
  nx : Env → Mh → Prop
  rt : QZ
  bk : Env → Mh → Prop := fun _ _ => False
  ct : Env → Mh → Prop := fun _ _ => False
abbrev ZS := ZEnds → Env → Mh → Prop
abbrev ZG := D → Env → Mh → (Env → Mh → Prop) → Prop
/-- an exception: its class's name, its fields -/
abbrev ZX := Str → List (Str × D) → Mh → Prop
abbrev ZW := Str → List (Str × D) → Env → Mh → Prop
abbrev ZSp := List D → Mh → QZ → ZX → Prop

/-- what is wanted of a value -/
def Kq (K : PySem.W.Frag) (mg : Str → Option Value) (F : Fz) (R : QZ) (Q : VK) : Prop := ∀ d M', R d M' → ∀ F' H' v, Le F F' → Wd K mg F' H' M' → Rep K mg F' v d → Q v H'
def upE (K : PySem.W.Frag) (mg : Str → Option Value) (F0 : Fz) (f : ZE) : TE := fun s H Q => ∃ (F : Fz) (r : Env) (M : Mh) (R : QZ), Ge F0 F ∧ Wd K mg F H M ∧ RepE K mg F s r ∧ f r M R ∧ Kq K mg F R Q
def upT (K : PySem.W.Frag) (mg : Str → Option Value) (F0 : Fz) (f : ZT) : TT := fun s H Q => ∃ (F : Fz) (r : Env) (M : Mh) (R : Bool → Mh → Prop), Ge F0 F ∧ Wd K mg F H M ∧ RepE K mg F s r ∧ f r M R ∧
  ∀ b M', R b M' → ∀ F' H', Le F F' → Wd K mg F' H' M' → Q b H'
def upA (K : PySem.W.Frag) (mg : Str → Option Value) (F0 : Fz) (f : ZA) : TA := fun s H Q => ∃ (F : Fz) (r : Env) (M : Mh) (R : List D → Mh → Prop), Ge F0 F ∧ Wd K mg F H M ∧ RepE K mg F s r ∧ f r M R ∧
  ∀ ds M', R ds M' → ∀ F' H' vs, Le F F' → Wd K mg F' H' M' → RepL K mg F' vs ds → Q vs H'
/-- what follows in a state -/
def Kn (K : PySem.W.Frag) (mg : Str → Option Value) (F : Fz) (R : Env → Mh → Prop) (Q : St → Hp → Prop) : Prop := ∀ r M, R r M → ∀ F' s H', Le F F' → Wd K mg F' H' M → RepE K mg F' s r → Q s H'
structure Ks (K : PySem.W.Frag) (mg : Str → Option Value) (F : Fz) (Z : ZEnds) (D : Ends) : Prop where
  nx : Kn K mg F Z.nx D.nx
  rt : Kq K mg F Z.rt D.rt
  bk : Kn K mg F Z.bk D.bk
  ct : Kn K mg F Z.ct D.ct
def upS (K : PySem.W.Frag) (mg : Str → Option Value) (F0 : Fz) (f : ZS) : TS := fun D s H => ∃ (F : Fz) (r : Env) (M : Mh) (Z : ZEnds), Ge F0 F ∧ Wd K mg F H M ∧ RepE K mg F s r ∧ f Z r M ∧ Ks K mg F Z D
def upG (K : PySem.W.Frag) (mg : Str → Option Value) (F0 : Fz) (g : ZG) : TG := fun v s H Q => ∃ (F : Fz) (r : Env) (M : Mh) (d : D) (R : Env → Mh → Prop), Ge F0 F ∧ Wd K mg F H M ∧ RepE K mg F s r ∧ Rep K mg F v d ∧ g d r M R ∧ Kn K mg F R Q
theorem Kq.mono {R : QZ} {Q : VK} (e : Le F F') (k : Kq K mg F R Q) : Kq K mg F' R Q := fun d M' h G H' v s w r => k d M' h G H' v (e.trans s) w r
theorem Kn.mono {R : Env → Mh → Prop} {Q : St → Hp → Prop} (e : Le F F') (k : Kn K mg F R Q) : Kn K mg F' R Q := fun d M' h G s' H' s w r => k d M' h G s' H' (e.trans s) w r
theorem Ks.mono {Z : ZEnds} {E : Ends} (e : Le F F') (k : Ks K mg F Z E) : Ks K mg F' Z E := ⟨k.nx.mono e, k.rt.mono e, k.bk.mono e, k.ct.mono e⟩

/-! ### judgements weakened -/
end
section
variable {X : Cx} {e : Expr}
theorem pe_imp {t t' : TE} (h : PE X e t) (i : ∀ s H Q, t' s H Q → t s H Q) : PE X e t' := ⟨fun pins s r H Q I q => h.run pins s r H Q I (i _ _ _ q)⟩
theorem pt_imp {t t' : TT} (h : PT X e t) (i : ∀ s H Q, t' s H Q → t s H Q) : PT X e t' := ⟨fun pins s r H Q I q => h.run pins s r H Q I (i _ _ _ q)⟩
theorem pw_imp {t t' : TT} (h : PW X e t) (i : ∀ s H Q, t' s H Q → t s H Q) : PW X e t' := ⟨fun w pins s r H Q I q => h.run w pins s r H Q I (i _ _ _ q)⟩
theorem pa_imp {es : List Expr} {t t' : TA} (h : PA X es t) (i : ∀ s H Q, t' s H Q → t s H Q) : PA X es t' := ⟨fun p pins s r H Q I q => h.run p pins s r H Q I (i _ _ _ q)⟩
theorem ps_imp {st : Stmt} {t t' : TS} (h : PS X st t) (i : ∀ E s H, t' E s H → t E s H) : PS X st t' := ⟨fun pins s r H E I q => h.run pins s r H E I (i _ _ _ q)⟩
theorem pss_imp {st : List Stmt} {t t' : TS} (h : PSs X st t) (i : ∀ E s H, t' E s H → t E s H) : PSs X st t' := ⟨fun pins s r H E I q => h.run pins s r H E I (i _ _ _ q)⟩
theorem pg_imp {t t' : TG} (h : PG X e t) (i : ∀ v s H Q, t' v s H Q → t v s H Q) : PG X e t' := ⟨fun pins s r H v u Q I rv q => h.run pins s r H v u Q I rv (i _ _ _ _ q)⟩
end
end Zl

/-! Zl2: expressions -/
namespace Zl
open PySem L2

/-! ### readings -/
/-- by a truth value -/
def bsel (b : Bool) (t u : Prop) : Prop := match b with | true => t | false => u
def onBl (d : D) (k : Bool → Prop) : Prop := match d with | .bl b => k b | _ => False
def onInt (d : D) (k : Int → Prop) : Prop := match d with | .int i => k i | _ => False
def zVar (i : Nat) : ZE := fun r M Q => match gt r i with | some d => Q d M | none => False
def zC (d : D) : ZE := fun _ M Q => Q d M
def z2 (f : D → D → Mh → QZ → Prop) (a b : ZE) : ZE := fun r M Q => a r M fun x M1 => b r M1 fun y M2 => f x y M2 Q
def z1 (f : D → Mh → QZ → Prop) (a : ZE) : ZE := fun r M Q => a r M fun x M1 => f x M1 Q
/-- the items of a list, frozen or changing -/
def zL (M : Mh) (d : D) (k : List D → Prop) : Prop := match d with
  | .lst ds => k ds
  | .ref p => (match M p with | some (.lst ds) => k ds | _ => False)
  | _ => False
/-- .. or of a tuple -/
def zLT (M : Mh) (d : D) (k : List D → Prop) : Prop := match d with
  | .tup ds => k ds
  | .lst ds => k ds
  | .ref p => (match M p with | some (.lst ds) => k ds | _ => False)
  | _ => False
@[simp] theorem zL_lst (M : Mh) (ds : List D) (k : List D → Prop) : zL M (.lst ds) k = k ds := rfl
theorem zL_ref {M : Mh} {p : Addr} {ds : List D} {k : List D → Prop} (h : M p = some (.lst ds)) : zL M (.ref p) k = k ds := by
  show (match M p with | some (.lst ds) => k ds | _ => False) = k ds
  rw [h]
@[simp] theorem zLT_lst (M : Mh) (ds : List D) (k : List D → Prop) : zLT M (.lst ds) k = k ds := rfl
@[simp] theorem zLT_tup (M : Mh) (ds : List D) (k : List D → Prop) : zLT M (.tup ds) k = k ds := rfl
theorem zLT_ref {M : Mh} {p : Addr} {ds : List D} {k : List D → Prop} (h : M p = some (.lst ds)) : zLT M (.ref p) k = k ds := by
  show (match M p with | some (.lst ds) => k ds | _ => False) = k ds
  rw [h]
/-- a new list: b tells whether it may change -/
def zNew (b : Bool) (ds : List D) (M : Mh) (Q : QZ) : Prop := match b with
  | true => ∀ p, M p = none → Q (.ref p) (mup M p (.lst ds))
  | false => Q (.lst ds) M
@[simp] theorem zNew_f (ds : List D) (M : Mh) (Q : QZ) : zNew false ds M Q = Q (.lst ds) M := rfl
@[simp] theorem zNew_t (ds : List D) (M : Mh) (Q : QZ) : zNew true ds M Q = ∀ p, M p = none → Q (.ref p) (mup M p (.lst ds)) := rfl

def dAdd (b : Bool) (x y : D) (M : Mh) (Q : QZ) : Prop := match x, y with
  | .int i, .int j => Q (.int (i + j)) M
  | .str s, .str t => s.length + t.length ≤ sizeLine ∧ Q (.str (s ++ t)) M
  | .lst xs, y => zL M y fun ys => xs.length + ys.length ≤ sizeLine ∧ zNew b (xs ++ ys) M Q
  | .ref p, y => zL M (.ref p) fun xs => zL M y fun ys => xs.length + ys.length ≤ sizeLine ∧ zNew b (xs ++ ys) M Q
  | _, _ => False
def dSub (x y : D) (M : Mh) (Q : QZ) : Prop := match x, y with
  | .int i, .int j => Q (.int (i - j)) M
  | _, _ => False
def dMul (b : Bool) (x y : D) (M : Mh) (Q : QZ) : Prop := match x, y with
  | .int i, .int j => CMul i j ∧ Q (.int (i * j)) M
  | .lst xs, .int k => -(2 ^ 63) ≤ k ∧ k < 2 ^ 63 ∧ xs.length * k.toNat ≤ sizeLine ∧ zNew b (List.replicate k.toNat xs).flatten M Q
  | .ref p, .int k => zL M (.ref p) fun xs => -(2 ^ 63) ≤ k ∧ k < 2 ^ 63 ∧ xs.length * k.toNat ≤ sizeLine ∧ zNew b (List.replicate k.toNat xs).flatten M Q
  | _, _ => False
def dDiv (x y : D) (M : Mh) (Q : QZ) : Prop := match x, y with
  | .int i, .int j => CDiv i j ∧ Q (.int (i / j)) M
  | _, _ => False
def dMod (x y : D) (M : Mh) (Q : QZ) : Prop := match x, y with
  | .int i, .int j => 0 < j ∧ Q (.int (i % j)) M
  | _, _ => False
def dPow (x y : D) (M : Mh) (Q : QZ) : Prop := match x, y with
  | .int i, .int j => CPow i j ∧ Q (.int (i ^ j.toNat)) M
  | _, _ => False
def dShr (x y : D) (M : Mh) (Q : QZ) : Prop := match x, y with
  | .int i, .int j => 0 ≤ j ∧ Q (.int (i / 2 ^ j.toNat)) M
  | _, _ => False
def dAnd (x y : D) (M : Mh) (Q : QZ) : Prop := match x, y with
  | .int i, .int j => Q (.int (Builtin.bitAnd i j)) M
  | _, _ => False
def dXor (x y : D) (M : Mh) (Q : QZ) : Prop := match x, y with
  | .int i, .int j => Q (.int (Builtin.bitXor i j)) M
  | _, _ => False
def dNeg (x : D) (M : Mh) (Q : QZ) : Prop := match x with
  | .int i => Q (.int (-i)) M
  | _ => False
def dCmp (p : Int → Int → Bool) (x y : D) (M : Mh) (Q : QZ) : Prop := match x, y with
  | .int i, .int j => Q (.bl (p i j)) M
  | _, _ => False
def pLt (i j : Int) : Bool := decide (i < j)
def pLe (i j : Int) : Bool := decide (i ≤ j)
def pGt (i j : Int) : Bool := decide (j < i)
def pGe (i j : Int) : Bool := decide (j ≤ i)

/-! ### equality of data -/
mutual
def toP : D → PyData
  | .non => .none
  | .bl b => .bool b
  | .int i => .int i
  | .str x => .str x
  | .lst ds => .list (toPs ds)
  | .tup ds => .tuple (toPs ds)
  | .dct => .none
  | .exc _ => .none
  | .scr _ => .none
  | .ref _ => .none
def toPs : List D → List PyData
  | [] => []
  | d :: r => toP d :: toPs r
end
mutual
/-- data through and through -/
def plain : D → Bool
  | .non | .bl _ | .int _ | .str _ => true
  | .lst ds => plains ds
  | .tup ds => plains ds
  | _ => false
def plains : List D → Bool
  | [] => true
  | d :: r => plain d && plains r
end
def eqD (x y : D) : Bool := PyData.eqv (toP x) (toP y)
def eqDs (x y : List D) : Bool := PyData.eqvAll (toPs x) (toPs y)
def dep (x : D) : Nat := (toP x).depth
mutual
/-- things as data: lists that may change, as they stand -/
inductive Rs (M : Mh) : D → D → Prop
  | refl (d : D) : Rs M d d
  | ref {p : Addr} {ds es : List D} : M p = some (.lst ds) → RsL M ds es → Rs M (.ref p) (.lst es)
  | lst {ds es : List D} : RsL M ds es → Rs M (.lst ds) (.lst es)
  | tup {ds es : List D} : RsL M ds es → Rs M (.tup ds) (.tup es)
inductive RsL (M : Mh) : List D → List D → Prop
  | nil : RsL M [] []
  | cons {d e : D} {ds es : List D} : Rs M d e → RsL M ds es → RsL M (d :: ds) (e :: es)
end
theorem RsL.refl (M : Mh) : ∀ ds : List D, RsL M ds ds
  | [] => .nil
  | d :: r => .cons (.refl d) (RsL.refl M r)
def zP (M : Mh) (d : D) (k : D → Prop) : Prop := ∃ e, Rs M d e ∧ k e
def dEq (x y : D) (M : Mh) (Q : QZ) : Prop := zP M x fun x => zP M y fun y => plain x = true ∧ plain y = true ∧ (dep x ≤ 64 ∨ dep y ≤ 64) ∧ Q (.bl (eqD x y)) M
def dNe (x y : D) (M : Mh) (Q : QZ) : Prop := zP M x fun x => zP M y fun y => plain x = true ∧ plain y = true ∧ (dep x ≤ 64 ∨ dep y ≤ 64) ∧ Q (.bl (!eqD x y)) M

section
variable {K : PySem.W.Frag} {mg : Str → Option Value} {F F0 : Fz} {H : Hp} {M : Mh}
mutual
theorem Rep.dp (w : Same F.f H) : ∀ {v : V} {d : D}, plain d = true → Rep K mg F v d → Dp K H v (toP d)
  | _, _, _, .non => .non
  | _, _, _, .bl b => .bl b
  | _, _, _, .int i => .int i
  | _, _, _, .str _ _ => .str _
  | _, _, p, .lst h _ r => .lst (SqL.of (w _ _ h)) (RepL.dp w p r)
  | _, _, p, .tup h _ r => .tup (same_sqT w h) (RepL.dp w p r)
  | _, _, p, .dct _ => absurd (show false = true from p) Bool.false_ne_true
  | _, _, p, .exc _ _ _ => absurd (show false = true from p) Bool.false_ne_true
  | _, _, p, .scr _ _ => absurd (show false = true from p) Bool.false_ne_true
  | _, _, p, .ref _ => absurd (show false = true from p) Bool.false_ne_true
theorem RepL.dp (w : Same F.f H) : ∀ {vs : List V} {ds : List D}, plains ds = true → RepL K mg F vs ds → DpAll K H vs (toPs ds)
  | _, _, _, .nil => .nil
  | _, _, p, .cons h t => by
    have q := Bool.and_eq_true_iff.mp (show (plain _ && plains _) = true from p)
    exact .cons (Rep.dp w q.1 h) (RepL.dp w q.2 t)
end
mutual
theorem Rep.lay : ∀ {v : V} {d : D}, Rep K mg F v d → (toP d).canLay0 = true
  | _, _, .non => by simp [toP, PyData.canLay0]
  | _, _, .bl b => by simp [toP, PyData.canLay0]
  | _, _, .int i => by simp [toP, PyData.canLay0]
  | _, _, .str h _ => by simpa [toP, PyData.canLay0] using h
  | _, _, .lst _ _ r => by simpa [toP, PyData.canLay0] using RepL.lay r
  | _, _, .tup _ _ r => by simpa [toP, PyData.canLay0] using RepL.lay r
  | _, _, .dct _ => by simp [toP, PyData.canLay0]
  | _, _, .exc _ _ _ => by simp [toP, PyData.canLay0]
  | _, _, .scr _ _ => by simp [toP, PyData.canLay0]
  | _, _, .ref a => by simp [toP, PyData.canLay0]
theorem RepL.lay : ∀ {vs : List V} {ds : List D}, RepL K mg F vs ds → PyData.canLayAll0 (toPs ds) = true
  | _, _, .nil => by simp [toPs, PyData.canLayAll0]
  | _, _, .cons h t => by
    have a := Rep.lay h
    have b := RepL.lay t
    simp [toPs, PyData.canLayAll0, a, b]
end
theorem Wd.same (w : Wd K mg F H M) : Same F.f H := fun a o e => w.sub a o e
mutual
theorem Rs.dp (w : Wd K mg F H M) : ∀ {v : V} {d e : D}, Rs M d e → Rep K mg F v d → (plain e = true → Dp K H v (toP e)) ∧ (toP e).canLay0 = true
  | _, _, _, .refl d, r => ⟨fun pl => r.dp w.same pl, r.lay⟩
  | _, _, _, .ref e q, r => by
    cases r
    obtain ⟨_, vs, hv, _, q2⟩ := w.mu _ _ e
    obtain ⟨h1, h2⟩ := RsL.dp w q q2
    exact ⟨fun pl => .lst (SqL.of hv) (h1 (by simpa [plain] using pl)), by simpa [toP, PyData.canLay0] using h2⟩
  | _, _, _, .lst q, r => by
    cases r with
    | lst e l q2 =>
      obtain ⟨h1, h2⟩ := RsL.dp w q q2
      exact ⟨fun pl => .lst (SqL.of (w.same _ _ e)) (h1 (by simpa [plain] using pl)), by simpa [toP, PyData.canLay0] using h2⟩
  | _, _, _, .tup q, r => by
    cases r with
    | tup e l q2 =>
      obtain ⟨h1, h2⟩ := RsL.dp w q q2
      exact ⟨fun pl => .tup (same_sqT w.same e) (h1 (by simpa [plain] using pl)), by simpa [toP, PyData.canLay0] using h2⟩
theorem RsL.dp (w : Wd K mg F H M) : ∀ {vs : List V} {ds es : List D}, RsL M ds es → RepL K mg F vs ds → (plains es = true → DpAll K H vs (toPs es)) ∧ PyData.canLayAll0 (toPs es) = true
  | _, _, _, .nil, r => by
    cases r
    exact ⟨fun _ => .nil, by simp [toPs, PyData.canLayAll0]⟩
  | _, _, _, .cons q t, r => by
    cases r with
    | cons h1 h2 =>
      obtain ⟨a1, a2⟩ := Rs.dp w q h1
      obtain ⟨b1, b2⟩ := RsL.dp w t h2
      refine ⟨fun pl => ?_, by simp [toPs, PyData.canLayAll0, a2, b2]⟩
      have pl := Bool.and_eq_true_iff.mp (show (plain _ && plains _) = true from pl)
      exact .cons (a1 pl.1) (b1 pl.2)
end
/-- from a thing to its data -/
theorem zP_out {d : D} {k : D → Prop} {v : V} (w : Wd K mg F H M) (r : Rep K mg F v d) (h : zP M d k) : ∃ d', k d' ∧ (plain d' = true → Dp K H v (toP d')) ∧ (toP d').canLay0 = true := by
  obtain ⟨e, q, h⟩ := h
  obtain ⟨h1, h2⟩ := Rs.dp w q r
  exact ⟨e, h, h1, h2⟩
/-- from a list to its items -/
theorem zL_out {d : D} {k : List D → Prop} {v : V} (w : Wd K mg F H M) (r : Rep K mg F v d) (h : zL M d k) : ∃ a vs ds, v = .ref a ∧ H a = some (.lst vs) ∧ vs.length ≤ sizeLine ∧ RepL K mg F vs ds ∧ k ds := by
  cases d with
  | lst ds =>
    cases r with
    | lst e l q => exact ⟨_, _, ds, rfl, w.sub _ _ e, l, q, h⟩
  | ref p =>
    cases r
    unfold zL at h
    cases e : M p with
    | none => simp [e] at h
    | some m =>
      cases m with
      | lst ds =>
        simp [e] at h
        obtain ⟨_, vs, hv, l, q⟩ := w.mu p _ e
        exact ⟨p, vs, ds, rfl, hv, l, q, h⟩
      | ins c fs => simp [e] at h
      | town => simp [e] at h
  | _ => exact False.elim h
theorem zLT_out {d : D} {k : List D → Prop} {v : V} (w : Wd K mg F H M) (r : Rep K mg F v d) (h : zLT M d k) : ∃ a vs ds, v = .ref a ∧ (SqL K H a vs ∨ SqT K H a vs) ∧ vs.length ≤ sizeLine ∧ RepL K mg F vs ds ∧ k ds := by
  cases d with
  | tup ds =>
    cases r with
    | tup e l q => exact ⟨_, _, ds, rfl, .inr (same_sqT w.same e), l, q, h⟩
  | lst ds =>
    obtain ⟨a, vs, es, e, h1, h2, h3, h4⟩ := zL_out (d := .lst ds) (k := k) w r h
    exact ⟨a, vs, es, e, .inl (SqL.of h1), h2, h3, h4⟩
  | ref p =>
    obtain ⟨a, vs, es, e, h1, h2, h3, h4⟩ := zL_out (d := .ref p) (k := k) w r h
    exact ⟨a, vs, es, e, .inl (SqL.of h1), h2, h3, h4⟩
  | _ => exact False.elim h
/-- a new list -/
theorem zNew_out {b : Bool} {vs : List V} {ds : List D} {R : QZ} {Q : VK} (w : Wd K mg F H M) (l : vs.length ≤ sizeLine) (q : RepL K mg F vs ds) (h : zNew b ds M R) (k : Kq K mg F R Q) : ∀ p, H p = none → Q (.ref p) (upd H p (.lst vs)) := by
  intro p hp
  obtain ⟨m0, f0, u0⟩ := w.free hp
  cases b with
  | false =>
    obtain ⟨s, w'⟩ := w.laidF (o := .lst vs) hp
    exact k _ _ h _ _ _ s w' (.lst upd_same l (q.mono s))
  | true =>
    refine k _ _ (h p m0) F _ _ (Le.refl F) (w.laidM hp (by intro z; cases z) ⟨vs, upd_same, l, q⟩) (.ref p)
theorem zTup_out {vs : List V} {ds : List D} {R : QZ} {Q : VK} (w : Wd K mg F H M) (l : vs.length ≤ sizeLine) (q : RepL K mg F vs ds) (h : R (.tup ds) M) (k : Kq K mg F R Q) : ∀ p, H p = none → Q (.ref p) (upd H p (.tup vs)) := by
  intro p hp
  obtain ⟨s, w'⟩ := w.laidF (o := .tup vs) hp
  exact k _ _ h _ _ _ s w' (.tup (SqT.of upd_same) l (q.mono s))
end

/-! ### lifting -/
/-- a two-place operation's soundness -/
def Snd2 (K : PySem.W.Frag) (mg : Str → Option Value) (r : R2) (f : D → D → Mh → QZ → Prop) : Prop := ∀ (F : Fz) (H : Hp) (M : Mh) (x y : V) (a b : D) (Q : VK) (R : QZ), Wd K mg F H M → Rep K mg F x a → Rep K mg F y b → f a b M R → Kq K mg F R Q → r x y H Q
def Snd1 (K : PySem.W.Frag) (mg : Str → Option Value) (r : V → Hp → VK → Prop) (f : D → Mh → QZ → Prop) : Prop := ∀ (F : Fz) (H : Hp) (M : Mh) (x : V) (a : D) (Q : VK) (R : QZ), Wd K mg F H M → Rep K mg F x a → f a M R → Kq K mg F R Q → r x H Q
/-- .. of a call by values -/
def SndA (K : PySem.W.Frag) (mg : Str → Option Value) (r : List V → Hp → VK → Prop) (f : List D → Mh → QZ → Prop) : Prop := ∀ (F : Fz) (H : Hp) (M : Mh) (xs : List V) (ds : List D) (Q : VK) (R : QZ), Wd K mg F H M → RepL K mg F xs ds → f ds M R → Kq K mg F R Q → r xs H Q
section
variable {X : Cx} {F0 : Fz}
abbrev UE (X : Cx) (F0 : Fz) (f : ZE) : TE := upE X.K X.mg F0 f
abbrev UT (X : Cx) (F0 : Fz) (f : ZT) : TT := upT X.K X.mg F0 f
abbrev UA (X : Cx) (F0 : Fz) (f : ZA) : TA := upA X.K X.mg F0 f
abbrev US (X : Cx) (F0 : Fz) (f : ZS) : TS := upS X.K X.mg F0 f
abbrev UG (X : Cx) (F0 : Fz) (f : ZG) : TG := upG X.K X.mg F0 f
theorem up2 {K : PySem.W.Frag} {mg : Str → Option Value} {fa fb : ZE} {r : R2} {f : D → D → Mh → QZ → Prop} (s2 : Snd2 K mg r f) {s : St} {H : Hp} {Q : VK} (h : upE K mg F0 (z2 f fa fb) s H Q) : tOp r (upE K mg F0 fa) (upE K mg F0 fb) s H Q := by
  obtain ⟨F, rr, M, R, s0, w, e, h, k⟩ := h
  refine ⟨F, rr, M, _, s0, w, e, h, fun x M1 h1 F1 H1 v s1 w1 r1 => ⟨F1, rr, M1, _, s0.trans s1, w1, e.mono s1, h1, fun y M2 h2 F2 H2 u s3 w2 r2 => ?_⟩⟩
  exact s2 F2 H2 M2 v u x y Q R w2 (r1.mono s3) r2 h2 (k.mono (s1.trans s3))
theorem ze_op {a b : Expr} {op : Operator} {pos : Pos} {fa fb : ZE} {r : R2} {f : D → D → Mh → QZ → Prop} (ho : OpR X (binaryOp op) r) (s2 : Snd2 X.K X.mg r f) (ha : PE X a (UE X F0 fa)) (hb : PE X b (UE X F0 fb)) :
    PE X (.BinOp a op b pos) (UE X F0 (z2 f fa fb)) := pe_imp (pe_op ho ha hb) fun _ _ _ h => up2 s2 h
theorem ze_un {a : Expr} {op : UnaryOp} {pos : Pos} {fa : ZE} {r : V → Hp → VK → Prop} {f : D → Mh → QZ → Prop} (ho : UnR X (unaryOp op) r) (s1 : Snd1 X.K X.mg r f) (ha : PE X a (UE X F0 fa)) : PE X (.UnaryOp op a pos) (UE X F0 (z1 f fa)) := by
  refine pe_imp (pe_un ho ha) fun s H Q h => ?_
  obtain ⟨F, rr, M, R, s0, w, e, h, k⟩ := h
  exact ⟨F, rr, M, _, s0, w, e, h, fun x M1 h1 F1 H1 v s2 w1 r1 => s1 F1 H1 M1 v x Q R w1 r1 h1 (k.mono s2)⟩
theorem ze_cmp {a b : Expr} {op : CmpOp} {pos : Pos} {fa fb : ZE} {r : R2} {f : D → D → Mh → QZ → Prop} (ho : OpR X (compareOp op) r) (s2 : Snd2 X.K X.mg r f) (ha : PE X a (UE X F0 fa)) (hb : PE X b (UE X F0 fb)) (hm : behindInMarks op b = false) :
    PE X (.Compare a [op] [b] pos) (UE X F0 (z2 f fa fb)) := pe_imp (pe_cmpR ho ha hb hm) fun _ _ _ h => up2 s2 h
/-- a bool as a test -/
def zB (t : ZE) : ZT := fun r M Q => t r M fun d M1 => onBl d fun b => Q b M1
theorem upB {K : PySem.W.Frag} {mg : Str → Option Value} {f : ZE} {s : St} {H : Hp} {Q : Bool → Hp → Prop} (h : upT K mg F0 (zB f) s H Q) : upE K mg F0 f s H fun x H' => ∃ k, x = .bl k ∧ Q k H' := by
  obtain ⟨F, rr, M, R, s0, w, e, h, k⟩ := h
  refine ⟨F, rr, M, _, s0, w, e, h, fun x M1 h1 F1 H1 v s2 w1 r1 => ?_⟩
  cases x with
  | bl b => cases r1; exact ⟨b, rfl, k b M1 h1 F1 H1 s2 w1⟩
  | _ => exact False.elim h1
theorem zt_cmp {a b : Expr} {op : CmpOp} {pos : Pos} {fa fb : ZE} {r : R2} {f : D → D → Mh → QZ → Prop} (ho : OpR X (compareOp op) r) (s2 : Snd2 X.K X.mg r f) (ha : PE X a (UE X F0 fa)) (hb : PE X b (UE X F0 fb)) (hm : behindInMarks op b = false) :
    PT X (.Compare a [op] [b] pos) (UT X F0 (zB (z2 f fa fb))) := pt_imp (pt_cmpR ho ha hb hm) fun s H Q h => by
  have q := upB h
  exact up2 s2 q
theorem zt_val {a : Expr} {fa : ZE} (ha : PE X a (UE X F0 fa)) (he : ∀ whole, isTrue a X.env whole = (do let v ← whole; standAt a.pos; holding [v] (truthy v)) := by intro _; rfl) : PT X a (UT X F0 (zB fa)) :=
  pt_imp (pt_val ha he) fun s H Q h => upB h
/-! names, constants -/
theorem ze_var (i : Nat) {x : Str} {pos : Pos} (hN : X.N[i]? = some x := by rfl) (hv : Vis X.env.scope x := by first | exact Or.inl rfl | exact Or.inr (Or.inl rfl) | exact Or.inr (Or.inr rfl)) (hd : (x == ("__debug__" : Str)) = false := by decide)
    (hcd : (x == ("__classdict__" : Str)) = false := by decide) : PE X (.Name x pos) (UE X F0 (zVar i)) := by
  refine pe_imp (pe_var hN hv hd hcd) fun s H Q h => ?_
  obtain ⟨F, rr, M, R, s0, w, e, h, k⟩ := h
  unfold zVar at h
  cases q : gt rr i with
  | none => simp [q] at h
  | some d =>
    simp [q] at h
    obtain ⟨v, h1, h2⟩ := e.2 i d q
    exact ⟨v, h1, k d M h F H v (Le.refl F) w h2⟩
theorem up_c {K : PySem.W.Frag} {mg : Str → Option Value} {v : V} {d : D} (hr : ∀ F, Rep K mg F v d) {s : St} {H : Hp} {Q : VK} (h : upE K mg F0 (zC d) s H Q) : Q v H := by
  obtain ⟨F, rr, M, R, s0, w, e, h, k⟩ := h
  exact k d M h F H v (Le.refl F) w (hr F)
theorem ze_int {i : Int} {j : Nat} {pos : Pos} : PE X (.Constant (.int i) j pos) (UE X F0 (zC (.int i))) := pe_imp pe_int fun _ _ _ h => up_c (fun _ => .int i) h
theorem ze_bl {b : Bool} {j : Nat} {pos : Pos} : PE X (.Constant (.bool b) j pos) (UE X F0 (zC (.bl b))) := pe_imp pe_bl fun _ _ _ h => up_c (fun _ => .bl b) h
theorem ze_non {j : Nat} {pos : Pos} : PE X (.Constant .none j pos) (UE X F0 (zC .non)) := pe_imp pe_non fun _ _ _ h => up_c (fun _ => .non) h
theorem ze_str {x : Str} {j : Nat} {pos : Pos} (h1 : PyData.strOk x = true := by decide +kernel) (h2 : x.length ≤ sizeLine := by decide +kernel) : PE X (.Constant (.str x) j pos) (UE X F0 (zC (.str x))) := pe_imp pe_str fun _ _ _ h => up_c (fun _ => .str h1 h2) h
theorem ze_glob {x : Str} {v : V} {u : Value} {d : D} {pos : Pos} (hg : Gl X x) (hm : X.mg x = some u) (r : RelV v u) (hr : ∀ F, Rep X.K X.mg F v d) (hd : (x == ("__debug__" : Str)) = false := by decide) : PE X (.Name x pos) (UE X F0 (zC d)) :=
  pe_imp (pe_glob hg hm r hd) fun _ _ _ h => up_c hr h
/-! and, or, not, if -/
def zAnd (t u : ZT) : ZT := fun r M Q => t r M fun b M1 => bsel b (u r M1 Q) (Q false M1)
def zOr (t u : ZT) : ZT := fun r M Q => t r M fun b M1 => bsel b (Q true M1) (u r M1 Q)
def zNot (t : ZT) : ZT := fun r M Q => t r M fun b M1 => Q (!b) M1
def zAndV (a b : ZE) : ZE := fun r M Q => a r M fun d M1 => onBl d fun c => bsel c (b r M1 Q) (Q (.bl false) M1)
def zOrV (a b : ZE) : ZE := fun r M Q => a r M fun d M1 => onBl d fun c => bsel c (Q (.bl true) M1) (b r M1 Q)
def zNotV (a : ZE) : ZE := fun r M Q => a r M fun d M1 => onBl d fun b => Q (.bl (!b)) M1
def zIfE (t : ZT) (a b : ZE) : ZE := fun r M Q => t r M fun c M1 => bsel c (a r M1 Q) (b r M1 Q)
variable {a b c : Expr} {rest : List Expr} {pos : Pos} {fa fb : ZE} {ta tb : ZT}
theorem zw_and1 (ha : PT X a (UT X F0 ta)) : PW X (.BoolOp .And [a] pos) (UT X F0 ta) := pw_and1 ha
theorem zw_or1 (ha : PT X a (UT X F0 ta)) : PW X (.BoolOp .Or [a] pos) (UT X F0 ta) := pw_or1 ha
theorem zw_and (ha : PT X a (UT X F0 ta)) (hb : PW X (.BoolOp .And (b :: rest) pos) (UT X F0 tb)) : PW X (.BoolOp .And (a :: b :: rest) pos) (UT X F0 (zAnd ta tb)) := pw_imp (pw_and ha hb) fun s H Q h => by
  obtain ⟨F, rr, M, R, s0, w, e, h, k⟩ := h
  refine ⟨F, rr, M, _, s0, w, e, h, fun d M1 h1 F1 H1 s2 w1 => ?_⟩
  cases d with
  | true => exact ⟨F1, rr, M1, R, s0.trans s2, w1, e.mono s2, h1, fun b M2 h2 F2 H2 s3 w2 => k b M2 h2 F2 H2 (s2.trans s3) w2⟩
  | false => exact k false M1 h1 F1 H1 s2 w1
theorem zw_or (ha : PT X a (UT X F0 ta)) (hb : PW X (.BoolOp .Or (b :: rest) pos) (UT X F0 tb)) : PW X (.BoolOp .Or (a :: b :: rest) pos) (UT X F0 (zOr ta tb)) := pw_imp (pw_or ha hb) fun s H Q h => by
  obtain ⟨F, rr, M, R, s0, w, e, h, k⟩ := h
  refine ⟨F, rr, M, _, s0, w, e, h, fun d M1 h1 F1 H1 s2 w1 => ?_⟩
  cases d with
  | false => exact ⟨F1, rr, M1, R, s0.trans s2, w1, e.mono s2, h1, fun b M2 h2 F2 H2 s3 w2 => k b M2 h2 F2 H2 (s2.trans s3) w2⟩
  | true => exact k true M1 h1 F1 H1 s2 w1
theorem zt_w (h : PW X a (UT X F0 ta)) : PT X a (UT X F0 ta) := h.pt
theorem zt_not (ha : PT X a (UT X F0 ta)) : PT X (.UnaryOp .Not a pos) (UT X F0 (zNot ta)) := pt_imp (pt_not ha) fun s H Q h => by
  obtain ⟨F, rr, M, R, s0, w, e, h, k⟩ := h
  exact ⟨F, rr, M, _, s0, w, e, h, fun d M1 h1 F1 H1 s2 w1 => k _ M1 h1 F1 H1 s2 w1⟩
theorem ze_one {op : BoolOp} (h : PE X a (UE X F0 fa)) : PE X (.BoolOp op [a] pos) (UE X F0 fa) := pe_one h
theorem ze_and (ha : PE X a (UE X F0 fa)) (hb : PE X (.BoolOp .And (b :: rest) pos) (UE X F0 fb)) : PE X (.BoolOp .And (a :: b :: rest) pos) (UE X F0 (zAndV fa fb)) := pe_imp (pe_and ha hb) fun s H Q h => by
  obtain ⟨F, rr, M, R, s0, w, e, h, k⟩ := h
  refine ⟨F, rr, M, _, s0, w, e, h, fun d M1 h1 F1 H1 v s2 w1 r1 => ?_⟩
  cases d with
  | bl c =>
    cases r1
    refine ⟨c, rfl, ?_⟩
    cases c with
    | true => exact ⟨F1, rr, M1, R, s0.trans s2, w1, e.mono s2, h1, k.mono s2⟩
    | false => exact k _ M1 h1 F1 H1 _ s2 w1 (.bl false)
  | _ => exact False.elim h1
theorem ze_or (ha : PE X a (UE X F0 fa)) (hb : PE X (.BoolOp .Or (b :: rest) pos) (UE X F0 fb)) : PE X (.BoolOp .Or (a :: b :: rest) pos) (UE X F0 (zOrV fa fb)) := pe_imp (pe_or ha hb) fun s H Q h => by
  obtain ⟨F, rr, M, R, s0, w, e, h, k⟩ := h
  refine ⟨F, rr, M, _, s0, w, e, h, fun d M1 h1 F1 H1 v s2 w1 r1 => ?_⟩
  cases d with
  | bl c =>
    cases r1
    refine ⟨c, rfl, ?_⟩
    cases c with
    | false => exact ⟨F1, rr, M1, R, s0.trans s2, w1, e.mono s2, h1, k.mono s2⟩
    | true => exact k _ M1 h1 F1 H1 _ s2 w1 (.bl true)
  | _ => exact False.elim h1
theorem ze_not (ha : PE X a (UE X F0 fa)) : PE X (.UnaryOp .Not a pos) (UE X F0 (zNotV fa)) := pe_imp (pe_not ha) fun s H Q h => by
  obtain ⟨F, rr, M, R, s0, w, e, h, k⟩ := h
  refine ⟨F, rr, M, _, s0, w, e, h, fun d M1 h1 F1 H1 v s2 w1 r1 => ?_⟩
  cases d with
  | bl c => cases r1; exact ⟨c, rfl, k _ M1 h1 F1 H1 _ s2 w1 (.bl _)⟩
  | _ => exact False.elim h1
theorem ze_if (hc : PT X c (UT X F0 ta)) (ha : PE X a (UE X F0 fa)) (hb : PE X b (UE X F0 fb)) : PE X (.IfExp c a b pos) (UE X F0 (zIfE ta fa fb)) := pe_imp (pe_ifExp hc ha hb) fun s H Q h => by
  obtain ⟨F, rr, M, R, s0, w, e, h, k⟩ := h
  refine ⟨F, rr, M, _, s0, w, e, h, fun d M1 h1 F1 H1 s2 w1 => ?_⟩
  cases d with
  | true => exact ⟨F1, rr, M1, R, s0.trans s2, w1, e.mono s2, h1, k.mono s2⟩
  | false => exact ⟨F1, rr, M1, R, s0.trans s2, w1, e.mono s2, h1, k.mono s2⟩
/-! a chain a < b < c -/
def zChain (f g : D → D → Mh → QZ → Prop) (a b c : ZE) : ZE := fun r M Q => a r M fun x M1 => b r M1 fun y M2 => f x y M2 fun z M3 => onBl z fun k => bsel k (c r M3 fun u M4 => g y u M4 Q) (Q (.bl false) M3)
theorem upChain {K : PySem.W.Frag} {mg : Str → Option Value} {fc : ZE} {r r' : R2} {f f' : D → D → Mh → QZ → Prop} (s2 : Snd2 K mg r f) (s2' : Snd2 K mg r' f') {s : St} {H : Hp} {Q : VK} (h : upE K mg F0 (zChain f f' fa fb fc) s H Q) :
    tChain r r' (upE K mg F0 fa) (upE K mg F0 fb) (upE K mg F0 fc) s H Q := by
  obtain ⟨F, rr, M, R, s0, w, e, h, k⟩ := h
  refine ⟨F, rr, M, _, s0, w, e, h, fun x M1 h1 F1 H1 v s1 w1 r1 => ⟨F1, rr, M1, _, s0.trans s1, w1, e.mono s1, h1, fun y M2 h2 F2 H2 u s3 w2 r2 => ?_⟩⟩
  refine s2 F2 H2 M2 v u x y _ _ w2 (r1.mono s3) r2 h2 fun z M3 h3 F3 H3 zv s4 w3 r3 => ?_
  cases z with
  | bl b =>
    cases r3
    refine ⟨b, rfl, ?_⟩
    have s5 := (s1.trans s3).trans s4
    cases b with
    | true =>
      exact ⟨F3, rr, M3, _, s0.trans s5, w3, e.mono s5, h3, fun p M4 h4 F4 H4 q s6 w4 r4 => s2' F4 H4 M4 u q y p Q R w4 (r2.mono (s4.trans s6)) r4 h4 (k.mono (s5.trans s6))⟩
    | false => exact k _ M3 h3 F3 H3 _ s5 w3 (.bl false)
  | _ => exact False.elim h3
theorem ze_chain {op op' : CmpOp} {fc : ZE} {r r' : R2} {f f' : D → D → Mh → QZ → Prop} (ho : OpR X (compareOp op) r) (s2 : Snd2 X.K X.mg r f) (ho' : OpR X (compareOp op') r') (s2' : Snd2 X.K X.mg r' f') (ha : PE X a (UE X F0 fa)) (hb : PE X b (UE X F0 fb)) (hc : PE X c (UE X F0 fc))
    (hm : lastMarks [op, op'] [b, c] = false := by with_unfolding_all rfl) :
    PE X (.Compare a [op, op'] [b, c] pos) (UE X F0 (zChain f f' fa fb fc)) := pe_imp (pe_chain ho ho' ha hb hc (hm := hm)) fun _ _ _ h => upChain s2 s2' h
theorem zt_chain {op op' : CmpOp} {fc : ZE} {r r' : R2} {f f' : D → D → Mh → QZ → Prop} (ho : OpR X (compareOp op) r) (s2 : Snd2 X.K X.mg r f) (ho' : OpR X (compareOp op') r') (s2' : Snd2 X.K X.mg r' f') (ha : PE X a (UE X F0 fa)) (hb : PE X b (UE X F0 fb)) (hc : PE X c (UE X F0 fc))
    (hm : lastMarks [op, op'] [b, c] = false := by with_unfolding_all rfl) :
    PT X (.Compare a [op, op'] [b, c] pos) (UT X F0 (zB (zChain f f' fa fb fc))) := pt_imp (pt_chain ho ho' ha hb hc (hm := hm)) fun s H Q h => by
  have q := upB h
  exact upChain s2 s2' q
/-! argument lists, displays -/
def zNil : ZA := fun _ M Q => Q [] M
def zCons (a : ZE) (t : ZA) : ZA := fun r M Q => a r M fun x M1 => t r M1 fun xs M2 => Q (x :: xs) M2
theorem za_nil : PA X [] (UA X F0 zNil) := pa_imp pa_nil fun s H Q h => by
  obtain ⟨F, rr, M, R, s0, w, e, h, k⟩ := h
  exact k [] M h F H [] (Le.refl F) w .nil
theorem za_cons {es : List Expr} {t : ZA} (ha : PE X a (UE X F0 fa)) (ht : PA X es (UA X F0 t)) (hs : starEach (a :: es) X.env = (false, eval a X.env) :: starEach es X.env := by rfl) : PA X (a :: es) (UA X F0 (zCons fa t)) := pa_imp (pa_cons ha ht hs) fun s H Q h => by
  obtain ⟨F, rr, M, R, s0, w, e, h, k⟩ := h
  refine ⟨F, rr, M, _, s0, w, e, h, fun x M1 h1 F1 H1 v s1 w1 r1 => ⟨F1, rr, M1, _, s0.trans s1, w1, e.mono s1, h1, fun xs M2 h2 F2 H2 vs s3 w2 r2 => ?_⟩⟩
  exact k _ M2 h2 F2 H2 _ (s1.trans s3) w2 (.cons (r1.mono s3) r2)
def zTup (t : ZA) : ZE := fun r M Q => t r M fun ds M1 => ds.length ≤ sizeLine ∧ Q (.tup ds) M1
def zLst (b : Bool) (t : ZA) : ZE := fun r M Q => t r M fun ds M1 => ds.length ≤ sizeLine ∧ zNew b ds M1 Q
theorem ze_tup {es : List Expr} {t : ZA} {x1 : Nat} (h : PA X es (UA X F0 t)) : PE X (.Tuple es x1 pos) (UE X F0 (zTup t)) := pe_imp (pe_tup h) fun s H Q h => by
  obtain ⟨F, rr, M, R, s0, w, e, h, k⟩ := h
  refine ⟨F, rr, M, _, s0, w, e, h, fun ds M1 h1 F1 H1 vs s1 w1 r1 => ?_⟩
  have l : vs.length ≤ sizeLine := by rw [r1.length]; exact h1.1
  exact ⟨l, zTup_out w1 l r1 h1.2 (k.mono s1)⟩
theorem ze_lst (b : Bool) {es : List Expr} {t : ZA} (h : PA X es (UA X F0 t)) : PE X (.List es pos) (UE X F0 (zLst b t)) := pe_imp (pe_lst h) fun s H Q h => by
  obtain ⟨F, rr, M, R, s0, w, e, h, k⟩ := h
  refine ⟨F, rr, M, _, s0, w, e, h, fun ds M1 h1 F1 H1 vs s1 w1 r1 => ?_⟩
  have l : vs.length ≤ sizeLine := by rw [r1.length]; exact h1.1
  exact ⟨l, zNew_out w1 l r1 h1.2 (k.mono s1)⟩
end
end Zl

/-! Zl3: operators, subscripts, statements -/
namespace Zl
open PySem L2
section
variable {K : PySem.W.Frag} {mg : Str → Option Value}
theorem strOk_app {s t : Str} (h : PyData.strOk s = true) (h' : PyData.strOk t = true) : PyData.strOk (s ++ t) = true := by
  unfold PyData.strOk at *
  show (s.cps ++ t.cps).all _ = true
  rw [Array.all_append, h, h']; rfl
theorem len_app (s t : Str) : (s ++ t).length = s.length + t.length := by
  show (s.cps ++ t.cps).size = _
  rw [Array.size_append]; rfl
/-! ### soundness of operators -/
def rAddZ : R2 := fun x y H Q => rI0 (fun i j => .int (i + j)) x y H Q ∨ ((∃ i j, x = .str i ∧ y = .str j ∧ i.length + j.length ≤ sizeLine ∧ Q (.str (i ++ j)) H) ∨ rCat x y H Q)
theorem snd_add (b : Bool) : Snd2 K mg rAddZ (dAdd b) := by
  intro F H M x y p q Q R w rx ry h k
  cases p with
  | int i =>
    cases q with
    | int j => cases rx; cases ry; exact .inl ⟨i, j, rfl, rfl, k _ _ h _ _ _ (Le.refl F) w (.int _)⟩
    | _ => exact False.elim h
  | str i =>
    cases q with
    | str j =>
      cases rx with
      | str a1 a2 =>
        cases ry with
        | str b1 b2 =>
          obtain ⟨h1, h2⟩ := h
          exact .inr (.inl ⟨i, j, rfl, rfl, h1, k _ _ h2 _ _ _ (Le.refl F) w (.str (strOk_app a1 b1) (by rw [len_app]; exact h1))⟩)
    | _ => exact False.elim h
  | lst xs =>
    have h' : zL M q fun ys => xs.length + ys.length ≤ sizeLine ∧ zNew b (xs ++ ys) M R := h
    obtain ⟨a, vs, ds, rfl, e, l, rl, e2⟩ := zL_out (d := .lst xs) (k := fun ds => ds = xs) w rx rfl
    subst e2
    obtain ⟨a', vs', ds', rfl, e', l', rl', h1, h2⟩ := zL_out w ry h'
    refine .inr (.inr ⟨a, a', vs, vs', rfl, rfl, e, e', by rw [rl.length, rl'.length]; exact h1, zNew_out w (by rw [List.length_append, rl.length, rl'.length]; exact h1) (rl.append rl') h2 k⟩)
  | ref pa =>
    have h' : zL M (.ref pa) fun xs => zL M q fun ys => xs.length + ys.length ≤ sizeLine ∧ zNew b (xs ++ ys) M R := h
    obtain ⟨a, vs, ds, rfl, e, l, rl, h'⟩ := zL_out w rx h'
    obtain ⟨a', vs', ds', rfl, e', l', rl', h1, h2⟩ := zL_out w ry h'
    refine .inr (.inr ⟨a, a', vs, vs', rfl, rfl, e, e', by rw [rl.length, rl'.length]; exact h1, zNew_out w (by rw [List.length_append, rl.length, rl'.length]; exact h1) (rl.append rl') h2 k⟩)
  | _ => exact False.elim h
theorem sndI {C : Int → Int → Prop} {g : Int → Int → Int} {f : D → D → Mh → QZ → Prop} (hf : ∀ x y M Q, f x y M Q → ∃ i j, x = .int i ∧ y = .int j ∧ C i j ∧ Q (.int (g i j)) M) : Snd2 K mg (rI C fun i j => .int (g i j)) f := by
  intro F H M x y p q Q R w rx ry h k
  obtain ⟨i, j, rfl, rfl, c, h2⟩ := hf _ _ _ _ h
  cases rx; cases ry
  exact ⟨i, j, rfl, rfl, c, k _ _ h2 _ _ _ (Le.refl F) w (.int _)⟩
theorem sndI0 {g : Int → Int → Int} {f : D → D → Mh → QZ → Prop} (hf : ∀ x y M Q, f x y M Q → ∃ i j, x = .int i ∧ y = .int j ∧ Q (.int (g i j)) M) : Snd2 K mg (rI0 fun i j => .int (g i j)) f := by
  intro F H M x y p q Q R w rx ry h k
  obtain ⟨i, j, rfl, rfl, h2⟩ := hf _ _ _ _ h
  cases rx; cases ry
  exact ⟨i, j, rfl, rfl, k _ _ h2 _ _ _ (Le.refl F) w (.int _)⟩
theorem sndB0 {g : Int → Int → Bool} : Snd2 K mg (rI0 fun i j => .bl (g i j)) (dCmp g) := by
  intro F H M x y p q Q R w rx ry h k
  cases p with
  | int i =>
    cases q with
    | int j => cases rx; cases ry; exact ⟨i, j, rfl, rfl, k _ _ h _ _ _ (Le.refl F) w (.bl _)⟩
    | _ => exact False.elim h
  | _ => exact False.elim h
theorem snd_sub : Snd2 K mg (rI0 fun i j => .int (i - j)) dSub := sndI0 fun x y M Q h => by
  unfold dSub at h; split at h
  · exact ⟨_, _, rfl, rfl, h⟩
  · exact h.elim
theorem snd_div : Snd2 K mg (rI CDiv fun i j => .int (i / j)) dDiv := sndI fun x y M Q h => by
  unfold dDiv at h; split at h
  · exact ⟨_, _, rfl, rfl, h.1, h.2⟩
  · exact h.elim
theorem snd_mod : Snd2 K mg (rI (fun _ j => 0 < j) fun i j => .int (i % j)) dMod := sndI fun x y M Q h => by
  unfold dMod at h; split at h
  · exact ⟨_, _, rfl, rfl, h.1, h.2⟩
  · exact h.elim
theorem snd_pow : Snd2 K mg (rI CPow fun i j => .int (i ^ j.toNat)) dPow := sndI fun x y M Q h => by
  unfold dPow at h; split at h
  · exact ⟨_, _, rfl, rfl, h.1, h.2⟩
  · exact h.elim
theorem snd_shr : Snd2 K mg (rI (fun _ j => 0 ≤ j) fun i j => .int (i / 2 ^ j.toNat)) dShr := sndI fun x y M Q h => by
  unfold dShr at h; split at h
  · exact ⟨_, _, rfl, rfl, h.1, h.2⟩
  · exact h.elim
theorem snd_and : Snd2 K mg (rI0 fun i j => .int (Builtin.bitAnd i j)) dAnd := sndI0 fun x y M Q h => by
  unfold dAnd at h; split at h
  · exact ⟨_, _, rfl, rfl, h⟩
  · exact h.elim
theorem snd_xor : Snd2 K mg (rI0 fun i j => .int (Builtin.bitXor i j)) dXor := sndI0 fun x y M Q h => by
  unfold dXor at h; split at h
  · exact ⟨_, _, rfl, rfl, h⟩
  · exact h.elim
theorem snd_neg : Snd1 K mg (rU fun i => .int (-i)) dNeg := by
  intro F H M x p Q R w rx h k
  cases p with
  | int i => cases rx; exact ⟨i, rfl, k _ _ h _ _ _ (Le.refl F) w (.int _)⟩
  | _ => exact False.elim h
def rMulZ : R2 := fun x y H Q => rI CMul (fun i j => .int (i * j)) x y H Q ∨ rRep x y H Q
theorem snd_mul (b : Bool) : Snd2 K mg rMulZ (dMul b) := by
  intro F H M x y p q Q R w rx ry h k
  cases p with
  | int i =>
    cases q with
    | int j => cases rx; cases ry; exact .inl ⟨i, j, rfl, rfl, h.1, k _ _ h.2 _ _ _ (Le.refl F) w (.int _)⟩
    | _ => exact False.elim h
  | lst xs =>
    cases q with
    | int j =>
      cases ry
      obtain ⟨a, vs, ds, rfl, e, l, rl, e2⟩ := zL_out (d := .lst xs) (k := fun ds => ds = xs) w rx rfl
      subst e2
      obtain ⟨h1, h2, h3, h4⟩ := (show -(2 ^ 63) ≤ j ∧ j < 2 ^ 63 ∧ ds.length * j.toNat ≤ sizeLine ∧ zNew b (List.replicate j.toNat ds).flatten M R from h)
      have h3' : vs.length * j.toNat ≤ sizeLine := by rw [rl.length]; exact h3
      refine .inr ⟨a, j, vs, rfl, rfl, e, h1, h2, h3', zNew_out w ?_ (rl.flat _) h4 k⟩
      rw [List.length_flatten, List.map_replicate, List.sum_replicate_nat, Nat.mul_comm]; exact h3'
    | _ => exact False.elim h
  | ref pa =>
    cases q with
    | int j =>
      cases ry
      have h' : zL M (.ref pa) fun xs => -(2 ^ 63) ≤ j ∧ j < 2 ^ 63 ∧ xs.length * j.toNat ≤ sizeLine ∧ zNew b (List.replicate j.toNat xs).flatten M R := h
      obtain ⟨a, vs, ds, rfl, e, l, rl, h1, h2, h3, h4⟩ := zL_out w rx h'
      have h3' : vs.length * j.toNat ≤ sizeLine := by rw [rl.length]; exact h3
      refine .inr ⟨a, j, vs, rfl, rfl, e, h1, h2, h3', zNew_out w ?_ (rl.flat _) h4 k⟩
      rw [List.length_flatten, List.map_replicate, List.sum_replicate_nat, Nat.mul_comm]; exact h3'
    | _ => exact False.elim h
  | _ => exact False.elim h
/-! equality -/
def rEqZ (K : PySem.W.Frag) : R2 := fun x y H Q => ∃ d e, Dp K H x d ∧ Dp K H y e ∧ d.canLay0 = true ∧ e.canLay0 = true ∧ (d.depth ≤ 64 ∨ e.depth ≤ 64) ∧ Q (.bl (PyData.eqv d e)) H
def rNeZ (K : PySem.W.Frag) : R2 := fun x y H Q => ∃ d e, Dp K H x d ∧ Dp K H y e ∧ d.canLay0 = true ∧ e.canLay0 = true ∧ (d.depth ≤ 64 ∨ e.depth ≤ 64) ∧ Q (.bl (!PyData.eqv d e)) H
theorem op_eqZ {X : Cx} (hu : X.A.units + 64 < cLine) : OpR X (compareOp .Eq) (rEqZ X.K) := by
  intro pins s r H x y v u Q I rx ry h
  obtain ⟨d, e, hd, he, sd, se, dp, q⟩ := h
  obtain ⟨_, r1⟩ := Dp.reads I d x v hd rx
  obtain ⟨_, r2⟩ := Dp.reads I e y u he ry
  exact SeqAt.compareEq_reads r1 r2 sd se (by omega) ⟨.bl _, H, I, rfl, q⟩
theorem op_neZ {X : Cx} (hu : X.A.units + 64 < cLine) : OpR X (compareOp .NotEq) (rNeZ X.K) := by
  intro pins s r H x y v u Q I rx ry h
  obtain ⟨d, e, hd, he, sd, se, dp, q⟩ := h
  obtain ⟨_, r1⟩ := Dp.reads I d x v hd rx
  obtain ⟨_, r2⟩ := Dp.reads I e y u he ry
  exact SeqAt.compareNe_reads r1 r2 sd se (by omega) ⟨.bl _, H, I, rfl, q⟩
theorem snd_eq : Snd2 K mg (rEqZ K) dEq := by
  intro F H M x y p q Q R w rx ry h k
  obtain ⟨d, h, hd, ld⟩ := zP_out w rx h
  obtain ⟨e, h, he, le⟩ := zP_out w ry h
  obtain ⟨h1, h2, h3, h4⟩ := h
  exact ⟨toP d, toP e, hd h1, he h2, ld, le, h3, k _ _ h4 _ _ _ (Le.refl F) w (.bl _)⟩
theorem snd_ne : Snd2 K mg (rNeZ K) dNe := by
  intro F H M x y p q Q R w rx ry h k
  obtain ⟨d, h, hd, ld⟩ := zP_out w rx h
  obtain ⟨e, h, he, le⟩ := zP_out w ry h
  obtain ⟨h1, h2, h3, h4⟩ := h
  exact ⟨toP d, toP e, hd h1, he h2, ld, le, h3, k _ _ h4 _ _ _ (Le.refl F) w (.bl _)⟩
/-! in -/
def flatD : D → Bool
  | .non | .bl _ | .int _ | .str _ => true
  | _ => false
theorem flat_of {F : Fz} {v : V} {d : D} (r : Rep K mg F v d) (h : flatD d = true) : flatV v = true := by
  cases r <;> first | rfl | exact absurd h Bool.false_ne_true
theorem eqV_of {F : Fz} {v u : V} {d e : D} (r : Rep K mg F v d) (r' : Rep K mg F u e) (h : flatD d = true) (h' : flatD e = true) : eqV v u = eqD d e := by
  unfold eqD
  cases r <;> first | exact absurd h Bool.false_ne_true | (cases r' <;> first | exact absurd h' Bool.false_ne_true | (simp [eqV, toP, PyData.eqv]))
theorem flats_of {F : Fz} : ∀ {vs : List V} {ds : List D}, RepL K mg F vs ds → ds.all flatD = true → vs.all flatV = true
  | _, _, .nil, _ => rfl
  | _, _, .cons h t, q => by
    rw [List.all_cons, Bool.and_eq_true] at q
    rw [List.all_cons, flat_of h q.1, flats_of t q.2]; rfl
def inD (x : D) (ds : List D) : Bool := ds.any fun y => eqD y x
theorem inV_of {F : Fz} {v : V} {d : D} (r : Rep K mg F v d) (f : flatD d = true) : ∀ {vs : List V} {ds : List D}, RepL K mg F vs ds → ds.all flatD = true → inV v vs = inD d ds
  | _, _, .nil, _ => rfl
  | _, _, .cons h t, q => by
    rw [List.all_cons, Bool.and_eq_true] at q
    have ih := inV_of r f t q.2
    unfold inV inD at *
    rw [List.any_cons, List.any_cons, eqV_of h r q.1 f, ih]
def dIn (neg : Bool) (x y : D) (M : Mh) (Q : QZ) : Prop := match y with
  | .str z => (match x with | .str s => (match s.cps.toList with | [c] => Q (.bl (if neg then !decide (c ∈ z.cps.toList) else decide (c ∈ z.cps.toList))) M | _ => False) | _ => False)
  | y => zLT M y fun ys => flatD x = true ∧ ys.all flatD = true ∧ Q (.bl (if neg then !inD x ys else inD x ys)) M
def rInZ (K : PySem.W.Frag) (neg : Bool) : R2 := fun x y H Q => rIn K neg x y H Q ∨ ∃ (c : Nat) (z : Str), x = .str ⟨#[c]⟩ ∧ y = .str z ∧ Q (.bl (if neg then !decide (c ∈ z.cps.toList) else decide (c ∈ z.cps.toList))) H
theorem snd_in (neg : Bool) : Snd2 K mg (rInZ K neg) (dIn neg) := by
  intro F H M x y p q Q R w rx ry h k
  have gen : (zLT M q fun ys => flatD p = true ∧ ys.all flatD = true ∧ R (.bl (if neg then !inD p ys else inD p ys)) M) → rInZ K neg x y H Q := fun h => by
    obtain ⟨a, vs, ds, rfl, e, l, rl, h1, h2, h3⟩ := zLT_out w ry h
    refine .inl ⟨a, vs, rfl, e, flat_of rx h1, flats_of rl h2, ?_⟩
    rw [inV_of rx h1 rl h2]
    exact k _ _ h3 _ _ _ (Le.refl F) w (.bl _)
  cases q with
  | str z =>
    cases ry
    cases p with
    | str s =>
      cases rx
      unfold dIn at h
      dsimp only at h
      split at h
      · rename_i c e
        refine .inr ⟨c, z, ?_, rfl, k _ _ h _ _ _ (Le.refl F) w (.bl _)⟩
        obtain ⟨cs⟩ := s
        have e2 : cs = #[c] := by
          apply Array.ext'
          simpa using e
        rw [e2]
      · exact h.elim
    | _ => exact False.elim h
  | _ => exact gen h
theorem op_inZ {X : Cx} : OpR X (compareOp .In) (rInZ X.K false) := OpR.or op_in_seq op_in_sign
theorem op_notInZ {X : Cx} : OpR X (compareOp .NotIn) (rInZ X.K true) := OpR.or op_notIn_seq op_notIn_sign
/-! is -/
def isN : D → Bool
  | .non => true
  | _ => false
theorem isN_of {F : Fz} {v : V} {d : D} (r : Rep K mg F v d) : decide (v = .non) = isN d := by
  cases r <;> first | rfl | (simp [isN])
def dIs (x y : D) (M : Mh) (Q : QZ) : Prop := match y with
  | .non => Q (.bl (isN x)) M
  | .bl b => (match x with | .bl a => Q (.bl (decide (a = b))) M | _ => False)
  | _ => False
def dIsNot (x y : D) (M : Mh) (Q : QZ) : Prop := match y with
  | .non => Q (.bl (!isN x)) M
  | .bl b => (match x with | .bl a => Q (.bl (!decide (a = b))) M | _ => False)
  | _ => False
def rIsZ : R2 := fun x y H Q => (y = .non ∧ Q (.bl (decide (x = .non))) H) ∨ rIsB x y H Q
def rIsNotZ : R2 := fun x y H Q => (y = .non ∧ Q (.bl (!decide (x = .non))) H) ∨ rNotB x y H Q
theorem snd_is : Snd2 K mg rIsZ dIs := by
  intro F H M x y p q Q R w rx ry h k
  cases q with
  | non => cases ry; refine .inl ⟨rfl, ?_⟩; rw [isN_of rx]; exact k _ _ h _ _ _ (Le.refl F) w (.bl _)
  | bl b =>
    cases ry
    cases p with
    | bl a => cases rx; exact .inr ⟨a, b, rfl, rfl, k _ _ h _ _ _ (Le.refl F) w (.bl _)⟩
    | _ => exact False.elim h
  | _ => exact False.elim h
theorem snd_isNot : Snd2 K mg rIsNotZ dIsNot := by
  intro F H M x y p q Q R w rx ry h k
  cases q with
  | non => cases ry; refine .inl ⟨rfl, ?_⟩; rw [isN_of rx]; exact k _ _ h _ _ _ (Le.refl F) w (.bl _)
  | bl b =>
    cases ry
    cases p with
    | bl a => cases rx; exact .inr ⟨a, b, rfl, rfl, k _ _ h _ _ _ (Le.refl F) w (.bl _)⟩
    | _ => exact False.elim h
  | _ => exact False.elim h
/-! subscripts -/
def dIx (x i : D) (M : Mh) (Q : QZ) : Prop := match i with
  | .int i => (match x with
    | .str s => (match atI s.cps.toList i with | some c => Q (.str ⟨#[c]⟩) M | none => False)
    | x => zLT M x fun ds => match atI ds i with | some d => Q d M | none => False)
  | _ => False
theorem atI_rep {F : Fz} {vs : List V} {ds : List D} {i : Int} {d : D} (r : RepL K mg F vs ds) (h : atI ds i = some d) : ∃ v, atI vs i = some v ∧ Rep K mg F v d := by
  unfold atI at *
  rw [r.length]
  cases e : ixN ds.length i with
  | none => rw [e] at h; cases h
  | some j =>
    rw [e] at h
    exact r.get h
theorem atI_ok {s : Str} {i : Int} {c : Nat} (h : PyData.strOk s = true) (e : atI s.cps.toList i = some c) : PyData.strOk ⟨#[c]⟩ = true := by
  obtain ⟨j, _, e2, _⟩ := atI_get e
  have hm : c ∈ s.cps.toList := List.mem_of_getElem? e2
  unfold PyData.strOk at *
  rw [← Array.all_toList] at h ⊢
  have := List.all_eq_true.mp h c hm
  simpa using this
theorem snd_ix : Snd2 K mg (rIx K) dIx := by
  intro F H M x y p q Q R w rx ry h k
  cases q with
  | int i =>
    cases ry
    have gen : (zLT M p fun ds => match atI ds i with | some d => R d M | none => False) → rIx K x (.int i) H Q := fun h => by
      obtain ⟨a, vs, ds, rfl, e, l, rl, h⟩ := zLT_out w rx h
      cases q : atI ds i with
      | none => rw [q] at h; exact h.elim
      | some d =>
        rw [q] at h
        obtain ⟨v, e2, rv⟩ := atI_rep rl q
        have z := k _ _ h _ _ _ (Le.refl F) w rv
        rcases e with e | e
        · exact .inl ⟨a, vs, i, v, rfl, rfl, e, e2, z⟩
        · exact .inr (.inl ⟨a, vs, i, v, rfl, rfl, e, e2, z⟩)
    cases p with
    | str s =>
      cases rx with
      | str o1 o2 =>
        have h' : (match atI s.cps.toList i with | some c => R (.str ⟨#[c]⟩) M | none => False) := h
        cases e : atI s.cps.toList i with
        | none => rw [e] at h'; exact h'.elim
        | some c =>
          rw [e] at h'
          exact .inr (.inr ⟨s, i, c, rfl, rfl, o2, e, k _ _ h' _ _ _ (Le.refl F) w (.str (atI_ok o1 e) (by show 1 ≤ sizeLine; decide))⟩)
    | _ => exact gen h
  | _ => exact False.elim h
/-! slices -/
def cutD (ds : List D) (lo hi : Option Int) : List D := (ds.drop (HT.sIx ds.length 0 lo)).take (HT.sIx ds.length ds.length hi - HT.sIx ds.length 0 lo)
theorem RepL.cut {F : Fz} {vs : List V} {ds : List D} (lo hi : Option Int) (r : RepL K mg F vs ds) : RepL K mg F (cutV vs lo hi) (cutD ds lo hi) := by
  unfold cutV cutD
  rw [r.length]
  exact (r.drop _).take _
def ZO := Env → Mh → (Option Int → Mh → Prop) → Prop
def zNoPart : ZO := fun _ M Q => Q none M
def zPart (a : ZE) : ZO := fun r M Q => a r M fun d M1 => onInt d fun i => Q (some i) M1
def upO (K : PySem.W.Frag) (mg : Str → Option Value) (F0 : Fz) (f : ZO) : TO := fun s H Q => ∃ (F : Fz) (r : Env) (M : Mh) (R : Option Int → Mh → Prop), Ge F0 F ∧ Wd K mg F H M ∧ RepE K mg F s r ∧ f r M R ∧
  ∀ o M', R o M' → ∀ F' H', Le F F' → Wd K mg F' H' M' → Q o H'
def zSl (b : Bool) (a : ZE) (lo hi : ZO) : ZE := fun r M Q => a r M fun x M1 => lo r M1 fun l M2 => hi r M2 fun h M3 => match x with
  | .str s => Q (.str (cutS s l h)) M3
  | x => zL M3 x fun ds => zNew b (cutD ds l h) M3 Q
end
section
variable {X : Cx} {F0 : Fz} {a b c : Expr} {pos : Pos} {fa fb : ZE}
theorem zo_none : PO X none (upO X.K X.mg F0 zNoPart) := ⟨fun pins s r H Q I h => by
  obtain ⟨F, rr, M, R, s0, w, e, h, k⟩ := h
  exact po_none.run pins s r H Q I (k none M h F H (Le.refl F) w)⟩
theorem zo_some (ha : PE X a (UE X F0 fa)) : PO X (some a) (upO X.K X.mg F0 (zPart fa)) := ⟨fun pins s r H Q I h => by
  obtain ⟨F, rr, M, R, s0, w, e, h, k⟩ := h
  refine (po_some ha).run pins s r H Q I ⟨F, rr, M, _, s0, w, e, h, fun d M1 h1 F1 H1 v s1 w1 r1 => ?_⟩
  cases d with
  | int i => cases r1; exact ⟨i, rfl, k _ M1 h1 F1 H1 s1 w1⟩
  | _ => exact False.elim h1⟩
theorem strOk_cut {s : Str} (lo hi : Option Int) (h : PyData.strOk s = true) : PyData.strOk (cutS s lo hi) = true := by
  unfold PyData.strOk at *
  rw [← Array.all_toList] at h ⊢
  refine List.all_eq_true.mpr fun c hc => List.all_eq_true.mp h c ?_
  have hc' : c ∈ (s.cps.toList.drop (HT.sIx s.length 0 lo)).take (HT.sIx s.length s.length hi - HT.sIx s.length 0 lo) := by simpa [cutS] using hc
  exact List.mem_of_mem_drop (List.mem_of_mem_take hc')
theorem len_cut (s : Str) (lo hi : Option Int) : (cutS s lo hi).length ≤ s.length := by
  show (((s.cps.toList.drop _).take _).toArray).size ≤ s.cps.size
  rw [List.size_toArray, List.length_take, List.length_drop, Array.length_toList]
  omega
theorem ze_sl (b : Bool) {lo hi : Option Expr} {fl fh : ZO} {p2 : Pos} (ha : PE X a (UE X F0 fa)) (hl : PO X lo (upO X.K X.mg F0 fl)) (hh : PO X hi (upO X.K X.mg F0 fh)) : PE X (.Subscript a (.Slice lo hi none p2) pos) (UE X F0 (zSl b fa fl fh)) := by
  refine pe_imp (pe_slice (SlR.or sl_list sl_str) ha hl hh) fun s H Q h => ?_
  obtain ⟨F, rr, M, R, s0, w, e, h, k⟩ := h
  refine ⟨F, rr, M, _, s0, w, e, h, fun x M1 h1 F1 H1 v s1 w1 r1 => ⟨F1, rr, M1, _, s0.trans s1, w1, e.mono s1, h1, fun l M2 h2 F2 H2 s2 w2 => ⟨F2, rr, M2, _, (s0.trans s1).trans s2, w2, (e.mono s1).mono s2, h2, fun u M3 h3 F3 H3 s3 w3 => ?_⟩⟩⟩
  have r3 := (r1.mono s2).mono s3
  have k3 := k.mono ((s1.trans s2).trans s3)
  have gen : (zL M3 x fun ds => zNew b (cutD ds l u) M3 R) → rSlL X.K v l u H3 Q := fun h => by
    obtain ⟨p, vs, ds, rfl, e, ll, rl, h⟩ := zL_out w3 r3 h
    exact ⟨p, vs, rfl, SqL.of e, zNew_out w3 (Nat.le_trans (cutV_length _ _ _) ll) (rl.cut l u) h k3⟩
  cases x with
  | str z =>
    cases r3 with
    | str o1 o2 => exact .inr ⟨z, rfl, o2, k3 _ _ h3 _ _ _ (Le.refl F3) w3 (.str (strOk_cut _ _ o1) (Nat.le_trans (len_cut _ _ _) o2))⟩
  | _ => exact .inl (gen h3)
/-! operators as rules -/
theorem ze_add (n : Bool) (ha : PE X a (UE X F0 fa)) (hb : PE X b (UE X F0 fb)) : PE X (.BinOp a .Add b pos) (UE X F0 (z2 (dAdd n) fa fb)) := ze_op (OpR.or op_add (OpR.or op_add_str op_cat)) (snd_add n) ha hb
theorem ze_sub (ha : PE X a (UE X F0 fa)) (hb : PE X b (UE X F0 fb)) : PE X (.BinOp a .Sub b pos) (UE X F0 (z2 dSub fa fb)) := ze_op op_sub snd_sub ha hb
theorem ze_mul (n : Bool) (ha : PE X a (UE X F0 fa)) (hb : PE X b (UE X F0 fb)) : PE X (.BinOp a .Mult b pos) (UE X F0 (z2 (dMul n) fa fb)) := ze_op (OpR.or op_mul op_rep) (snd_mul n) ha hb
theorem ze_div (ha : PE X a (UE X F0 fa)) (hb : PE X b (UE X F0 fb)) : PE X (.BinOp a .FloorDiv b pos) (UE X F0 (z2 dDiv fa fb)) := ze_op op_fdiv snd_div ha hb
theorem ze_mod (ha : PE X a (UE X F0 fa)) (hb : PE X b (UE X F0 fb)) : PE X (.BinOp a .Mod b pos) (UE X F0 (z2 dMod fa fb)) := ze_op op_mod snd_mod ha hb
theorem ze_pow (ha : PE X a (UE X F0 fa)) (hb : PE X b (UE X F0 fb)) : PE X (.BinOp a .Pow b pos) (UE X F0 (z2 dPow fa fb)) := ze_op op_pow snd_pow ha hb
theorem ze_shr (ha : PE X a (UE X F0 fa)) (hb : PE X b (UE X F0 fb)) : PE X (.BinOp a .RShift b pos) (UE X F0 (z2 dShr fa fb)) := ze_op op_shr snd_shr ha hb
theorem ze_band (ha : PE X a (UE X F0 fa)) (hb : PE X b (UE X F0 fb)) : PE X (.BinOp a .BitAnd b pos) (UE X F0 (z2 dAnd fa fb)) := ze_op op_and snd_and ha hb
theorem ze_bxor (ha : PE X a (UE X F0 fa)) (hb : PE X b (UE X F0 fb)) : PE X (.BinOp a .BitXor b pos) (UE X F0 (z2 dXor fa fb)) := ze_op op_xor snd_xor ha hb
theorem ze_neg (ha : PE X a (UE X F0 fa)) : PE X (.UnaryOp .USub a pos) (UE X F0 (z1 dNeg fa)) := ze_un un_neg snd_neg ha
theorem ze_ix (ha : PE X a (UE X F0 fa)) (hb : PE X b (UE X F0 fb)) (hs : PlainIx b) : PE X (.Subscript a b pos) (UE X F0 (z2 dIx fa fb)) := pe_imp (pe_ix ix_seq ha hb hs) fun _ _ _ h => up2 snd_ix h
/-! ### statements -/
def zNext : ZS := fun E r M => E.nx r M
def zSeq (t u : ZS) : ZS := fun E r M => t { E with nx := u E } r M
def zBreak : ZS := fun E r M => E.bk r M
def zCont : ZS := fun E r M => E.ct r M
def zDrop (a : ZE) : ZS := fun E r M => a r M fun _ M1 => E.nx r M1
def zRet (a : ZE) : ZS := fun E r M => a r M E.rt
def zRetN : ZS := fun E _ M => E.rt .non M
def zIf (c : ZT) (t u : ZS) : ZS := fun E r M => c r M fun b M1 => bsel b (t E r M1) (u E r M1)
def zAsg (a : ZE) (g : ZG) : ZS := fun E r M => a r M fun d M1 => g d r M1 E.nx
def zgName (i : Nat) : ZG := fun d r M Q => Q (st r i (some d)) M
variable {st1 : Stmt} {rest : List Stmt} {t u : ZS}
theorem zss_nil : PSs X [] (US X F0 zNext) := pss_imp pss_nil fun E s H h => by
  obtain ⟨F, rr, M, Z, s0, w, e, h, k⟩ := h
  exact k.nx rr M h F s H (Le.refl F) w e
theorem zss_cons (h1 : PS X st1 (US X F0 t)) (h2 : PSs X rest (US X F0 u)) : PSs X (st1 :: rest) (US X F0 (zSeq t u)) := pss_imp (pss_cons h1 h2) fun E s H h => by
  obtain ⟨F, rr, M, Z, s0, w, e, h, k⟩ := h
  refine ⟨F, rr, M, { Z with nx := u Z }, s0, w, e, h, ⟨fun r' M' h' F' s' H' s1 w1 e1 => ?_, k.rt, k.bk, k.ct⟩⟩
  exact ⟨F', r', M', Z, s0.trans s1, w1, e1, h', k.mono s1⟩
theorem zss_one (h1 : PS X st1 (US X F0 t)) : PSs X [st1] (US X F0 t) := pss_one h1
theorem zs_pass : PS X (.Pass pos) (US X F0 zNext) := ps_imp ps_pass fun E s H h => by
  obtain ⟨F, rr, M, Z, s0, w, e, h, k⟩ := h
  exact k.nx rr M h F s H (Le.refl F) w e
theorem zs_break : PS X (.Break pos) (US X F0 zBreak) := ps_imp ps_break fun E s H h => by
  obtain ⟨F, rr, M, Z, s0, w, e, h, k⟩ := h
  exact k.bk rr M h F s H (Le.refl F) w e
theorem zs_continue : PS X (.Continue pos) (US X F0 zCont) := ps_imp ps_continue fun E s H h => by
  obtain ⟨F, rr, M, Z, s0, w, e, h, k⟩ := h
  exact k.ct rr M h F s H (Le.refl F) w e
theorem zs_expr (ha : PE X a (UE X F0 fa)) (hs : swapsWith a none pos.line X.env = pure false := by rfl) : PS X (.Expr a pos) (US X F0 (zDrop fa)) := ps_imp (ps_expr ha hs) fun E s H h => by
  obtain ⟨F, rr, M, Z, s0, w, e, h, k⟩ := h
  exact ⟨F, rr, M, _, s0, w, e, h, fun d M1 h1 F1 H1 v s1 w1 r1 => k.nx rr M1 h1 F1 s H1 s1 w1 (e.mono s1)⟩
theorem zs_ret (ha : PE X a (UE X F0 fa)) : PS X (.Return (some a) pos) (US X F0 (zRet fa)) := ps_imp (ps_ret ha) fun E s H h => by
  obtain ⟨F, rr, M, Z, s0, w, e, h, k⟩ := h
  exact ⟨F, rr, M, _, s0, w, e, h, k.rt⟩
theorem zs_retN : PS X (.Return none pos) (US X F0 zRetN) := ps_imp ps_retN fun E s H h => by
  obtain ⟨F, rr, M, Z, s0, w, e, h, k⟩ := h
  exact k.rt _ M h F H _ (Le.refl F) w .non
theorem zs_if {tc : ZT} {sa sb : List Stmt} (hc : PT X c (UT X F0 tc)) (ha : PSs X sa (US X F0 t)) (hb : PSs X sb (US X F0 u)) : PS X (.If c sa sb pos) (US X F0 (zIf tc t u)) := ps_imp (ps_if hc ha hb) fun E s H h => by
  obtain ⟨F, rr, M, Z, s0, w, e, h, k⟩ := h
  refine ⟨F, rr, M, _, s0, w, e, h, fun b M1 h1 F1 H1 s1 w1 => ?_⟩
  cases b with
  | true => exact ⟨F1, rr, M1, Z, s0.trans s1, w1, e.mono s1, h1, k.mono s1⟩
  | false => exact ⟨F1, rr, M1, Z, s0.trans s1, w1, e.mono s1, h1, k.mono s1⟩
theorem zs_set {i : Nat} {x : Str} {pos' : Pos} (hN : X.N.Nodup) (ha : PE X a (UE X F0 fa)) (hi : X.N[i]? = some x := by rfl) (hx : Loc X.env.scope x := by first | exact Or.inl rfl | exact Or.inr rfl)
    (hs : swapsWith a (some (.Name x pos')) pos.line X.env = pure false := by rfl) (hf : X.fn x = true ∨ X.env.scope.names.lookup x = some .local := by first | exact .inl rfl | exact .inr rfl | assumption) :
    PS X (.Assign [.Name x pos'] a pos) (US X F0 (zAsg fa (zgName i))) := ps_imp (ps_set (i := i) hN hi hx ha hs hf) fun E s H h => by
  obtain ⟨F, rr, M, Z, s0, w, e, h, k⟩ := h
  exact ⟨F, rr, M, _, s0, w, e, h, fun d M1 h1 F1 H1 v s1 w1 r1 => k.nx _ M1 h1 F1 _ H1 s1 w1 ((e.mono s1).set i r1)⟩
/-! targets -/
abbrev ZGs := List D → Env → Mh → (Env → Mh → Prop) → Prop
def upGs (K : PySem.W.Frag) (mg : Str → Option Value) (F0 : Fz) (g : ZGs) : TGs := fun vs s H Q => ∃ (F : Fz) (r : Env) (M : Mh) (ds : List D) (R : Env → Mh → Prop), Ge F0 F ∧ Wd K mg F H M ∧ RepE K mg F s r ∧ RepL K mg F vs ds ∧ g ds r M R ∧ Kn K mg F R Q
def zgNil : ZGs := fun ds r M Q => match ds with | [] => Q r M | _ => False
def zgCons (g : ZG) (gs : ZGs) : ZGs := fun ds r M Q => match ds with | d :: l => g d r M fun r' M' => gs l r' M' Q | [] => False
def zgTup (n : Nat) (gs : ZGs) : ZG := fun d r M Q => match d with | .tup ds => ds.length = n ∧ gs ds r M Q | _ => False
/-- x[y] = d -/
def dSet (x y d : D) (M : Mh) (k : Mh → Prop) : Prop := match x, y with
  | .ref p, .int n => (match M p with | some (.lst ds) => (match ixN ds.length n with | some j => k (mup M p (.lst (ds.set j d))) | none => False) | _ => False)
  | _, _ => False
def zgSub (o i : ZE) : ZG := fun d r M Q => o r M fun x M1 => i r M1 fun y M2 => dSet x y d M2 fun M3 => Q r M3
theorem zg_name {i : Nat} {x : Str} (hN : X.N.Nodup) (hi : X.N[i]? = some x := by rfl) (hx : Loc X.env.scope x := by first | exact Or.inl rfl | exact Or.inr rfl)
    (hf : X.fn x = true ∨ X.env.scope.names.lookup x = some .local := by first | exact .inl rfl | exact .inr rfl | assumption) : PG X (.Name x pos) (UG X F0 (zgName i)) := pg_imp (pg_name (i := i) hN hi hx hf) fun v s H Q h => by
  obtain ⟨F, rr, M, d, R, s0, w, e, rv, h, k⟩ := h
  exact k _ M h F _ H (Le.refl F) w (e.set i rv)
theorem zgs_nil : PGs X [] (upGs X.K X.mg F0 zgNil) := ⟨fun pins s r H vs us Q I rv h => by
  obtain ⟨F, rr, M, ds, R, s0, w, e, rl, h, k⟩ := h
  refine pgs_nil.run pins s r H vs us Q I rv ?_
  cases ds with
  | nil => cases rl; exact ⟨rfl, k _ M h F _ H (Le.refl F) w e⟩
  | cons _ _ => exact False.elim h⟩
theorem zgs_cons {es : List Expr} {g : ZG} {gs : ZGs} (h1 : PG X a (UG X F0 g)) (h2 : PGs X es (upGs X.K X.mg F0 gs)) (hs : (assignEach (a :: es) X.env).map (·.2) = assign a X.env :: (assignEach es X.env).map (·.2) := by rfl) : PGs X (a :: es) (upGs X.K X.mg F0 (zgCons g gs)) := ⟨fun pins s r H vs us Q I rv h => by
  obtain ⟨F, rr, M, ds, R, s0, w, e, rl, h, k⟩ := h
  refine (pgs_cons h1 h2 hs).run pins s r H vs us Q I rv ?_
  cases rl with
  | nil => exact False.elim h
  | cons q rl =>
    refine ⟨_, _, rfl, F, rr, M, _, _, s0, w, e, q, h, fun r' M' h' F' s' H' s1 w1 e1 => ⟨F', r', M', _, R, s0.trans s1, w1, e1, rl.mono s1, h', k.mono s1⟩⟩⟩
theorem zg_tup {es : List Expr} {k1 n : Nat} {gs : ZGs} (hc : X.calm = true) (h : PGs X es (upGs X.K X.mg F0 gs)) (hn : (assignEach es X.env).length = n := by rfl) (hst : (assignEach es X.env).findIdx? (·.1) = none := by rfl) : PG X (.Tuple es k1 pos) (UG X F0 (zgTup n gs)) :=
  pg_imp (pg_tup hc h hn hst) fun v s H Q h => by
  obtain ⟨F, rr, M, d, R, s0, w, e, rv, h, k⟩ := h
  cases d with
  | tup ds =>
    cases rv with
    | tup q l rl => exact ⟨_, _, rfl, same_sqT w.same q, by rw [rl.length]; exact h.1, F, rr, M, ds, R, s0, w, e, rl, h.2, k⟩
  | _ => exact False.elim h
theorem zg_sub {o i : Expr} {fo fi : ZE} (ho : PE X o (UE X F0 fo)) (hi : PE X i (UE X F0 fi))
    (ha : ∀ v, assign (.Subscript o i pos) X.env v = (do
      let ov ← holding [v] (eval o X.env)
      let iv ← holding [v, ov] (eval i X.env)
      standAt pos
      holding [v, ov, iv] (setItem ov iv v)
      release [v, ov, iv] []) := by intro _; rfl) : PG X (.Subscript o i pos) (UG X F0 (zgSub fo fi)) := pg_imp (pg_sub ho hi set_list ha) fun v s H Q h => by
  obtain ⟨F, rr, M, d, R, s0, w, e, rv, h, k⟩ := h
  refine ⟨F, rr, M, _, s0, w, e, h, fun x M1 h1 F1 H1 xv s1 w1 r1 => ⟨F1, rr, M1, _, s0.trans s1, w1, e.mono s1, h1, fun y M2 h2 F2 H2 yv s2 w2 r2 => ?_⟩⟩
  cases x with
  | ref p =>
    cases y with
    | int n =>
      cases r1; cases r2
      have h2' : (match M2 p with | some (.lst ds) => (match ixN ds.length n with | some j => R rr (mup M2 p (.lst (ds.set j d))) | none => False) | _ => False) := h2
      cases e1 : M2 p with
      | none => rw [e1] at h2'; exact h2'.elim
      | some m =>
        cases m with
        | lst ds =>
          rw [e1] at h2'
          obtain ⟨_, vs, hv, l, q⟩ := w2.mu p _ e1
          cases e2 : ixN ds.length n with
          | none => simp only [e2] at h2'
          | some j =>
            simp only [e2] at h2'
            refine ⟨p, vs, n, j, rfl, rfl, hv, by rw [q.length]; exact e2, k _ _ h2' F2 _ _ (s1.trans s2) (w2.write e1 (by intro z; cases z) (by intro z; cases z) ⟨vs.set j v, upd_same, by rw [List.length_set]; exact l, q.set (rv.mono (s1.trans s2)) j⟩) (e.mono (s1.trans s2))⟩
        | ins c fs => rw [e1] at h2'; exact h2'.elim
        | town => rw [e1] at h2'; exact h2'.elim
    | _ => exact False.elim h2
  | _ => exact False.elim h2
theorem zs_asg {tg : Expr} {g : ZG} (ha : PE X a (UE X F0 fa)) (hg : PG X tg (UG X F0 g)) (hs : swapsWithSole [tg] a pos.line X.env = pure false := by rfl) (hw : swappedStores [tg] a X.env = pure none := by rfl)
    (h1 : (assignEach [tg] X.env).map (·.2) = [assign tg X.env] := by rfl) : PS X (.Assign [tg] a pos) (US X F0 (zAsg fa g)) := ps_imp (ps_asg ha hg hs hw h1) fun E s H h => by
  obtain ⟨F, rr, M, Z, s0, w, e, h, k⟩ := h
  exact ⟨F, rr, M, _, s0, w, e, h, fun d M1 h1 F1 H1 v s1 w1 r1 => ⟨F1, rr, M1, d, _, s0.trans s1, w1, e.mono s1, r1, h1, k.nx.mono s1⟩⟩
/-- a, b = (x, y), plain locals -/
def on2 (ds : List D) (k : D → D → Prop) : Prop := match ds with | [x, y] => k x y | _ => False
def zPar (i j : Nat) (ta : ZA) : ZS := fun E r M => ta r M fun ds M1 => on2 ds fun x y => E.nx (st (st r i (some x)) j (some y)) M1
theorem zs_par {i j : Nat} {x y : Str} {ta : ZA} {px py pt : Pos} {kt k2 : Nat} {pt2 : Pos} (hc : X.calm = true) (hN : X.N.Nodup) (ha : PA X [a, b] (UA X F0 ta))
    (hw : swappedStores [.Tuple [.Name x px, .Name y py] kt pt] (.Tuple [a, b] k2 pt2) X.env = pure (some [x, y])) (hi : X.N[i]? = some x := by rfl) (hj : X.N[j]? = some y := by rfl) (hij : i ≠ j := by decide)
    (hx : X.env.scope.names.lookup x = some .local := by rfl) (hy : X.env.scope.names.lookup y = some .local := by rfl)
    (hs : swapsWithSole [.Tuple [.Name x px, .Name y py] kt pt] (.Tuple [a, b] k2 pt2) pos.line X.env = pure false := by rfl) :
    PS X (.Assign [.Tuple [.Name x px, .Name y py] kt pt] (.Tuple [a, b] k2 pt2) pos) (US X F0 (zPar i j ta)) := ps_imp (ps_par (i := i) (j := j) hc hN hi hj hij hx hy ha hw hs) fun E s H h => by
  obtain ⟨F, rr, M, Z, s0, w, e, h, k⟩ := h
  refine ⟨F, rr, M, _, s0, w, e, h, fun ds M1 h1 F1 H1 vs s1 w1 r1 => ?_⟩
  cases r1 with
  | nil => exact False.elim h1
  | cons q1 r1 =>
    cases r1 with
    | nil => exact False.elim h1
    | cons q2 r1 =>
      cases r1 with
      | nil => exact ⟨_, _, rfl, k.nx _ M1 h1 F1 _ H1 s1 w1 (((e.mono s1).set i q1).set j q2)⟩
      | cons _ _ => exact False.elim h1
end
end Zl

/-! Zl4: loops, comprehensions -/
namespace Zl
open PySem L2
/-- a walked list that may change must stay as it was -/
abbrev Ck := Option (Addr × List D)
def zck (c : Ck) (M : Mh) (P : Prop) : Prop := match c with
  | none => P
  | some (p, ds) => M p = some (.lst ds) ∧ P
def ckOk (c : Ck) (M : Mh) : Prop := match c with
  | none => True
  | some (p, ds) => M p = some (.lst ds)
theorem zck_out {c : Ck} {M : Mh} {P : Prop} (h : zck c M P) : ckOk c M ∧ P := by
  cases c with
  | none => exact ⟨trivial, h⟩
  | some x => exact h
@[simp] theorem zck_none {M : Mh} {P : Prop} : zck none M P = P := rfl
abbrev ZI := Env → Mh → (List D → Ck → Mh → Prop) → Prop
/-- the iterator J walks ds -/
def ItZ (K : PySem.W.Frag) (mg : Str → Option Value) (F : Fz) (J : It) (ds : List D) (c : Ck) : Prop := ∀ (F1 : Fz) (H1 : Hp) (M1 : Mh), Same F.f F1.f → Wd K mg F1 H1 M1 → ckOk c M1 →
  (∀ (i : Nat) (d : D), ds[i]? = some d → J.go i H1 ∧ ∀ x H2, J.yld i H1 x H2 → ∃ F2, Le F1 F2 ∧ Wd K mg F2 H2 M1 ∧ Rep K mg F2 x d) ∧ J.stop ds.length H1
def upI (K : PySem.W.Frag) (mg : Str → Option Value) (F0 : Fz) (zi : ZI) : TI := fun s H R => ∃ (F : Fz) (r : Env) (M : Mh) (RR : List D → Ck → Mh → Prop), Ge F0 F ∧ Wd K mg F H M ∧ RepE K mg F s r ∧ zi r M RR ∧
  ∀ ds c M', RR ds c M' → ∀ F' H' J, Le F F' → Wd K mg F' H' M' → ItZ K mg F' J ds c → ds.length ≤ sizeLine → R J H'
def onLst (d : D) (M : Mh) (k : List D → Ck → Prop) : Prop := match d with
  | .lst ds => k ds none
  | .ref p => (match M p with | some (.lst ds) => k ds (some (p, ds)) | _ => False)
  | _ => False
def onTup (d : D) (k : List D → Prop) : Prop := match d with | .tup ds => k ds | _ => False
def onStr (d : D) (k : Str → Prop) : Prop := match d with | .str s => k s | _ => False
def onI1 (ds : List D) (k : Int → Prop) : Prop := match ds with | [.int i] => k i | _ => False
def onI2 (ds : List D) (k : Int → Int → Prop) : Prop := match ds with | [.int i, .int j] => k i j | _ => False
def ziList (a : ZE) : ZI := fun r M Q => a r M fun d M1 => onLst d M1 fun ds c => Q ds c M1
def ziTup (a : ZE) : ZI := fun r M Q => a r M fun d M1 => onTup d fun ds => Q ds none M1
def charsD (s : Str) : List D := s.cps.toList.map fun c => .str ⟨#[c]⟩
def ziStr (a : ZE) : ZI := fun r M Q => a r M fun d M1 => onStr d fun s => Q (charsD s) none M1
/-- lo, lo + c, .. -/
def rangeD (lo c : Int) : Nat → List D
  | 0 => []
  | n + 1 => .int lo :: rangeD (lo + c) c n
def ziRange (ta : ZA) : ZI := fun r M Q => ta r M fun ds M1 => onI1 ds fun j => -(2 ^ 62) ≤ j ∧ j ≤ 16777216 ∧ Q (rangeD 0 1 j.toNat) none M1
def ziRange2 (ta : ZA) : ZI := fun r M Q => ta r M fun ds M1 => onI2 ds fun i j => -(2 ^ 62) ≤ i ∧ i < 2 ^ 62 ∧ -(2 ^ 62) ≤ j ∧ j < 2 ^ 62 ∧ j - i ≤ 16777216 ∧ Q (rangeD i 1 (j - i).toNat) none M1
def ziRange3 (ta : ZA) : ZI := fun r M Q => ta r M fun ds M1 => match ds with
  | [.int i, .int j, .int s] => ∃ n, RgC i j s n ∧ n ≤ 16777216 ∧ Q (rangeD i s n) none M1
  | _ => False
def enumD (i : Nat) : List D → List D
  | [] => []
  | d :: r => .tup [.int (i : Nat), d] :: enumD (i + 1) r
def ziEnum (ta : ZA) : ZI := fun r M Q => ta r M fun ds M1 => match ds with
  | [.lst ds] => Q (enumD 0 ds) none M1
  | _ => False
theorem rangeD_get : ∀ (n : Nat) (lo c : Int) (i : Nat) (d : D), (rangeD lo c n)[i]? = some d → i < n ∧ d = .int (lo + (i : Nat) * c)
  | 0, _, _, _, _, h => by simp [rangeD] at h
  | n + 1, lo, c, 0, d, h => by
    simp [rangeD] at h; subst h
    exact ⟨Nat.succ_pos _, by simp⟩
  | n + 1, lo, c, i + 1, d, h => by
    have h' : (rangeD (lo + c) c n)[i]? = some d := by simpa [rangeD] using h
    obtain ⟨h1, h2⟩ := rangeD_get n (lo + c) c i d h'
    refine ⟨Nat.succ_lt_succ h1, ?_⟩
    rw [h2, Int.natCast_add, Int.add_mul]
    congr 1
    simp only [Int.natCast_one, Int.one_mul]
    omega
theorem rangeD_len : ∀ (n : Nat) (lo c : Int), (rangeD lo c n).length = n
  | 0, _, _ => rfl
  | n + 1, lo, c => congrArg (· + 1) (rangeD_len n (lo + c) c)
theorem enumD_get : ∀ (ds : List D) (k i : Nat) (d : D), (enumD k ds)[i]? = some d → ∃ e, ds[i]? = some e ∧ d = .tup [.int ((k + i : Nat) : Int), e]
  | [], _, _, _, h => by simp [enumD] at h
  | e :: r, k, 0, d, h => by
    simp [enumD] at h; subst h
    exact ⟨e, rfl, rfl⟩
  | e :: r, k, i + 1, d, h => by
    have h' : (enumD (k + 1) r)[i]? = some d := by simpa [enumD] using h
    obtain ⟨x, h1, h2⟩ := enumD_get r (k + 1) i d h'
    refine ⟨x, by simpa using h1, ?_⟩
    rw [h2, show k + 1 + i = k + (i + 1) by omega]
theorem enumD_len : ∀ (ds : List D) (k : Nat), (enumD k ds).length = ds.length
  | [], _ => rfl
  | _ :: r, k => congrArg (· + 1) (enumD_len r (k + 1))
section
variable {K : PySem.W.Frag} {mg : Str → Option Value} {F : Fz}
theorem it_at {F1 : Fz} {H1 : Hp} {M1 : Mh} {a : Addr} {vs : List V} {ds : List D} (w : Wd K mg F1 H1 M1) (e : H1 a = some (.lst vs)) (r : RepL K mg F1 vs ds) :
    (∀ (i : Nat) (d : D), ds[i]? = some d → (Itl K a).go i H1 ∧ ∀ x H2, (Itl K a).yld i H1 x H2 → ∃ F2, Le F1 F2 ∧ Wd K mg F2 H2 M1 ∧ Rep K mg F2 x d) ∧ (Itl K a).stop ds.length H1 := by
  refine ⟨fun i d hd => ?_, ⟨vs, SqL.of e, by rw [r.length]; exact Nat.le_refl _⟩⟩
  obtain ⟨v, hv, rv⟩ := r.get hd
  refine ⟨⟨vs, v, SqL.of e, hv⟩, fun x H2 ⟨h1, h2⟩ => ?_⟩
  subst h1
  have := h2 vs (SqL.of e)
  rw [hv] at this; cases this
  exact ⟨F1, Le.refl _, w, rv⟩
theorem itz_list {a : Addr} {vs : List V} {ds : List D} (q : F.f a = some (.lst vs)) (r : RepL K mg F vs ds) : ItZ K mg F (Itl K a) ds none := fun F1 H1 M1 s w ck => it_at w (w.sub _ _ (s _ _ q)) (r.monoF s)
theorem itz_ref {a : Addr} {ds : List D} : ItZ K mg F (Itl K a) ds (some (a, ds)) := fun F1 H1 M1 s w ck => by
  obtain ⟨_, vs, hv, _, rl⟩ := w.mu a _ ck
  exact it_at w hv rl
theorem itz_tup {a : Addr} {vs : List V} {ds : List D} (q : SqT K F.f a vs) (r : RepL K mg F vs ds) : ItZ K mg F (Itt K a) ds none := by
  intro F1 H1 M1 s w ck
  have e : SqT K H1 a vs := same_sqT w.same (same_sqT s q)
  refine ⟨fun i d hd => ?_, ⟨vs, e, by rw [r.length]; exact Nat.le_refl _⟩⟩
  obtain ⟨v, hv, rv⟩ := r.get hd
  refine ⟨⟨vs, v, e, hv⟩, fun x H2 ⟨h1, h2⟩ => ?_⟩
  subst h1
  have := h2 vs e
  rw [hv] at this; cases this
  exact ⟨F1, Le.refl _, w, rv.monoF s⟩
theorem itz_range {lo c : Int} {n : Nat} : ItZ K mg F (Itc lo c n) (rangeD lo c n) none := by
  intro F1 H1 M1 s w ck
  refine ⟨fun i d hd => ?_, by show n ≤ _; rw [rangeD_len]; exact Nat.le_refl _⟩
  obtain ⟨h1, h2⟩ := rangeD_get n lo c i d hd
  refine ⟨h1, fun x H2 ⟨e1, e2⟩ => ?_⟩
  subst e1 e2 h2
  exact ⟨F1, Le.refl _, w, .int _⟩
theorem itz_range1 {lo : Int} {n : Nat} : ItZ K mg F (Itr lo n) (rangeD lo 1 n) none := by
  intro F1 H1 M1 s w ck
  refine ⟨fun i d hd => ?_, by show n ≤ _; rw [rangeD_len]; exact Nat.le_refl _⟩
  obtain ⟨h1, h2⟩ := rangeD_get n lo 1 i d hd
  refine ⟨h1, fun x H2 ⟨e1, e2⟩ => ?_⟩
  subst e1 e2 h2
  rw [Int.mul_one]
  exact ⟨F1, Le.refl _, w, .int _⟩
theorem itz_str {z : Str} (h : PyData.strOk z = true) : ItZ K mg F (Its z) (charsD z) none := by
  intro F1 H1 M1 s w ck
  refine ⟨fun i d hd => ?_, by show z.cps.size ≤ _; unfold charsD; rw [List.length_map, Array.length_toList]; exact Nat.le_refl _⟩
  unfold charsD at hd
  rw [List.getElem?_map] at hd
  cases e : z.cps.toList[i]? with
  | none => rw [e] at hd; cases hd
  | some c =>
    rw [e] at hd
    have hd' := Option.some.inj hd
    have hi : i < z.cps.size := by
      have := (List.getElem?_eq_some_iff.mp e).1
      rwa [Array.length_toList] at this
    refine ⟨hi, fun x H2 ⟨e1, c', e2, e3⟩ => ?_⟩
    have ec : c' = c := by
      rw [← Array.getElem?_toList, e] at e2
      exact (Option.some.inj e2).symm
    subst e1 e3 ec
    rw [← hd']
    refine ⟨F1, Le.refl _, w, .str ?_ (by show 1 ≤ sizeLine; decide)⟩
    unfold PyData.strOk at *
    rw [← Array.all_toList] at h ⊢
    have := List.all_eq_true.mp h c' (List.mem_of_getElem? e)
    simpa using this
theorem itz_enum {a : Addr} {vs : List V} {ds : List D} (e0 : F.f a = some (.lst vs)) (r : RepL K mg F vs ds) : ItZ K mg F (Ite K a) (enumD 0 ds) none := by
  intro F1 H1 M1 s w ck
  have e := w.sub _ _ (s _ _ e0)
  refine ⟨fun i d hd => ?_, ⟨vs, SqL.of e, by rw [enumD_len, r.length]; exact Nat.le_refl _⟩⟩
  obtain ⟨x, h1, h2⟩ := enumD_get ds 0 i d hd
  obtain ⟨v, hv, rv⟩ := r.get h1
  refine ⟨⟨vs, v, SqL.of e, hv⟩, fun y H2 ⟨T, x', e1, e2, e3, e4⟩ => ?_⟩
  have := e4 vs (SqL.of e)
  rw [hv] at this; cases this
  subst e1 e3 h2
  obtain ⟨s1, w1⟩ := w.laidF (o := .tup [.int (i : Nat), v]) e2
  refine ⟨_, s1, w1, .tup (SqT.of upd_same) (by show 2 ≤ sizeLine; decide) ?_⟩
  rw [Nat.zero_add]
  exact .cons (.int _) (.cons ((rv.monoF s).mono s1) .nil)
end
section
variable {X : Cx} {F0 : Fz} {tg a b c : Expr} {fa fb fc : ZE} {pos p : Pos}
theorem pi_imp {iter : Expr} {w w' : TI} (h : PI X tg iter w) (i : ∀ s H R, w' s H R → w s H R) : PI X tg iter w' := ⟨fun pins s r H R I q => h.run pins s r H R I (i _ _ _ q)⟩
theorem zi_list (ha : PE X a (UE X F0 fa)) : PI X tg a (upI X.K X.mg F0 (ziList fa)) := pi_imp (pi_list ha) fun s H R h => by
  obtain ⟨F, rr, M, RR, s0, w, e, h, k⟩ := h
  refine ⟨F, rr, M, _, s0, w, e, h, fun d M1 h1 F1 H1 v s1 w1 r1 => ?_⟩
  cases d with
  | lst ds =>
    cases r1 with
    | lst q l rl => exact ⟨_, rfl, ⟨_, SqL.of (w1.sub _ _ q)⟩, k _ _ M1 h1 F1 H1 _ s1 w1 (itz_list q rl) (by rw [← rl.length]; exact l)⟩
  | ref p =>
    cases r1
    have h1' : (match M1 p with | some (.lst ds) => RR ds (some (p, ds)) M1 | _ => False) := h1
    cases e1 : M1 p with
    | none => rw [e1] at h1'; exact h1'.elim
    | some m =>
      cases m with
      | lst ds =>
        rw [e1] at h1'
        obtain ⟨_, vs, hv, l, rl⟩ := w1.mu p _ e1
        exact ⟨p, rfl, ⟨_, SqL.of hv⟩, k _ _ M1 h1' F1 H1 _ s1 w1 itz_ref (by rw [← rl.length]; exact l)⟩
      | ins c fs => rw [e1] at h1'; exact h1'.elim
      | town => rw [e1] at h1'; exact h1'.elim
  | _ => exact False.elim h1
theorem zi_tup (ha : PE X a (UE X F0 fa)) : PI X tg a (upI X.K X.mg F0 (ziTup fa)) := pi_imp (pi_tup ha) fun s H R h => by
  obtain ⟨F, rr, M, RR, s0, w, e, h, k⟩ := h
  refine ⟨F, rr, M, _, s0, w, e, h, fun d M1 h1 F1 H1 v s1 w1 r1 => ?_⟩
  cases d with
  | tup ds =>
    cases r1 with
    | tup q l rl => exact ⟨_, rfl, ⟨_, same_sqT w1.same q⟩, k _ _ M1 h1 F1 H1 _ s1 w1 (itz_tup q rl) (by rw [← rl.length]; exact l)⟩
  | _ => exact False.elim h1
theorem zi_str (ha : PE X a (UE X F0 fa)) : PI X tg a (upI X.K X.mg F0 (ziStr fa)) := pi_imp (pi_str ha) fun s H R h => by
  obtain ⟨F, rr, M, RR, s0, w, e, h, k⟩ := h
  refine ⟨F, rr, M, _, s0, w, e, h, fun d M1 h1 F1 H1 v s1 w1 r1 => ?_⟩
  cases d with
  | str z =>
    cases r1 with
    | str o1 o2 => exact ⟨_, rfl, k _ _ M1 h1 F1 H1 _ s1 w1 (itz_str o1) (by unfold charsD; rw [List.length_map, Array.length_toList]; exact o2)⟩
  | _ => exact False.elim h1
theorem zi_range1 {ta : ZA} (hm : X.mg "range" = none) (ha : PA X [a] (UA X F0 ta)) (hg : Gl X "range" := by rfl) (hs : starEach [a] X.env = [(false, eval a X.env)] := by rfl) : PI X tg (.Call (.Name "range" p) [a] [] pos) (upI X.K X.mg F0 (ziRange ta)) :=
  pi_imp (pi_range1 hg hm ha hs) fun s H R h => by
  obtain ⟨F, rr, M, RR, s0, w, e, h, k⟩ := h
  refine ⟨F, rr, M, _, s0, w, e, h, fun ds M1 h1 F1 H1 v s1 w1 r1 => ?_⟩
  try unfold onI1 at h1
  try unfold onI2 at h1
  split at h1
  · cases r1 with
    | cons q r1 => cases r1; cases q; exact ⟨_, rfl, h1.1, by have := h1.2.1; omega, k _ _ M1 h1.2.2 F1 H1 _ s1 w1 itz_range1 (by rw [rangeD_len, sizeLine_eq]; have := h1.2.1; omega)⟩
  · exact h1.elim
theorem zi_range2 {ta : ZA} (hm : X.mg "range" = none) (ha : PA X [a, b] (UA X F0 ta)) (hg : Gl X "range" := by rfl) (hs : starEach [a, b] X.env = [(false, eval a X.env), (false, eval b X.env)] := by rfl) (hs2 : starEach [b] X.env = [(false, eval b X.env)] := by rfl) :
    PI X tg (.Call (.Name "range" p) [a, b] [] pos) (upI X.K X.mg F0 (ziRange2 ta)) := pi_imp (pi_range2 hg hm ha hs hs2) fun s H R h => by
  obtain ⟨F, rr, M, RR, s0, w, e, h, k⟩ := h
  refine ⟨F, rr, M, _, s0, w, e, h, fun ds M1 h1 F1 H1 v s1 w1 r1 => ?_⟩
  try unfold onI1 at h1
  try unfold onI2 at h1
  split at h1
  · cases r1 with
    | cons q r1 =>
      cases r1 with
      | cons q2 r1 => cases r1; cases q; cases q2; exact ⟨_, _, rfl, ⟨h1.1, h1.2.1, h1.2.2.1, h1.2.2.2.1⟩, k _ _ M1 h1.2.2.2.2.2 F1 H1 _ s1 w1 itz_range1 (by rw [rangeD_len, sizeLine_eq]; have := h1.2.2.2.2.1; omega)⟩
  · exact h1.elim
theorem zi_range3 {ta : ZA} (hm : X.mg "range" = none) (ha : PA X [a, b, c] (UA X F0 ta)) (hg : Gl X "range" := by rfl) (he : starEach [a, b, c] X.env = (false, eval a X.env) :: starEach [b, c] X.env := by rfl) (hpl : (backTo pos (starEach [b, c] X.env)).any (·.1) = false := by rfl) :
    PI X tg (.Call (.Name "range" p) [a, b, c] [] pos) (upI X.K X.mg F0 (ziRange3 ta)) := pi_imp (pi_range3 hg hm ha he hpl) fun s H R h => by
  obtain ⟨F, rr, M, RR, s0, w, e, h, k⟩ := h
  refine ⟨F, rr, M, _, s0, w, e, h, fun ds M1 h1 F1 H1 v s1 w1 r1 => ?_⟩
  try unfold onI1 at h1
  try unfold onI2 at h1
  split at h1
  · cases r1 with
    | cons q r1 =>
      cases r1 with
      | cons q2 r1 =>
        cases r1 with
        | cons q3 r1 => cases r1; cases q; cases q2; cases q3; obtain ⟨n, h4, h6, h5⟩ := h1; exact ⟨_, _, _, n, rfl, h4, k _ _ M1 h5 F1 H1 _ s1 w1 itz_range (by rw [rangeD_len, sizeLine_eq]; exact h6)⟩
  · exact h1.elim
theorem zi_enum {elts : List Expr} {kk : Nat} {tpos : Pos} {ta : ZA} (hm : X.mg "enumerate" = none) (ha : PA X [a] (UA X F0 ta)) (hg : Gl X "enumerate" := by rfl) (hs : starEach [a] X.env = [(false, eval a X.env)] := by rfl) :
    PI X (.Tuple elts kk tpos) (.Call (.Name "enumerate" p) [a] [] pos) (upI X.K X.mg F0 (ziEnum ta)) := pi_imp (pi_enum hg hm ha hs) fun s H R h => by
  obtain ⟨F, rr, M, RR, s0, w, e, h, k⟩ := h
  refine ⟨F, rr, M, _, s0, w, e, h, fun ds M1 h1 F1 H1 v s1 w1 r1 => ?_⟩
  try unfold onI1 at h1
  try unfold onI2 at h1
  split at h1
  · cases r1 with
    | cons q r1 =>
      cases r1
      cases q with
      | lst q l rl => exact ⟨_, _, rfl, SqL.of (w1.sub _ _ q), k _ _ M1 h1 F1 H1 _ s1 w1 (itz_enum q rl) (by rw [enumD_len, ← rl.length]; exact l)⟩
  · exact h1.elim
/-! ### for -/
def zLoop (c : Ck) (step : D → (Env → Mh → Prop) → Env → Mh → Prop) (nx : Env → Mh → Prop) : List D → Env → Mh → Prop
  | [], r, M => zck c M (nx r M)
  | d :: l, r, M => zck c M (step d (zLoop c step nx l) r M)
def zStep (g : ZG) (tb : ZS) (E : ZEnds) : D → (Env → Mh → Prop) → Env → Mh → Prop := fun d k r M => g d r M fun r' M' => tb { nx := k, rt := E.rt, bk := E.nx, ct := k } r' M'
def zFor (zi : ZI) (g : ZG) (tb : ZS) : ZS := fun E r M => zi r M fun ds c M1 => zLoop c (zStep g tb E) E.nx ds r M1
theorem drop_some {α : Type} {ds : List α} {i : Nat} {d : α} (h : ds[i]? = some d) : ds.drop i = d :: ds.drop (i + 1) := by
  obtain ⟨hi, e⟩ := List.getElem?_eq_some_iff.mp h
  rw [List.drop_eq_getElem_cons hi, e]
theorem zs_for {iter : Expr} {body : List Stmt} {zi : ZI} {g : ZG} {tb : ZS} (hp : PassesOwn (model X.prog X.w) X.A X.env X.xe) (hc : X.calm = true) (hi : PI X tg iter (upI X.K X.mg F0 zi)) (hg : PG X tg (UG X F0 g)) (hb : PSs X body (US X F0 tb))
    (hs : ∀ x, foldedSetIterable iter X.env x = pure x := by intro _; rfl) : PS X (.For tg iter body [] pos) (US X F0 (zFor zi g tb)) := ps_imp (ps_for hp hc hi hg hb hs) fun E s H h => by
  obtain ⟨F, rr, M, Z, s0, w, e, h, k⟩ := h
  refine ⟨F, rr, M, _, s0, w, e, h, fun ds c M1 h1 F1 H1 J s1 w1 itz _ => ?_⟩
  refine ⟨fun i m s H => i + m = ds.length ∧ ∃ F r M, Le F1 F ∧ Wd X.K X.mg F H M ∧ RepE X.K X.mg F s r ∧ zLoop c (zStep g tb Z) Z.nx (ds.drop i) r M,
    ⟨ds.length, by omega, F1, rr, M1, Le.refl _, w1, e.mono s1, h1⟩, ?_⟩
  rintro i m s' H' ⟨hm, F2, r2, M2, s2, w2, e2, hl⟩
  cases hd : ds[i]? with
  | none =>
    have hi : i = ds.length := by
      have := List.getElem?_eq_none_iff.mp hd
      omega
    rw [hi, List.drop_length] at hl
    obtain ⟨ck, hn⟩ := zck_out hl
    refine .inl ⟨?_, k.nx _ _ hn F2 _ _ (s1.trans s2) w2 e2⟩
    rw [hi]
    exact (itz F2 H' M2 s2.f w2 ck).2
  | some d =>
    have hlt := (List.getElem?_eq_some_iff.mp hd).1
    rw [drop_some hd] at hl
    obtain ⟨ck, hn⟩ := zck_out hl
    obtain ⟨go, yl⟩ := (itz F2 H' M2 s2.f w2 ck).1 i d hd
    refine .inr ⟨go, fun s H => ∃ F r M, Le F1 F ∧ Wd X.K X.mg F H M ∧ RepE X.K X.mg F s r ∧ zLoop c (zStep g tb Z) Z.nx (ds.drop (i + 1)) r M, fun s3 H3 h3 => ⟨ds.length - (i + 1), by omega, by omega, h3⟩, fun x H3 hy => ?_⟩
    obtain ⟨F3, s3, w3, rx⟩ := yl x H3 hy
    refine ⟨F3, r2, M2, d, _, (s0.trans s1).trans (s2.trans s3), w3, e2.mono s3, rx, hn, fun r4 M4 h4 F4 s4 H4 s5 w4 e4 => ?_⟩
    have ss := s2.trans (s3.trans s5)
    refine ⟨F4, r4, M4, _, (s0.trans s1).trans ss, w4, e4, h4, ⟨fun r5 M5 h5 F5 s5' H5 s6 w5 e5 => ⟨F5, r5, M5, ss.trans s6, w5, e5, h5⟩, k.rt.mono (s1.trans ss), k.nx.mono (s1.trans ss), fun r5 M5 h5 F5 s5' H5 s6 w5 e5 => ⟨F5, r5, M5, ss.trans s6, w5, e5, h5⟩⟩⟩
/-! ### while -/
def zWhileN (t : ZT) (tb : ZS) (E : ZEnds) : Nat → Env → Mh → Prop
  | 0 => fun _ _ => False
  | n + 1 => fun r M => t r M fun b M1 => bsel b (tb { nx := zWhileN t tb E n, rt := E.rt, bk := E.nx, ct := zWhileN t tb E n } r M1) (E.nx r M1)
def zWhile (t : ZT) (tb : ZS) : ZS := fun E r M => ∃ n, zWhileN t tb E n r M
theorem zs_while {body : List Stmt} {tc : ZT} {tb : ZS} (hp : PassesOwn (model X.prog X.w) X.A X.env X.xe) (hc : PT X c (UT X F0 tc)) (hb : PSs X body (US X F0 tb)) : PS X (.While c body [] pos) (US X F0 (zWhile tc tb)) := ps_imp (ps_while hp hc hb) fun E s H h => by
  obtain ⟨F, rr, M, Z, s0, w, e, ⟨n, h⟩, k⟩ := h
  refine ⟨fun m s H => ∃ F1 r M, Le F F1 ∧ Wd X.K X.mg F1 H M ∧ RepE X.K X.mg F1 s r ∧ zWhileN tc tb Z m r M, ⟨n, F, rr, M, Le.refl _, w, e, h⟩, ?_⟩
  rintro m s' H' ⟨F1, r1, M1, s1, w1, e1, h1⟩
  cases m with
  | zero => exact False.elim h1
  | succ m =>
    refine ⟨F1, r1, M1, _, s0.trans s1, w1, e1, h1, fun b M2 h2 F2 H2 s2 w2 => ?_⟩
    cases b with
    | false => 
      rw [if_neg Bool.false_ne_true]
      exact k.nx _ _ h2 F2 _ _ (s1.trans s2) w2 (e1.mono s2)
    | true =>
      rw [if_pos rfl]
      refine ⟨fun s H => ∃ F1 r M, Le F F1 ∧ Wd X.K X.mg F1 H M ∧ RepE X.K X.mg F1 s r ∧ zWhileN tc tb Z m r M, fun s3 H3 h3 => ⟨m, Nat.lt_succ_self m, h3⟩, F2, r1, M2, _, (s0.trans s1).trans s2, w2, e1.mono s2, h2, ?_⟩
      have ss := s1.trans s2
      exact ⟨fun r5 M5 h5 F5 s5 H5 s6 w5 e5 => ⟨F5, r5, M5, ss.trans s6, w5, e5, h5⟩, k.rt.mono ss, k.nx.mono ss, fun r5 M5 h5 F5 s5 H5 s6 w5 e5 => ⟨F5, r5, M5, ss.trans s6, w5, e5, h5⟩⟩
/-! ### list comprehensions -/
def zYes : ZT := fun _ M Q => Q true M
def zLcL (c : Ck) (step : D → Mh → (Option D → Mh → Prop) → Prop) (k : List D → Mh → Prop) : List D → List D → Mh → Prop
  | [], acc, M => zck c M (k acc M)
  | d :: l, acc, M => zck c M (step d M fun o M' => match o with
    | none => zLcL c step k l acc M'
    | some y => zLcL c step k l (acc ++ [y]) M')
def zLcS (g : ZG) (tt : ZT) (te : ZE) (r : Env) : D → Mh → (Option D → Mh → Prop) → Prop := fun d M Q => g d r M fun r' M' => tt r' M' fun b M1 => bsel b (te r' M1 fun y M2 => Q (some y) M2) (Q none M1)
def zLc (nb : Bool) (zi : ZI) (g : ZG) (tt : ZT) (te : ZE) (vs : List Nat) : ZE := fun r M Q => zi r M fun ds c M1 => zLcL c (zLcS g tt te (zwipe r vs)) (fun acc M2 => zNew nb acc M2 Q) ds [] M1
end
end Zl

/-! Zl5: list comprehensions -/
namespace Zl
open PySem L2
theorem wipe_in {s : St} {i : Nat} : ∀ {vs : List Nat}, i ∈ vs → (wipe s vs)[i]? = s[i]?.map fun _ => none
  | v :: vs, h => by
    show ((wipe s vs).set v none)[i]? = _
    by_cases hi : v = i
    · subst hi
      rw [List.getElem?_set_self', ]
      cases e : (wipe s vs)[v]? with
      | none =>
        have := List.getElem?_eq_none_iff.mp e
        rw [wipe_length] at this
        rw [List.getElem?_eq_none_iff.mpr this]; rfl
      | some x =>
        have := (List.getElem?_eq_some_iff.mp e).1
        rw [wipe_length] at this
        rw [List.getElem?_eq_getElem this]; rfl
    · rw [List.getElem?_set_ne hi]
      rcases List.mem_cons.mp h with e | h
      · exact absurd e.symm hi
      · exact wipe_in h
theorem wipe_set {s : St} {i : Nat} {x : Option V} {vs : List Nat} (h : i ∈ vs) : wipe (s.set i x) vs = wipe s vs := by
  apply List.ext_getElem?
  intro j
  by_cases hj : j ∈ vs
  · rw [wipe_in hj, wipe_in hj, List.getElem?_set]
    by_cases e : i = j
    · subst e
      rw [if_pos rfl]
      by_cases hl : i < s.length
      · rw [if_pos hl, List.getElem?_eq_getElem hl]; rfl
      · rw [if_neg hl, List.getElem?_eq_none_iff.mpr (by omega)]
    · rw [if_neg e]
  · rw [wipe_out hj, wipe_out hj, List.getElem?_set_ne (fun e : i = j => hj (e ▸ h))]
theorem wipe_wipe {s : St} {vs : List Nat} : wipe (wipe s vs) vs = wipe s vs := by
  apply List.ext_getElem?
  intro j
  by_cases hj : j ∈ vs
  · rw [wipe_in hj, wipe_in hj]
    cases s[j]? <;> rfl
  · rw [wipe_out hj]
section
variable {K : PySem.W.Frag} {mg : Str → Option Value} {F : Fz} {H : Hp} {M : Mh}
theorem Wd.unhideM {a : Addr} {vs : List V} {ds : List D} {u : Hp} (w : Wd K mg F H M) (h : F.u a = some (.lst vs)) (l : vs.length ≤ sizeLine) (q : RepL K mg F vs ds) (hu : Same u F.u) (ha : u a = none) : Wd K mg ⟨F.f, u⟩ H (mup M a (.lst ds)) := by
  obtain ⟨h0, f0, m0⟩ := w.un a _ h
  refine ⟨w.sub, fun b o e => ?_, fun b m e => ?_⟩
  · have hb : b ≠ a := ne_of_none (show u b = some o from e) ha
    obtain ⟨q1, q2, q3⟩ := w.un b o (hu b o e)
    exact ⟨q1, q2, by rw [mup_ne hb]; exact q3⟩
  · by_cases hb : b = a
    · subst hb; rw [mup_same] at e; cases e
      exact ⟨f0, vs, h0, l, q.monoF (F := F) (F' := ⟨F.f, u⟩) (Same.refl _)⟩
    · rw [mup_ne hb] at e
      obtain ⟨q1, r⟩ := w.mu b m e
      refine ⟨q1, r.stay (F := F) (F' := ⟨F.f, u⟩) (Same.refl _) rfl (fun c _ hf hc hm => ⟨rfl, hf, hu.free hc, ?_⟩) fun t z => ?_⟩
      · rw [mup_ne (fun z => by rw [z, h] at hc; cases hc)]; exact hm
      · by_cases ht : t = a
        · subst ht; rw [mup_same] at z; cases z
        · rw [mup_ne ht] at z; exact z
theorem Wd.unhideF {a : Addr} {vs : List V} {u : Hp} (w : Wd K mg F H M) (h : F.u a = some (.lst vs)) (hu : Same u F.u) (ha : u a = none) : Wd K mg ⟨upd F.f a (.lst vs), u⟩ H M := by
  obtain ⟨h0, f0, m0⟩ := w.un a _ h
  refine ⟨fun b o e => ?_, fun b o e => ?_, fun b m e => ?_⟩
  · have e : upd F.f a (.lst vs) b = some o := e
    by_cases hb : b = a
    · subst hb; rw [upd_same] at e; cases e; exact h0
    · rw [upd_ne hb] at e; exact w.sub b o e
  · have hb : b ≠ a := ne_of_none (show u b = some o from e) ha
    obtain ⟨q1, q2, q3⟩ := w.un b o (hu b o e)
    exact ⟨q1, (upd_ne hb).trans q2, q3⟩
  · have hb : b ≠ a := ne_of_m e m0
    obtain ⟨q1, r⟩ := w.mu b m e
    refine ⟨(upd_ne hb).trans q1, r.stay (F := F) (F' := ⟨upd F.f a (.lst vs), u⟩) (same_upd f0) rfl (fun c _ hf hc hm => ⟨rfl, ?_, hu.free hc, hm⟩) fun t z => z⟩
    exact (upd_ne (fun z => by rw [z, h] at hc; cases hc)).trans hf
/-- a comprehension's target: what it stores it stores in its own slots -/
def TgOk (K : PySem.W.Frag) (mg : Str → Option Value) (g : TG) (zg : ZG) (vs : List Nat) : Prop := ∀ (F : Fz) (H : Hp) (M : Mh) (x : V) (d : D) (s : St) (r : Env) (Q : St → Hp → Prop) (R : Env → Mh → Prop), Wd K mg F H M → Rep K mg F x d → RepE K mg F s r → zg d r M R →
  (∀ r' s', R r' M → RepE K mg F s' r' → wipe s' vs = wipe s vs → Q s' H) → g x s H Q
theorem tg_name {i : Nat} {vs : List Nat} (h : i ∈ vs) : TgOk K mg (gName i) (zgName i) vs := fun F H M x d s r Q R w rx e z k => k _ _ z (e.set i rx) (wipe_set h)
def zgPair (i j : Nat) : ZG := zgTup 2 (zgCons (zgName i) (zgCons (zgName j) zgNil))
theorem tg_pair {i j : Nat} {vs : List Nat} (h : i ∈ vs) (h' : j ∈ vs) : TgOk K mg (gTup K 2 (gCons (gName i) (gCons (gName j) gNil))) (zgPair i j) vs := fun F H M x d s r Q R w rx e z k => by
  cases d with
  | tup ds =>
    cases rx with
    | tup q l rl =>
      obtain ⟨hl, z⟩ := (show ds.length = 2 ∧ zgCons (zgName i) (zgCons (zgName j) zgNil) ds r M R from z)
      cases rl with
      | nil => cases hl
      | cons a1 rl =>
        cases rl with
        | nil => cases hl
        | cons a2 rl =>
          cases rl with
          | nil =>
            refine ⟨_, _, rfl, same_sqT w.same q, rfl, _, _, rfl, _, _, rfl, rfl, k _ _ z ((e.set i a1).set j a2) ?_⟩
            rw [wipe_set h', wipe_set h]
          | cons _ _ => cases hl
  | _ => exact False.elim z
end
section
variable {X : Cx} {F0 : Fz} {tg elt iter : Expr} {ifs : List Expr} {scope : Scope} {own : List (Str × Nat)} {pos : Pos} {zi : ZI} {g : TG} {zg : ZG} {tt : ZT} {te : ZE}
theorem pts_imp {t t' : TT} (h : PTs X ifs t) (i : ∀ s H Q, t' s H Q → t s H Q) : PTs X ifs t' := ⟨fun pins s r H Q I q => h.run pins s r H Q I (i _ _ _ q)⟩
theorem zts_nil : PTs X [] (UT X F0 zYes) := pts_imp pts_nil fun s H Q h => by
  obtain ⟨F, rr, M, R, s0, w, e, h, k⟩ := h
  exact k true M h F H (Le.refl _) w
theorem zts_one {c : Expr} (h : PT X c (UT X F0 tt)) : PTs X [c] (UT X F0 tt) := pts_one h
theorem lc_low (nb : Bool) (ok : TgOk X.K X.mg g zg (own.map (·.2))) {s : St} {H : Hp} {Q : VK} (h : UE X F0 (zLc nb zi zg tt te (own.map (·.2))) s H Q) : tLc (upI X.K X.mg F0 zi) g (UT X F0 tt) (UE X F0 te) (own.map (·.2)) s H Q := by
  obtain ⟨F, rr, M, R, s0, w, e, h, k⟩ := h
  generalize own.map (·.2) = vs at *
  refine ⟨F, rr, M, _, s0, w, e, h, fun ds c M1 h1 F1 H1 J s1 w1 itz hlen Da hD => ?_⟩
  obtain ⟨_, _, u0⟩ := w1.free hD
  have e1 := e.mono s1
  refine ⟨fun i m H => i + m = ds.length ∧ ∃ (Fi : Fz) (Mi : Mh) (acc : List D) (xs : List V), Same F1.f Fi.f ∧ Fi.u = upd F1.u Da (.lst xs) ∧ Wd X.K X.mg Fi H Mi ∧ RepL X.K X.mg Fi xs acc ∧ acc.length ≤ i ∧
      zLcL c (zLcS zg tt te (zwipe rr vs)) (fun acc M2 => zNew nb acc M2 R) (ds.drop i) acc Mi, ⟨ds.length, by omega, ⟨F1.f, upd F1.u Da (.lst [])⟩, M1, [], [], Same.refl _, rfl, w1.hide hD, .nil, Nat.le_refl _, h1⟩, ?_⟩
  rintro i m H2 ⟨hm, Fi, Mi, acc, xs, sf, eu, wi, ra, la, hl⟩
  have uD : Fi.u Da = some (.lst xs) := by rw [eu]; exact upd_same
  have su : Same F1.u Fi.u := by rw [eu]; exact same_upd u0
  cases hd : ds[i]? with
  | none =>
    have hi : i = ds.length := by
      have := List.getElem?_eq_none_iff.mp hd
      omega
    rw [hi, List.drop_length] at hl
    obtain ⟨ck, hn⟩ := zck_out hl
    refine .inl ⟨by rw [hi]; exact (itz Fi H2 Mi sf wi ck).2, ?_⟩
    have lx : xs.length ≤ sizeLine := by rw [ra.length]; omega
    cases nb with
    | false =>
      have w3 := wi.unhideF uD su u0
      refine k _ _ hn ⟨upd Fi.f Da (.lst xs), F1.u⟩ _ _ (s1.trans ⟨?_, rfl⟩) w3 (.lst upd_same lx (ra.monoF ?_))
      · exact sf.trans (same_upd (wi.un Da _ uD).2.1)
      · exact same_upd (wi.un Da _ uD).2.1
    | true =>
      have m0 := (wi.un Da _ uD).2.2
      exact k _ _ (hn Da m0) ⟨Fi.f, F1.u⟩ _ _ (s1.trans ⟨sf, rfl⟩) (wi.unhideM uD lx ra su u0) (.ref Da)
  | some d =>
    have hlt := (List.getElem?_eq_some_iff.mp hd).1
    rw [drop_some hd] at hl
    obtain ⟨ck, hn⟩ := zck_out hl
    obtain ⟨go, yl⟩ := (itz Fi H2 Mi sf wi ck).1 i d hd
    refine .inr ⟨go, _, fun H' hN => ⟨ds.length - (i + 1), by omega, by omega, hN⟩, fun x H3 hy => ?_⟩
    obtain ⟨F3, s3, w3, rx⟩ := yl x H3 hy
    have e3 : RepE X.K X.mg F3 (wipe s vs) (zwipe rr vs) := by
      have q := e1.wipe vs
      exact ⟨q.1, fun j d' z => let ⟨v, a, b⟩ := q.2 j d' z; ⟨v, a, b.monoF (sf.trans s3.f)⟩⟩
    have g3 : Ge F0 F3 := ⟨(s0.trans s1).f.trans (sf.trans s3.f), by rw [s3.u]; exact (s0.trans s1).u.trans su⟩
    have u3 : F3.u = upd F1.u Da (.lst xs) := s3.u.trans eu
    refine ok F3 H3 Mi x d _ _ _ _ w3 rx e3 hn fun r4 s4 h4 e4 hw => ⟨hw.trans wipe_wipe, F3, r4, Mi, _, g3, w3, e4, h4, fun b M5 h5 F5 H5 s5 w5 => ?_⟩
    cases b with
    | false =>
      rw [if_neg Bool.false_ne_true]
      exact ⟨F5, M5, acc, xs, (sf.trans s3.f).trans s5.f, s5.u.trans u3, w5, ra.monoF (s3.trans s5).f, by omega, h5⟩
    | true =>
      rw [if_pos rfl]
      refine ⟨F5, r4, M5, _, g3.trans s5, w5, e4.mono s5, h5, fun y M6 h6 F6 H6 yv s6 w6 r6 => ?_⟩
      have u6 : F6.u = upd F1.u Da (.lst xs) := (s6.u.trans s5.u).trans u3
      have uD6 : F6.u Da = some (.lst xs) := by rw [u6]; exact upd_same
      refine ⟨xs, (w6.un Da _ uD6).1, by rw [ra.length]; omega, ⟨F6.f, upd F6.u Da (.lst (xs ++ [yv]))⟩, M6, acc ++ [y], xs ++ [yv], ((sf.trans s3.f).trans s5.f).trans s6.f, by rw [u6, upd_upd], w6.rehide uD6, ?_, by rw [List.length_append]; show acc.length + 1 ≤ i + 1; omega, h6⟩
      exact ((ra.monoF (F' := F6) ((s3.trans s5).trans s6).f).append (.cons r6 .nil)).monoF (F := F6) (F' := ⟨F6.f, upd F6.u Da (.lst (xs ++ [yv]))⟩) (Same.refl _)
theorem ze_lc (nb : Bool) (hc : X.calm = true) (hN : X.N.Nodup) (hi : PI X tg iter (upI X.K X.mg F0 zi)) (ok : BlkOk X.N X.env.scope scope own) (okg : TgOk X.K X.mg g zg (own.map (·.2)))
    (hg : ∀ (s : Shared) (H : Hp) (C : Addr) (cl : List (Str × Addr)) (fp : List Addr), PG (X.blk s H scope (compEnvC scope cl C X.env) fp) tg g) (ht : ∀ (s : Shared) (H : Hp) (C : Addr) (cl : List (Str × Addr)) (fp : List Addr), PTs (X.blk s H scope (compEnvC scope cl C X.env) fp) ifs (UT X F0 tt))
    (he : ∀ (s : Shared) (H : Hp) (C : Addr) (cl : List (Str × Addr)) (fp : List Addr), PE (X.blk s H scope (compEnvC scope cl C X.env) fp) elt (UE X F0 te)) (hs : ∀ x, foldedSetIterable iter X.env x = pure x := by intro _; rfl) :
    PE X (.ListComp elt [⟨tg, iter, ifs, 0⟩] scope pos) (UE X F0 (zLc nb zi zg tt te (own.map (·.2)))) := pe_imp (pe_lc hc hN hi ok hg ht he hs) fun s H Q h => lc_low nb okg h
theorem zs_setLc (nb : Bool) {i : Nat} {y : Str} {py spos : Pos} (hc : X.calm = true) (hN : X.N.Nodup) (hsw : swapsWith (.ListComp elt [⟨tg, iter, ifs, 0⟩] scope pos) (some (.Name y py)) spos.line X.env = pure true) (hi : PI X tg iter (upI X.K X.mg F0 zi)) (ok : BlkOk X.N X.env.scope scope own) (okg : TgOk X.K X.mg g zg (own.map (·.2)))
    (hg : ∀ (s : Shared) (H : Hp) (C : Addr) (cl : List (Str × Addr)) (fp : List Addr), PG (X.blk s H scope (compEnvC scope cl C X.env) fp) tg g) (ht : ∀ (s : Shared) (H : Hp) (C : Addr) (cl : List (Str × Addr)) (fp : List Addr), PTs (X.blk s H scope (compEnvC scope cl C X.env) fp) ifs (UT X F0 tt))
    (he : ∀ (s : Shared) (H : Hp) (C : Addr) (cl : List (Str × Addr)) (fp : List Addr), PE (X.blk s H scope (compEnvC scope cl C X.env) fp) elt (UE X F0 te)) (hy : X.N[i]? = some y := by rfl) (hyl : X.env.scope.names.lookup y = some .local := by rfl) (hs : ∀ x, foldedSetIterable iter X.env x = pure x := by intro _; rfl) :
    PS X (.Assign [.Name y py] (.ListComp elt [⟨tg, iter, ifs, 0⟩] scope pos) spos) (US X F0 (zAsg (zLc nb zi zg tt te (own.map (·.2))) (zgName i))) := ps_imp (ps_setLc (i := i) hc hN hy hyl hsw hi ok hg ht he hs) fun E s H h => by
  obtain ⟨F, rr, M, Z, s0, w, e, h, k⟩ := h
  exact lc_low nb okg ⟨F, rr, M, _, s0, w, e, h, fun d M1 h1 F1 H1 v s1 w1 r1 => k.nx _ M1 h1 F1 _ H1 s1 w1 ((e.mono s1).set i r1)⟩
end
end Zl

/-! Zl6: calls, defs, raising, built-in functions -/
namespace Zl
open PySem L2
/-! ### ghost steps -/
mutual
def frzD (p : Addr) (es : List D) : D → D
  | .lst ds => .lst (frzDs p es ds)
  | .tup ds => .tup (frzDs p es ds)
  | .ref a => if a = p then .lst es else .ref a
  | .non => .non
  | .bl b => .bl b
  | .int i => .int i
  | .str x => .str x
  | .dct => .dct
  | .exc c => .exc c
  | .scr ns => .scr ns
def frzDs (p : Addr) (es : List D) : List D → List D
  | [] => []
  | d :: r => frzD p es d :: frzDs p es r
end
inductive Gh : Mh → D → Mh → D → Prop
  | refl {M : Mh} {d : D} : Gh M d M d
  | drop {M M' : Mh} {d : D} : (∀ a m, M' a = some m → M a = some m) → Gh M d M' d
  | frz {M : Mh} {d : D} {p : Addr} {ds : List D} : M p = some (.lst ds) → Gh M d (mdel M p) (frzD p ds d)
  | trans {M M1 M2 : Mh} {d d1 d2 : D} : Gh M d M1 d1 → Gh M1 d1 M2 d2 → Gh M d M2 d2
/-- .. on the slots -/
inductive GhE : Mh → Env → Mh → Env → Prop
  | refl {M : Mh} {r : Env} : GhE M r M r
  | drop {M M' : Mh} {r : Env} : (∀ a m, M' a = some m → M a = some m) → GhE M r M' r
  | frz {M : Mh} {r : Env} {p : Addr} {ds : List D} : M p = some (.lst ds) → GhE M r (mdel M p) (r.map fun o => o.map (frzD p ds))
  | trans {M M1 M2 : Mh} {r r1 r2 : Env} : GhE M r M1 r1 → GhE M1 r1 M2 r2 → GhE M r M2 r2
/-- fewer things -/
def Less (M' M : Mh) : Prop := ∀ a m, M' a = some m → M a = some m
theorem Less.refl (M : Mh) : Less M M := fun _ _ h => h
section
variable {K : PySem.W.Frag} {mg : Str → Option Value} {F F' : Fz} {H : Hp}
mutual
theorem Rep.frz {p : Addr} {es : List D} (s : Le F F') (q : Rep K mg F' (.ref p) (.lst es)) : ∀ {v : V} {d : D}, Rep K mg F v d → Rep K mg F' v (frzD p es d)
  | _, _, .non => .non
  | _, _, .bl b => .bl b
  | _, _, .int i => .int i
  | _, _, .str h h' => .str h h'
  | _, _, .lst h l r => .lst (s.f _ _ h) l (RepL.frz s q r)
  | _, _, .tup h l r => .tup (same_sqT s.f h) l (RepL.frz s q r)
  | _, _, .dct h => .dct (s.f _ _ h)
  | _, _, .exc h h' h2 => .exc h (s.f _ _ h') fun dx z => let ⟨fs, q⟩ := h2 dx z; ⟨fs, s.f _ _ q⟩
  | _, _, .scr h l => .scr (s.f.seq h) l
  | _, _, .ref a => by
    unfold frzD
    by_cases e : a = p
    · rw [if_pos e, e]; exact q
    · rw [if_neg e]; exact .ref a
theorem RepL.frz {p : Addr} {es : List D} (s : Le F F') (q : Rep K mg F' (.ref p) (.lst es)) : ∀ {vs : List V} {ds : List D}, RepL K mg F vs ds → RepL K mg F' vs (frzDs p es ds)
  | _, _, .nil => .nil
  | _, _, .cons h t => .cons (Rep.frz s q h) (RepL.frz s q t)
end
theorem Gh.sound {M M' : Mh} {d d' : D} (g : Gh M d M' d') : ∀ {F : Fz} {v : V}, Wd K mg F H M → Rep K mg F v d → ∃ F', Le F F' ∧ Wd K mg F' H M' ∧ Rep K mg F' v d' := by
  induction g with
  | refl => intro F v w r; exact ⟨F, Le.refl _, w, r⟩
  | drop h => intro F v w r; exact ⟨F, Le.refl _, w.drop h, r⟩
  | frz h =>
    intro F v w r
    obtain ⟨F', s, w', q⟩ := w.freeze h
    exact ⟨F', s, w', Rep.frz s q r⟩
  | trans _ _ ih1 ih2 =>
    intro F v w r
    obtain ⟨F1, s1, w1, r1⟩ := ih1 w r
    obtain ⟨F2, s2, w2, r2⟩ := ih2 w1 r1
    exact ⟨F2, s1.trans s2, w2, r2⟩
theorem gt_map (f : D → D) : ∀ (r : Env) (i : Nat), gt (r.map fun o => o.map f) i = (gt r i).map f
  | [], _ => rfl
  | _ :: _, 0 => rfl
  | _ :: r, i + 1 => gt_map f r i
theorem GhE.sound {M M' : Mh} {r r' : Env} (g : GhE M r M' r') : ∀ {F : Fz} {s : St}, Wd K mg F H M → RepE K mg F s r → ∃ F', Le F F' ∧ Wd K mg F' H M' ∧ RepE K mg F' s r' := by
  induction g with
  | refl => intro F v w r; exact ⟨F, Le.refl _, w, r⟩
  | drop h => intro F v w r; exact ⟨F, Le.refl _, w.drop h, r⟩
  | frz h =>
    intro F v w r
    obtain ⟨F', s, w', q⟩ := w.freeze h
    refine ⟨F', s, w', by rw [r.1, List.length_map], fun i d e => ?_⟩
    rw [gt_map] at e
    obtain ⟨d0, e0, e1⟩ := Option.map_eq_some_iff.mp e
    obtain ⟨x, h1, h2⟩ := r.2 i d0 e0
    exact ⟨x, h1, by rw [← e1]; exact Rep.frz s q h2⟩
  | trans _ _ ih1 ih2 =>
    intro F v w r
    obtain ⟨F1, s1, w1, r1⟩ := ih1 w r
    obtain ⟨F2, s2, w2, r2⟩ := ih2 w1 r1
    exact ⟨F2, s1.trans s2, w2, r2⟩
end
/-- a ghost step ahead of a statement -/
def zGh (t : ZS) : ZS := fun E r M => ∃ r' M', GhE M r M' r' ∧ t E r' M'
theorem zs_gh {X : Cx} {F0 : Fz} {st1 : Stmt} {t : ZS} (h : PS X st1 (US X F0 t)) : PS X st1 (US X F0 (zGh t)) := ps_imp h fun E s H h => by
  obtain ⟨F, rr, M, Z, s0, w, e, ⟨r', M', g, h⟩, k⟩ := h
  obtain ⟨F', s1, w', e'⟩ := g.sound w e
  exact ⟨F', r', M', Z, s0.trans s1, w', e', h, k.mono s1⟩
/-! ### promises -/
/-- an exception's class and fields -/
def RepX (K : PySem.W.Frag) (mg : Str → Option Value) (F : Fz) (cls : Value) (d : Option Addr) (c : Str) (fs : List (Str × D)) : Prop := ∃ C, mg c = some (.ref C) ∧ cls = .ref C ∧
  ((fs = [] ∧ d = none) ∨ ∃ dx vs, fs ≠ [] ∧ d = some dx ∧ F.f dx = some (.xd ((fs.map (·.1)).zip vs)) ∧ RepL K mg F vs (fs.map (·.2)))
theorem RepX.monoF {K : PySem.W.Frag} {mg : Str → Option Value} {F F' : Fz} {cls : Value} {d : Option Addr} {c : Str} {fs : List (Str × D)} (s : Same F.f F'.f) (h : RepX K mg F cls d c fs) : RepX K mg F' cls d c fs := by
  obtain ⟨C, h1, h2, h3⟩ := h
  refine ⟨C, h1, h2, ?_⟩
  rcases h3 with h3 | ⟨dx, vs, z, a, b, c⟩
  · exact .inl h3
  · exact .inr ⟨dx, vs, z, a, s _ _ b, c.monoF s⟩
def Kx (K : PySem.W.Frag) (mg : Str → Option Value) (F : Fz) (RE : ZX) (E : XK) : Prop := ∀ c fs M', RE c fs M' → ∀ F' H' cls d, Le F F' → Wd K mg F' H' M' → RepX K mg F' cls d c fs → E cls d H'
def liftSp (K : PySem.W.Frag) (mg : Str → Option Value) (zs : ZSp) : Sp := fun vs H Q E => ∃ (F : Fz) (M : Mh) (ds : List D) (R : QZ) (RE : ZX), Wd K mg F H M ∧ RepL K mg F vs ds ∧ zs ds M R RE ∧ Kq K mg F R Q ∧ Kx K mg F RE E
/-- a wish and its reading -/
def Wok (K : PySem.W.Frag) (mg : Str → Option Value) (F0 : Fz) (W : WX) (zE : ZW) : Prop := ∀ c fs r M, zE c fs r M → ∀ F s H cls d, Ge F0 F → Wd K mg F H M → RepE K mg F s r → RepX K mg F cls d c fs → W cls d s H
theorem wok_def {K : PySem.W.Frag} {mg : Str → Option Value} {F0 : Fz} {RE : ZX} {E : XK} (k : Kx K mg F0 RE E) : Wok K mg F0 (fun cls d _ H => E cls d H) (fun c fs _ M => ∃ M', Less M' M ∧ RE c fs M') := by
  rintro c fs r M ⟨M', l, h⟩ F s H cls d g w e rx
  exact k c fs M' h ⟨F.f, F0.u⟩ H cls d ⟨g.f, rfl⟩ ((w.drop l).less g.u) (rx.monoF (F := F) (F' := ⟨F.f, F0.u⟩) (Same.refl _))
def zNoX : ZW := fun _ _ _ _ => False
theorem wok0 {K : PySem.W.Frag} {mg : Str → Option Value} {F0 : Fz} {W : WX} : Wok K mg F0 W zNoX := fun _ _ _ _ h => h.elim
section
variable {X : Cx} {F0 : Fz}
def zCall (zs : ZSp) (zE : ZW) (t : ZA) : ZE := fun r M Q => t r M fun ds M1 => zs ds M1 Q fun c fs M' => zE c fs r M'
theorem ze_call {f : Addr} {fd : FuncData} {ps : List Str} {k : Nat} {zs : ZSp} {zE : ZW} {W : WX} {x : Str} {a : Expr} {es : List Expr} {t : ZA} {p pos : Pos} (FO : FnOk X.prog X.w X.K X.mg X.base (L2.CX X.prog X.w) k f fd ps (liftSp X.K X.mg zs)) (hr : Room k X.A) (hm : X.mg x = some (.ref f))
    (hk : PySem.W.keepIn X.K (.ref f) = true) (hb : Binds X.K fd ps []) (tk : Takes X W) (wk : Wok X.K X.mg F0 W zE) (ha : PA X (a :: es) (UA X F0 t)) (hg : Gl X x := by rfl) (hdb : (x == ("__debug__" : Str)) = false := by decide)
    (he : starEach (a :: es) X.env = (false, eval a X.env) :: starEach es X.env := by rfl) (hpl : (backTo pos (starEach es X.env)).any (·.1) = false := by rfl) : PE X (.Call (.Name x p) (a :: es) [] pos) (UE X F0 (zCall zs zE t)) :=
  pe_imp (pe_callS FO hr hg hm hk hb (fun s => passAt tk s) ha hdb he hpl) fun s H Q h => by
  obtain ⟨F, rr, M, R, s0, w, e, h, k⟩ := h
  refine ⟨F, rr, M, _, s0, w, e, h, fun ds M1 h1 F1 H1 vs s1 w1 r1 => ⟨F1, M1, ds, R, _, w1, r1, h1, k.mono s1, fun c fs M' hx F' H' cls d s2 w2 rx => ?_⟩⟩
  exact wk c fs rr M' hx F' s H' cls d (s0.trans (s1.trans s2)) w2 (e.mono (s1.trans s2)) rx
theorem ze_call0 {f : Addr} {fd : FuncData} {ps : List Str} {k : Nat} {zs : ZSp} {zE : ZW} {x : Str} {p pos : Pos} (FO : FnOk X.prog X.w X.K X.mg X.base (L2.CX X.prog X.w) k f fd ps (liftSp X.K X.mg zs)) (hr : Room k X.A) (hm : X.mg x = some (.ref f))
    (hk : PySem.W.keepIn X.K (.ref f) = true) (hb : Binds X.K fd ps []) (hg : Gl X x := by rfl) (hdb : (x == ("__debug__" : Str)) = false := by decide) : PE X (.Call (.Name x p) [] [] pos) (UE X F0 (zCall zs zNoX zNil)) :=
  pe_imp (pe_call0 FO hr hg hm hk hb .nil passL hdb) fun s H Q h => by
  obtain ⟨F, rr, M, R, s0, w, e, h, k⟩ := h
  exact ⟨F, M, [], R, _, w, .nil, h, k, fun c fs M' hx => hx.elim⟩
end
/-! ### defs -/
def zEnd (R : QZ) : ZEnds := { nx := fun _ M => ∃ M', Less M' M ∧ R .non M', rt := fun d M => ∃ d' M', Gh M d M' d' ∧ R d' M' }
def zEnd0 (R : QZ) : ZEnds := { nx := fun _ M => R .non M, rt := R }
section
variable {P : Program} {w : World} {K : PySem.W.Frag} {mg : Str → Option Value} {base : Heap}
theorem gt_rep : ∀ (n i : Nat), gt (List.replicate n none) i = none
  | 0, _ => rfl
  | _ + 1, 0 => rfl
  | n + 1, i + 1 => gt_rep n i
theorem RepE.cons {F : Fz} {s : St} {r : Env} {v : V} {d : D} (e : RepE K mg F s r) (h : Rep K mg F v d) : RepE K mg F (some v :: s) (some d :: r) := by
  refine ⟨congrArg (· + 1) e.1, fun i x q => ?_⟩
  cases i with
  | zero => cases q; exact ⟨v, rfl, h⟩
  | succ i =>
    obtain ⟨u, h1, h2⟩ := e.2 i x q
    exact ⟨u, h1, h2⟩
theorem repE_start {F : Fz} (n : Nat) : ∀ {vs : List V} {ds : List D}, RepL K mg F vs ds → RepE K mg F (vs.map some ++ List.replicate n none) (ds.map some ++ List.replicate n none)
  | _, _, .nil => ⟨by simp, fun i d e => by
    have e' : gt (List.replicate n none) i = some d := e
    rw [gt_rep] at e'; cases e'⟩
  | _, _, .cons h t => (repE_start n t).cons h
theorem wok_def0 {F0 : Fz} {RE : ZX} {E : XK} (k : Kx K mg F0 RE E) : Wok K mg F0 (fun cls d _ H => E cls d H) (fun c fs _ M => RE c fs M) := by
  intro c fs r M h F s H cls d g w e rx
  exact k c fs M h ⟨F.f, F0.u⟩ H cls d ⟨g.f, rfl⟩ (w.less g.u) (rx.monoF (F := F) (F' := ⟨F.f, F0.u⟩) (Same.refl _))
/-- g: with ghost steps at the ends -/
def enB (g : Bool) (R : QZ) : ZEnds := match g with | true => zEnd R | false => zEnd0 R
def exB (g : Bool) (RE : ZX) : ZW := match g with | true => fun c fs _ M => ∃ M', Less M' M ∧ RE c fs M' | false => fun c fs _ M => RE c fs M
def zFn (g : Bool) (zb : ZW → ZS) (r : Env) (M : Mh) (Q : QZ) (E : ZX) : Prop := zb (exB g E) (enB g Q) r M
/-- THE RULE for a def: its body's derivation; the reading runs from the arguments -/
theorem z_ok (g : Bool) {x qual : Str} {st1 : Stmt} {f : Addr} {fd : FuncData} {N ps : List Str} {k n : Nat} {zs : ZSp} {zb : ZW → ZS} (FF : Fun K x qual st1 f fd) (S : FnScope N ps (defScope st1)) (hn : N.length - ps.length = n)
    (hz : ∀ ds M R RE, zs ds M R RE → ds.length = ps.length ∧ zFn g zb (ds.map some ++ List.replicate n none) M R RE)
    (hbody : ∀ (cdv : Value) (A : Around) (outer : List PySem.Env) (s : Shared) (H : Hp) (E : XK) (F0 : Fz) (zE : ZW), Room k (A.deeper (PyProof.Rows.envOfC qual (defScope st1) s.heap.objs.size f cdv)) → Wok K mg F0 (fun cls d _ H => E cls d H) zE →
      PSs (cxOf (L2.CX P w) P w K mg base N qual (defScope st1) f cdv A outer s H E) (defBody st1) (upS K mg F0 (zb zE))) : FnOk P w K mg base (L2.CX P w) (k + 1) f fd ps (liftSp K mg zs) := by
  refine FF.okX S (fun vs H Q E h => ?_) fun cdv A outer s H vs Q E hr h => ?_
  · obtain ⟨F, M, ds, R, RE, w, rl, h, _⟩ := h
    rw [rl.length]; exact (hz ds M R RE h).1
  · obtain ⟨F, M, ds, R, RE, w, rl, h, kq, kx⟩ := h
    obtain ⟨hl, hb⟩ := hz ds M R RE h
    have wk : Wok K mg F (fun cls d _ H => E cls d H) (exB g RE) := by
      cases g with
      | true => exact wok_def kx
      | false => exact wok_def0 kx
    refine ⟨_, hbody cdv A outer s H E F _ hr wk, F, _, M, enB g R, Ge.refl _, w, ?_, hb, ?_⟩
    · have q := repE_start (K := K) (mg := mg) n rl
      have e : L2.start N vs = vs.map some ++ List.replicate n none := by
        show vs.map some ++ List.replicate (N.length - vs.length) none = _
        rw [rl.length, hl, hn]
      rw [e]; exact q
    · cases g with
      | true =>
        refine ⟨fun r M' ⟨M2, l, h⟩ F' s' H' s1 w1 e1 => kq _ _ h F' H' _ s1 (w1.drop l) .non, fun d M' ⟨d', M2, g, h⟩ F' H' v s1 w1 r1 => ?_, fun _ _ h => h.elim, fun _ _ h => h.elim⟩
        obtain ⟨F2, s2, w2, r2⟩ := g.sound w1 r1
        exact kq _ _ h F2 H' v (s1.trans s2) w2 r2
      | false => exact ⟨fun r M' h F' s' H' s1 w1 e1 => kq _ _ h F' H' _ s1 w1 .non, kq, fun _ _ h => h.elim, fun _ _ h => h.elim⟩
end
/-! ### raising -/
section
variable {X : Cx} {F0 : Fz}
def zRaise (zE : ZW) (c : Str) : ZS := fun _ r M => zE c [] r M
theorem zs_raise {W : WX} {zE : ZW} {C : Addr} {bmB : List Value} {B newId initId : String} {x m : Str} {j : Nat} {p p2 pos pos2 : Pos} (hc : X.calm = true) (tk : Takes X W) (wk : Wok X.K X.mg F0 W zE) (FB : ExcBaseFacts B newId initId bmB) (q : PySem.W.excIn X.K C bmB newId = true) (gC : X.mg x = some (.ref C))
    (kC : PySem.W.keepIn X.K (.ref C) = true) (rz : Raises X (.ref C)) (hg : Gl X x := by rfl) (hdb : (x == ("__debug__" : Str)) = false := by decide) : PS X (.Raise (some (.Call (.Name x p) [.Constant (.str m) j p2] [] pos)) none pos2) (US X F0 (zRaise zE x)) :=
  ps_imp (ps_raise hc tk (pmk_own FB q gC kC rz hg hdb)) fun E s H h => by
  obtain ⟨F, rr, M, Z, s0, w, e, h, k⟩ := h
  exact wk x [] rr M h F s H _ _ s0 w e ⟨C, gC, rfl, .inl ⟨rfl, rfl⟩⟩
/-! ### built-in functions -/
def zCB (f : List D → Mh → QZ → Prop) (t : ZA) : ZE := fun r M Q => t r M fun ds M1 => f ds M1 Q
theorem up_cb {K : PySem.W.Frag} {mg : Str → Option Value} {r : List V → Hp → VK → Prop} {f : List D → Mh → QZ → Prop} {t : ZA} (sA : SndA K mg r f) {s : St} {H : Hp} {Q : VK} (h : upE K mg F0 (zCB f t) s H Q) : tCB r (upA K mg F0 t) s H Q := by
  obtain ⟨F, rr, M, R, s0, w, e, h, k⟩ := h
  exact ⟨F, rr, M, _, s0, w, e, h, fun ds M1 h1 F1 H1 vs s1 w1 r1 => sA F1 H1 M1 vs ds Q R w1 r1 h1 (k.mono s1)⟩
theorem ze_cb {r : List V → Hp → VK → Prop} {f : List D → Mh → QZ → Prop} {id : String} {x : Str} {a : Expr} {es : List Expr} {t : ZA} {p pos : Pos} (hc : CallR X (.builtin id) r) (sA : SndA X.K X.mg r f) (hm : X.mg x = none) (hv : bootBuiltins x = some (.builtin id)) (ha : PA X (a :: es) (UA X F0 t)) (hg : Gl X x := by rfl)
    (hn : x ≠ "__name__" := by decide) (hdb : (x == ("__debug__" : Str)) = false := by decide) (he : starEach (a :: es) X.env = (false, eval a X.env) :: starEach es X.env := by rfl) (hpl : (backTo pos (starEach es X.env)).any (·.1) = false := by rfl) : PE X (.Call (.Name x p) (a :: es) [] pos) (UE X F0 (zCB f t)) :=
  pe_imp (pe_callB hc hg hm hv ha hn hdb he hpl) fun _ _ _ h => up_cb sA h
theorem ze_ct {r : List V → Hp → VK → Prop} {f : List D → Mh → QZ → Prop} {T : String} {x : Str} {a : Expr} {es : List Expr} {t : ZA} {p pos : Pos} (hc : CallR X (.type T) r) (sA : SndA X.K X.mg r f) (hm : X.mg x = none) (hv : bootBuiltins x = some (.type T)) (ha : PA X (a :: es) (UA X F0 t)) (hg : Gl X x := by rfl)
    (hn : x ≠ "__name__" := by decide) (hdb : (x == ("__debug__" : Str)) = false := by decide) (he : starEach (a :: es) X.env = (false, eval a X.env) :: starEach es X.env := by rfl) (hpl : (backTo pos (starEach es X.env)).any (·.1) = false := by rfl) : PE X (.Call (.Name x p) (a :: es) [] pos) (UE X F0 (zCB f t)) :=
  pe_imp (pe_callTy hc hg hm hv ha hn hdb he hpl) fun _ _ _ h => up_cb sA h
end
section
variable {K : PySem.W.Frag} {mg : Str → Option Value}
def dLen (ds : List D) (M : Mh) (Q : QZ) : Prop := match ds with
  | [.str s] => Q (.int s.length) M
  | [x] => zLT M x fun l => Q (.int l.length) M
  | _ => False
theorem snd_len : SndA K mg (fun xs H Q => ∃ x n, xs = [x] ∧ LenV K x H n ∧ Q (.int n) H) dLen := by
  intro F H M xs ds Q R w rl h k
  cases rl with
  | nil => exact h.elim
  | cons r1 rl =>
    cases rl with
    | cons _ _ => exfalso; revert h; unfold dLen; split <;> first | (rename_i e; cases e) | exact id
    | nil =>
      rename_i x d
      have gen : (zLT M d fun l => R (.int l.length) M) → ∃ y n, [x] = [y] ∧ LenV K y H n ∧ Q (.int n) H := fun h => by
        obtain ⟨a, vs, es, rfl, e, l, rl, h⟩ := zLT_out w r1 h
        refine ⟨_, vs.length, rfl, ?_, ?_⟩
        · rcases e with e | e
          · exact .inl ⟨vs, e, rfl⟩
          · exact .inr ⟨vs, e, rfl⟩
        · rw [rl.length]; exact k _ _ h _ _ _ (Le.refl F) w (.int _)
      cases d with
      | str s =>
        cases r1 with
        | str o1 o2 => exact ⟨_, s.length, rfl, ⟨o2, rfl⟩, k _ _ h _ _ _ (Le.refl F) w (.int _)⟩
      | _ => exact gen h
/-! isinstance -/
def tyD (M : Mh) (d : D) : Option String := match d with
  | .non => some "NoneType"
  | .bl _ => some "bool"
  | .int _ => some "int"
  | .str _ => some "str"
  | .lst _ => some "list"
  | .tup _ => some "tuple"
  | .dct => some "dict"
  | .ref p => (match M p with | some (.lst _) => some "list" | _ => none)
  | _ => none
def isiB (t T : String) : Bool := t == T || (t == "bool" && T == "int")
def dIsi (T : String) (x : D) (M : Mh) (Q : QZ) : Prop := match tyD M x with
  | some t => Q (.bl (isiB t T)) M
  | none => False
theorem tyX_of {F : Fz} {H : Hp} {M : Mh} {v : V} {d : D} {t : String} (w : Wd K mg F H M) (r : Rep K mg F v d) (h : tyD M d = some t) : TyX K H v (.type t) ∧ t ∈ ["NoneType", "bool", "int", "str", "list", "tuple", "dict"] := by
  cases r with
  | non => cases h; exact ⟨.base .non, by decide⟩
  | bl b => cases h; exact ⟨.base (.bl b), by decide⟩
  | int i => cases h; exact ⟨.base (.int i), by decide⟩
  | str _ _ => cases h; exact ⟨.base (.str _), by decide⟩
  | lst e _ _ => cases h; exact ⟨.base (.lst (w.sub _ _ e)), by decide⟩
  | tup e _ _ =>
    cases h
    refine ⟨?_, by decide⟩
    rcases same_sqT w.same e with (e | ⟨o, e⟩) | ⟨o, its, n, e, c, _⟩
    · exact .base (.tup e)
    · exact .fTuple e
    · exact .kTuple e c
  | dct e => cases h; exact ⟨.base (.dK (w.sub _ _ e)), by decide⟩
  | exc _ _ _ => cases h
  | scr _ _ => cases h
  | ref p =>
    have h' : (match M p with | some (.lst _) => some "list" | _ => none) = some t := h
    cases e : M p with
    | none => rw [e] at h'; cases h'
    | some m =>
      cases m with
      | lst ds =>
        rw [e] at h'; cases h'
        obtain ⟨_, vs, hv, _⟩ := w.mu p _ e
        exact ⟨.base (.lst hv), by decide⟩
      | ins _ _ => rw [e] at h'; cases h'
      | town => rw [e] at h'; cases h'
end
section
variable {X : Cx} {F0 : Fz} {a : Expr} {fa : ZE} {p p2 pos : Pos}
theorem ze_isi {x : Str} {T : String} (ha : PE X a (UE X F0 fa)) (hm : X.mg "isinstance" = none) (hm2 : X.mg x = none) (hv2 : bootBuiltins x = some (.type T)) (hk : ["NoneType", "bool", "int", "str", "list", "tuple", "dict"].all (fun t => kitB t T == some (isiB t T)) = true := by decide +kernel)
    (hg : Gl X "isinstance" := by rfl) (hg2 : Gl X x := by rfl) (hn2 : x ≠ "__name__" := by decide) (hd2 : (x == ("__debug__" : Str)) = false := by decide)
    (he : starEach [a, .Name x p2] X.env = (false, eval a X.env) :: starEach [.Name x p2] X.env := by rfl) (he2 : starEach [.Name x p2] X.env = (false, eval (.Name x p2) X.env) :: starEach [] X.env := by rfl) (hpl : (backTo pos (starEach [.Name x p2] X.env)).any (·.1) = false := by rfl) :
    PE X (.Call (.Name "isinstance" p) [a, .Name x p2] [] pos) (UE X F0 (z1 (dIsi T) fa)) := by
  refine pe_imp (pe_callB call_isi hg hm (by decide +kernel) (pa_cons ha (pa_cons (pe_bltn (v := .ty T) hg2 hm2 hv2 rfl hn2 hd2) pa_nil he2) he) (by decide) (by decide) he hpl) fun s H Q h => ?_
  obtain ⟨F, rr, M, R, s0, w, e, h, k⟩ := h
  refine ⟨F, rr, M, _, s0, w, e, h, fun d M1 h1 F1 H1 v s1 w1 r1 => ?_⟩
  unfold dIsi at h1
  cases q : tyD M1 d with
  | none => rw [q] at h1; exact h1.elim
  | some t =>
    rw [q] at h1
    obtain ⟨tx, tm⟩ := tyX_of w1 r1 q
    refine ⟨v, .ty T, .type t, .type T, isiB t T, rfl, .ty T, tx, kit_ty ?_, k _ _ h1 _ _ _ s1 w1 (.bl _)⟩
    exact beq_iff_eq.mp (List.all_eq_true.mp hk t tm)
end
section
variable {K : PySem.W.Frag} {mg : Str → Option Value}
def dSum (ds : List D) (M : Mh) (Q : QZ) : Prop := match ds with
  | [x] => zL M x fun l => ∃ ns : List Int, l = ns.map D.int ∧ Q (.int ns.sum) M
  | _ => False
theorem snd_sum : SndA K mg (rSum K) dSum := by
  intro F H M xs ds Q R w rl h k
  unfold dSum at h
  split at h
  · cases rl with
    | cons r1 rl =>
      cases rl
      obtain ⟨a, vs, es, rfl, e, l, rl, ns, rfl, h⟩ := zL_out w r1 h
      refine ⟨a, ns, rfl, ?_, k _ _ h _ _ _ (Le.refl F) w (.int _)⟩
      rw [← rl.ints_of]; exact SqL.of e
  · exact h.elim
def dAll (ds : List D) (M : Mh) (Q : QZ) : Prop := match ds with
  | [x] => zL M x fun l => ∃ bs : List Bool, l = bs.map D.bl ∧ Q (.bl (bs.all id)) M
  | _ => False
theorem snd_all : SndA K mg (rAll K) dAll := by
  intro F H M xs ds Q R w rl h k
  unfold dAll at h
  split at h
  · cases rl with
    | cons r1 rl =>
      cases rl
      obtain ⟨a, vs, es, rfl, e, l, rl, ns, rfl, h⟩ := zL_out w r1 h
      refine ⟨a, ns, rfl, ?_, k _ _ h _ _ _ (Le.refl F) w (.bl _)⟩
      rw [← rl.bls_of]; exact SqL.of e
  · exact h.elim
def dMaxL (ds : List D) (M : Mh) (Q : QZ) : Prop := match ds with
  | [.int i, .int j] => Q (.int (if j > i then j else i)) M
  | [x] => zL M x fun l => ∃ ns : List Int, l = ns.map D.int ∧ 0 < ns.length ∧ ∀ m, m ∈ ns → (∀ y, y ∈ ns → y ≤ m) → Q (.int m) M
  | _ => False
def dMinL (ds : List D) (M : Mh) (Q : QZ) : Prop := match ds with
  | [.int i, .int j] => Q (.int (if j < i then j else i)) M
  | [x] => zL M x fun l => ∃ ns : List Int, l = ns.map D.int ∧ 0 < ns.length ∧ ∀ m, m ∈ ns → (∀ y, y ∈ ns → m ≤ y) → Q (.int m) M
  | _ => False
theorem snd_max : SndA K mg (fun xs H Q => (∃ i j, xs = [.int i, .int j] ∧ Q (.int (if j > i then j else i)) H) ∨ rMax K xs H Q) dMaxL := by
  intro F H M xs ds Q R w rl h k
  unfold dMaxL at h
  split at h
  · cases rl with
    | cons r1 rl =>
      cases rl with
      | cons r2 rl => cases rl; cases r1; cases r2; exact .inl ⟨_, _, rfl, k _ _ h _ _ _ (Le.refl F) w (.int _)⟩
  · cases rl with
    | cons r1 rl =>
      cases rl
      obtain ⟨a, vs, es, rfl, e, l, rl, ns, rfl, h1, h⟩ := zL_out w r1 h
      refine .inr ⟨a, ns, rfl, ?_, h1, fun m hm hy => k _ _ (h m hm hy) _ _ _ (Le.refl F) w (.int _)⟩
      rw [← rl.ints_of]; exact SqL.of e
  · exact h.elim
theorem snd_min : SndA K mg (fun xs H Q => (∃ i j, xs = [.int i, .int j] ∧ Q (.int (if j < i then j else i)) H) ∨ rMin K xs H Q) dMinL := by
  intro F H M xs ds Q R w rl h k
  unfold dMinL at h
  split at h
  · cases rl with
    | cons r1 rl =>
      cases rl with
      | cons r2 rl => cases rl; cases r1; cases r2; exact .inl ⟨_, _, rfl, k _ _ h _ _ _ (Le.refl F) w (.int _)⟩
  · cases rl with
    | cons r1 rl =>
      cases rl
      obtain ⟨a, vs, es, rfl, e, l, rl, ns, rfl, h1, h⟩ := zL_out w r1 h
      refine .inr ⟨a, ns, rfl, ?_, h1, fun m hm hy => k _ _ (h m hm hy) _ _ _ (Le.refl F) w (.int _)⟩
      rw [← rl.ints_of]; exact SqL.of e
  · exact h.elim
/-- list(x) -/
def dList (b : Bool) (ds : List D) (M : Mh) (Q : QZ) : Prop := match ds with
  | [x] => zLT M x fun l => zNew b l M Q
  | _ => False
theorem snd_list (b : Bool) : SndA K mg (fun xs H Q => ∃ p ys, xs = [.ref p] ∧ (SqL K H p ys ∨ SqT K H p ys) ∧ ∀ l, H l = none → Q (.ref l) (upd H l (.lst ys))) (dList b) := by
  intro F H M xs ds Q R w rl h k
  unfold dList at h
  split at h
  · cases rl with
    | cons r1 rl =>
      cases rl
      obtain ⟨a, vs, es, rfl, e, l, rl, h⟩ := zLT_out w r1 h
      exact ⟨a, vs, rfl, e, zNew_out w l rl h k⟩
  · exact h.elim
/-- tuple(x) -/
def dTuple (ds : List D) (M : Mh) (Q : QZ) : Prop := match ds with
  | [x] => zLT M x fun l => Q (.tup l) M
  | _ => False
theorem snd_tuple : SndA K mg (fun xs H Q => ∃ p ys, xs = [.ref p] ∧ ((SqL K H p ys ∧ ∀ l, H l = none → Q (.ref l) (upd H l (.tup ys))) ∨ (SqT K H p ys ∧ Q (.ref p) H))) dTuple := by
  intro F H M xs ds Q R w rl h k
  unfold dTuple at h
  split at h
  · cases rl with
    | cons r1 rl =>
      cases rl
      rename_i x v
      have gen : ∀ {a : Addr} {vs : List V} {es : List D}, v = .ref a → SqL K H a vs → vs.length ≤ sizeLine → RepL K mg F vs es → R (.tup es) M → ∃ p ys, [v] = [V.ref p] ∧ ((SqL K H p ys ∧ ∀ l, H l = none → Q (.ref l) (upd H l (.tup ys))) ∨ (SqT K H p ys ∧ Q (.ref p) H)) :=
        fun {a vs es} e1 e2 l rl h => ⟨a, vs, by rw [e1], .inl ⟨e2, zTup_out w l rl h k⟩⟩
      cases x with
      | tup es =>
        cases r1 with
        | tup e l rl => exact ⟨_, _, rfl, .inr ⟨same_sqT w.same e, k _ _ h _ _ _ (Le.refl F) w (.tup e l rl)⟩⟩
      | lst es =>
        cases r1 with
        | lst e l rl => exact gen rfl (SqL.of (w.sub _ _ e)) l rl h
      | ref q =>
        obtain ⟨a, vs, es, e1, e2, l, rl, h⟩ := zL_out (d := .ref q) w r1 h
        exact gen e1 (SqL.of e2) l rl h
      | _ => exact h.elim
  · exact h.elim
def dDivmod (ds : List D) (M : Mh) (Q : QZ) : Prop := match ds with
  | [.int i, .int j] => CDiv i j ∧ Q (.tup [.int (i / j), .int (i % j)]) M
  | _ => False
theorem snd_divmod : SndA K mg (fun xs H Q => ∃ i j, xs = [.int i, .int j] ∧ CDiv i j ∧ ∀ p, H p = none → Q (.ref p) (upd H p (.tup [.int (i / j), .int (i % j)]))) dDivmod := by
  intro F H M xs ds Q R w rl h k
  unfold dDivmod at h
  split at h
  · cases rl with
    | cons r1 rl =>
      cases rl with
      | cons r2 rl =>
        cases rl; cases r1; cases r2
        exact ⟨_, _, rfl, h.1, zTup_out w (by show 2 ≤ sizeLine; decide) (.cons (.int _) (.cons (.int _) .nil)) h.2 k⟩
  · exact h.elim
def dAbs (ds : List D) (M : Mh) (Q : QZ) : Prop := match ds with
  | [.int i] => Q (.int (if i < 0 then -i else i)) M
  | _ => False
theorem snd_abs : SndA K mg (fun xs H Q => ∃ i, xs = [.int i] ∧ Q (.int (if i < 0 then -i else i)) H) dAbs := by
  intro F H M xs ds Q R w rl h k
  unfold dAbs at h
  split at h
  · cases rl with
    | cons r1 rl => cases rl; cases r1; exact ⟨_, rfl, k _ _ h _ _ _ (Le.refl F) w (.int _)⟩
  · exact h.elim
/-- sorted(x) of ints -/
def dSorted (b : Bool) (ds : List D) (M : Mh) (Q : QZ) : Prop := match ds with
  | [x] => zL M x fun l => ∃ ns : List Int, l = ns.map D.int ∧ ∀ ns' : List Int, ns'.Perm ns → ns'.Pairwise (· ≤ ·) → zNew b (ns'.map D.int) M Q
  | _ => False
theorem snd_sorted (b : Bool) : SndA K mg (rSortedI K) (dSorted b) := by
  intro F H M xs ds Q R w rl h k
  unfold dSorted at h
  split at h
  · cases rl with
    | cons r1 rl =>
      cases rl
      obtain ⟨a, vs, es, rfl, e, l, rl, ns, rfl, h⟩ := zL_out w r1 h
      have hv := rl.ints_of
      subst hv
      refine ⟨a, ns, rfl, SqL.of e, fun ns' p hp hs hn => zNew_out w ?_ (RepL.ints ns') (h ns' hp hs) k p hn⟩
      rw [List.length_map, hp.length_eq]; rw [List.length_map] at l; exact l
  · exact h.elim
end
/-! ### methods of lists -/
section
variable {X : Cx} {F0 : Fz} {o a : Expr} {fo : ZE} {t : ZA} {apos cpos : Pos}
def zApp (o : ZE) (t : ZA) : ZE := fun r M Q => o r M fun x M1 => match x with
  | .ref p => t r M1 fun ds M2 => (match M2 p, ds with | some (.lst l), [d] => l.length < sizeLine ∧ Q .non (mup M2 p (.lst (l ++ [d]))) | _, _ => False) ∧ ∃ l, M1 p = some (.lst l)
  | _ => False
end
end Zl

/-! Zl7: methods of lists and tuples; the town -/
namespace Zl
open PySem L2
section
variable {K : PySem.W.Frag} {mg : Str → Option Value} {F : Fz} {H : Hp} {M : Mh}
theorem tyV_list {v : V} {d : D} (w : Wd K mg F H M) (r : Rep K mg F v d) (h : tyD M d = some "list") : tyV K "list" v H := by
  cases r with
  | lst e _ _ => exact .inl ⟨rfl, _, SqL.of (w.sub _ _ e)⟩
  | ref p =>
    have h' : (match M p with | some (.lst _) => some "list" | _ => none) = some "list" := h
    cases e : M p with
    | none => rw [e] at h'; cases h'
    | some m =>
      cases m with
      | lst ds =>
        obtain ⟨_, vs, hv, _⟩ := w.mu p _ e
        exact .inl ⟨rfl, _, SqL.of hv⟩
      | ins _ _ => rw [e] at h'; cases h'
      | town => rw [e] at h'; cases h'
  | _ => exact absurd h (by simp [tyD])
theorem tyV_str {v : V} {d : D} (r : Rep K mg F v d) (h : tyD M d = some "str") : tyV K "str" v H := by
  cases r with
  | str _ _ => rfl
  | ref p =>
    have h' : (match M p with | some (.lst _) => some "list" | _ => none) = some "str" := h
    split at h'
    · exact absurd (Option.some.inj h') (by decide)
    · cases h'
  | _ => exact absurd h (by simp [tyD])
end
/-- a method's soundness, by values -/
def SndM (K : PySem.W.Frag) (mg : Str → Option Value) (r : V → List V → Hp → VK → Prop) (f : D → List D → Mh → QZ → Prop) : Prop := ∀ (F : Fz) (H : Hp) (M : Mh) (x : V) (xs : List V) (d : D) (ds : List D) (Q : VK) (R : QZ), Wd K mg F H M → Rep K mg F x d → RepL K mg F xs ds → f d ds M R → Kq K mg F R Q → r x xs H Q
def zM (T : String) (f : D → List D → Mh → QZ → Prop) (o : ZE) (t : ZA) : ZE := fun r M Q => o r M fun x M1 => tyD M1 x = some T ∧ t r M1 fun ds M2 => f x ds M2 Q
section
variable {X : Cx} {F0 : Fz} {o a : Expr} {es : List Expr} {fo : ZE} {t : ZA} {apos cpos : Pos} {name : Str} {id : String} {r : V → List V → Hp → VK → Prop} {f : D → List D → Mh → QZ → Prop}
theorem ze_mL (pa : PlainAttrs "list") (slot : Slot "list" name id) (hty : typeOf (.builtin id) = pure (.type "method_descriptor")) (hm : MtR X id r) (sm : SndM X.K X.mg r f) (ho : PE X o (UE X F0 fo)) (ha : PA X (a :: es) (UA X F0 t))
    (hbase : attributeBase o name X.env (eval o X.env) = eval o X.env := by rfl)
    (hfew : ((backTo cpos (starEach (a :: es) X.env)).all (fun x => !x.1) && (backToKw cpos (keywordEach [] X.env)).all (fun x => x.1.isSome)
      && decide ((a :: es).length + ([] : List Keyword).length + (if ([] : List Keyword).isEmpty then 0 else 1) < 30)) = true := by rfl)
    (hline : (apos.endLine == cpos.line) = true := by rfl) (hs : starEach (a :: es) X.env = (false, eval a X.env) :: starEach es X.env := by rfl) (hplain : (backTo cpos (starEach es X.env)).any (·.1) = false := by rfl) :
    PE X (.Call (.Attribute o name apos) (a :: es) [] cpos) (UE X F0 (zM "list" f fo t)) := pe_imp (pe_bm pa slot hty hm ho ha hbase hfew hline hs hplain) fun s H Q h => by
  obtain ⟨F, rr, M, R, s0, w, e, h, k⟩ := h
  refine ⟨F, rr, M, _, s0, w, e, h, fun x M1 h1 F1 H1 v s1 w1 r1 => ⟨tyV_list w1 r1 h1.1, F1, rr, M1, _, s0.trans s1, w1, e.mono s1, h1.2, fun ds M2 h2 F2 H2 vs s2 w2 r2 => ?_⟩⟩
  exact sm F2 H2 M2 v vs x ds Q R w2 (r1.mono s2) r2 h2 (k.mono (s1.trans s2))
theorem ze_mS (pa : PlainAttrs "str") (slot : Slot "str" name id) (hty : typeOf (.builtin id) = pure (.type "method_descriptor")) (hm : MtR X id r) (sm : SndM X.K X.mg r f) (ho : PE X o (UE X F0 fo)) (ha : PA X (a :: es) (UA X F0 t))
    (hbase : attributeBase o name X.env (eval o X.env) = eval o X.env := by rfl)
    (hfew : ((backTo cpos (starEach (a :: es) X.env)).all (fun x => !x.1) && (backToKw cpos (keywordEach [] X.env)).all (fun x => x.1.isSome)
      && decide ((a :: es).length + ([] : List Keyword).length + (if ([] : List Keyword).isEmpty then 0 else 1) < 30)) = true := by rfl)
    (hline : (apos.endLine == cpos.line) = true := by rfl) (hs : starEach (a :: es) X.env = (false, eval a X.env) :: starEach es X.env := by rfl) (hplain : (backTo cpos (starEach es X.env)).any (·.1) = false := by rfl) :
    PE X (.Call (.Attribute o name apos) (a :: es) [] cpos) (UE X F0 (zM "str" f fo t)) := pe_imp (pe_bm pa slot hty hm ho ha hbase hfew hline hs hplain) fun s H Q h => by
  obtain ⟨F, rr, M, R, s0, w, e, h, k⟩ := h
  refine ⟨F, rr, M, _, s0, w, e, h, fun x M1 h1 F1 H1 v s1 w1 r1 => ⟨tyV_str r1 h1.1, F1, rr, M1, _, s0.trans s1, w1, e.mono s1, h1.2, fun ds M2 h2 F2 H2 vs s2 w2 r2 => ?_⟩⟩
  exact sm F2 H2 M2 v vs x ds Q R w2 (r1.mono s2) r2 h2 (k.mono (s1.trans s2))
end
section
variable {K : PySem.W.Frag} {mg : Str → Option Value}
/-- a changing list and what it holds -/
def zR (M : Mh) (d : D) (k : Addr → List D → Prop) : Prop := match d with
  | .ref p => (match M p with | some (.lst ds) => k p ds | _ => False)
  | _ => False
theorem zR_ref {M : Mh} {p : Addr} {ds : List D} {k : Addr → List D → Prop} (h : M p = some (.lst ds)) : zR M (.ref p) k = k p ds := by
  show (match M p with | some (.lst ds) => k p ds | _ => False) = _
  rw [h]
theorem zR_out {F : Fz} {H : Hp} {M : Mh} {d : D} {k : Addr → List D → Prop} {v : V} (w : Wd K mg F H M) (r : Rep K mg F v d) (h : zR M d k) : ∃ p vs ds, v = .ref p ∧ M p = some (.lst ds) ∧ H p = some (.lst vs) ∧ vs.length ≤ sizeLine ∧ RepL K mg F vs ds ∧ k p ds := by
  cases d with
  | ref p =>
    cases r
    have h' : (match M p with | some (.lst ds) => k p ds | _ => False) := h
    cases e : M p with
    | none => rw [e] at h'; exact h'.elim
    | some m =>
      cases m with
      | lst ds =>
        rw [e] at h'
        obtain ⟨_, vs, hv, l, q⟩ := w.mu p _ e
        exact ⟨p, vs, ds, rfl, e, hv, l, q, h'⟩
      | ins _ _ => rw [e] at h'; exact h'.elim
      | town => rw [e] at h'; exact h'.elim
  | _ => exact h.elim
def dApp (x : D) (ds : List D) (M : Mh) (Q : QZ) : Prop := match ds with
  | [d] => zR M x fun p l => l.length < sizeLine ∧ Q .non (mup M p (.lst (l ++ [d])))
  | _ => False
theorem snd_app : SndM K mg rAppend dApp := by
  intro F H M x xs d ds Q R w r rl h k
  unfold dApp at h
  split at h
  · cases rl with
    | cons r1 rl =>
      cases rl
      obtain ⟨p, vs, es, rfl, e0, e, l, q, h1, h2⟩ := zR_out w r h
      refine ⟨p, vs, _, rfl, rfl, e, by rw [q.length]; exact h1, k _ _ h2 F _ _ (Le.refl F) (w.write e0 (by intro z; cases z) (by intro z; cases z) ⟨_, upd_same, ?_, q.append (.cons r1 .nil)⟩) .non⟩
      rw [List.length_append, q.length]; exact h1
  · exact h.elim
def dExt (x : D) (ds : List D) (M : Mh) (Q : QZ) : Prop := match ds with
  | [d] => zR M x fun p l => zL M d fun m => l.length + m.length ≤ sizeLine ∧ Q .non (mup M p (.lst (l ++ m)))
  | _ => False
theorem snd_ext : SndM K mg rExtend dExt := by
  intro F H M x xs d ds Q R w r rl h k
  unfold dExt at h
  split at h
  · cases rl with
    | cons r1 rl =>
      cases rl
      obtain ⟨p, vs, es, rfl, e0, e, l, q, h⟩ := zR_out w r h
      obtain ⟨b, us, fs, rfl, e', l', q', h1, h2⟩ := zL_out w r1 h
      have hl : vs.length + us.length ≤ sizeLine := by rw [q.length, q'.length]; exact h1
      refine ⟨p, b, vs, us, rfl, rfl, e, e', hl, k _ _ h2 F _ _ (Le.refl F) (w.write e0 (by intro z; cases z) (by intro z; cases z) ⟨_, upd_same, ?_, q.append q'⟩) .non⟩
      rw [List.length_append]; exact hl
  · exact h.elim
def dPopAt (x : D) (ds : List D) (M : Mh) (Q : QZ) : Prop := match ds with
  | [.int i] => -(2 ^ 63) ≤ i ∧ i < 2 ^ 63 ∧ zR M x fun p l => match ixN l.length i with
    | some j => (match l[j]? with | some y => Q y (mup M p (.lst (l.eraseIdx j))) | none => False)
    | none => False
  | _ => False
theorem snd_popAt : SndM K mg rPopAt dPopAt := by
  intro F H M x xs d ds Q R w r rl h k
  unfold dPopAt at h
  split at h
  · cases rl with
    | cons r1 rl =>
      cases rl; cases r1
      obtain ⟨b1, b2, h⟩ := h
      obtain ⟨p, vs, es, rfl, e0, e, l, q, h⟩ := zR_out w r h
      split at h
      · rename_i j hj
        split at h
        · rename_i y hy
          obtain ⟨v, hv, rv⟩ := q.get hy
          refine ⟨p, vs, _, j, v, rfl, rfl, e, b1, b2, by rw [q.length]; exact (ixN_seq hj).1, hv, k _ _ h F _ _ (Le.refl F) (w.write e0 (by intro z; cases z) (by intro z; cases z) ⟨_, upd_same, ?_, q.eraseIdx j⟩) rv⟩
          exact Nat.le_trans (List.length_eraseIdx_le _ _) l
        · exact h.elim
      · exact h.elim
  · exact h.elim
/-- the first place of y -/
def idxD (y : D) : List D → Option Nat
  | [] => none
  | d :: r => if eqD d y then some 0 else (idxD y r).map (· + 1)
theorem idxD_get {F : Fz} {v : V} {y : D} (ry : Rep K mg F v y) (fy : flatD y = true) : ∀ {vs : List V} {ds : List D} {j : Nat}, RepL K mg F vs ds → ds.all flatD = true → idxD y ds = some j → (∃ z, vs[j]? = some z ∧ eqV z v = true) ∧ ∀ (m : Nat) (z : V), m < j → vs[m]? = some z → eqV z v = false
  | _, _, _, .nil, _, h => by cases h
  | _, _, j, .cons r t, q, h => by
    rw [List.all_cons, Bool.and_eq_true] at q
    unfold idxD at h
    split at h
    · rename_i e
      cases h
      exact ⟨⟨_, rfl, by rw [eqV_of r ry q.1 fy]; exact e⟩, fun m z hm => absurd hm (Nat.not_lt_zero _)⟩
    · rename_i e
      obtain ⟨i, hi, ej⟩ := Option.map_eq_some_iff.mp h
      subst ej
      obtain ⟨⟨z, h1, h2⟩, h3⟩ := idxD_get ry fy t q.2 hi
      refine ⟨⟨z, by simpa using h1, h2⟩, fun m z' hm hz => ?_⟩
      cases m with
      | zero =>
        cases hz
        rw [eqV_of r ry q.1 fy]; simpa using e
      | succ m => exact h3 m z' (by omega) (by simpa using hz)
def dIndex (x : D) (ds : List D) (M : Mh) (Q : QZ) : Prop := match ds with
  | [y] => zL M x fun l => flatD y = true ∧ l.all flatD = true ∧ (match idxD y l with | some j => Q (.int (j : Nat)) M | none => False)
  | _ => False
theorem snd_index : SndM K mg (rIndex K) dIndex := by
  intro F H M x xs d ds Q R w r rl h k
  unfold dIndex at h
  split at h
  · cases rl with
    | cons r1 rl =>
      cases rl
      obtain ⟨p, vs, es, rfl, e, l, q, h1, h2, h⟩ := zL_out w r h
      split at h
      · rename_i j hj
        obtain ⟨⟨z, a1, a2⟩, a3⟩ := idxD_get r1 h1 q h2 hj
        exact ⟨p, vs, _, j, z, rfl, rfl, SqL.of e, flat_of r1 h1, flats_of q h2, a1, a2, a3, k _ _ h _ _ _ (Le.refl F) w (.int _)⟩
      · exact h.elim
  · exact h.elim
def cntD (y : D) (l : List D) : Nat := l.countP fun d => eqD d y
def dCount (x : D) (ds : List D) (M : Mh) (Q : QZ) : Prop := match ds with
  | [y] => zL M x fun l => flatD y = true ∧ l.all flatD = true ∧ Q (.int (cntD y l : Nat)) M
  | _ => False
def rCountZ (K : PySem.W.Frag) : V → List V → Hp → VK → Prop := fun x xs H Q => ∃ (p : Addr) (ys : List V) (y : V), x = .ref p ∧ xs = [y] ∧ SqL K H p ys ∧ flatV y = true ∧ ys.all flatV = true ∧ Q (.int (ys.countP fun z => eqV z y : Nat)) H
theorem countP_eqU {y : V} : ∀ {ys : List V} {us : List Value}, Vals ys us → ys.all flatV = true → us.countP (eqU y) = ys.countP fun z => eqV z y
  | _, _, .nil, _ => rfl
  | _, _, .cons r t, h => by
    rw [List.all_cons, Bool.and_eq_true] at h
    rw [List.countP_cons, List.countP_cons, countP_eqU t h.2, eqU_of r h.1]
theorem mt_countZ {X : Cx} : MtR X "list.count" (rCountZ X.K) := by
  intro pins s r H x xs v us Q I rx rxs h
  obtain ⟨p, ys, y, rfl, rfl, hs, fy, fys, q⟩ := h
  cases rx
  obtain ⟨u, rfl, ru⟩ := rxs.one
  obtain ⟨its, rv, ⟨⟨cls, dd, data, sl⟩, n, ho, hc, hdn, hd⟩, hlen⟩ := I.list hs
  simp only at hc hd
  subst hc hd
  have ec := countP_eqU (y := y) rv fys
  refine call_meets PySem.F.slot_list_count ⟨_, ho, rfl⟩ PySem.F.entry_list_count (PySem.F.args_list_count_2 _ _) (SeqAt.list_countAt p its.toArray n dd sl u (eqU y)) ⟨ho, fun z hz => mem_eqAt ru fy rv fys z (by simpa using hz), ?_⟩
  refine ⟨.int (ys.countP fun z => eqV z y : Nat), H, I.tok _, ⟨s.toks, ?_⟩, q⟩
  show Value.int ((its.toArray.toList.countP (eqU y) : Nat) : Int) s.toks = _
  rw [show its.toArray.toList = its from rfl, ec]
theorem cnt_of {F : Fz} {v : V} {y : D} (ry : Rep K mg F v y) (fy : flatD y = true) : ∀ {vs : List V} {ds : List D}, RepL K mg F vs ds → ds.all flatD = true → (vs.countP fun z => eqV z v) = cntD y ds
  | _, _, .nil, _ => rfl
  | _, _, .cons r t, q => by
    rw [List.all_cons, Bool.and_eq_true] at q
    have ih := cnt_of ry fy t q.2
    unfold cntD at *
    rw [List.countP_cons, List.countP_cons, ih, eqV_of r ry q.1 fy]
theorem snd_count : SndM K mg (rCountZ K) dCount := by
  intro F H M x xs d ds Q R w r rl h k
  unfold dCount at h
  split at h
  · cases rl with
    | cons r1 rl =>
      cases rl
      obtain ⟨p, vs, es, rfl, e, l, q, h1, h2, h⟩ := zL_out w r h
      refine ⟨p, vs, _, rfl, rfl, SqL.of e, flat_of r1 h1, flats_of q h2, ?_⟩
      rw [cnt_of r1 h1 q h2]
      exact k _ _ h _ _ _ (Le.refl F) w (.int _)
  · exact h.elim
end
/-! ### a written tuple -/
/-- the written tuple at a holds vs -/
def KTup (K : PySem.W.Frag) (a : Addr) (vs : List V) : Prop := ∃ (o : Obj) (its : Array Value) (n : Nat), K.lookup a = some o ∧ o.cls = .type "tuple" ∧ o.dict = none ∧ o.data = .seq its n ∧ its.size ≤ sizeLine ∧ Vals vs its.toList
theorem KTup.sq {K : PySem.W.Frag} {a : Addr} {vs : List V} (h : KTup K a vs) (H : Hp) : SqT K H a vs := by
  obtain ⟨o, its, n, h1, h2, h3, h4, h5, h6⟩ := h
  exact .inr ⟨o, its, n, h1, h2, h4, h5, h6⟩
theorem KTup.len {K : PySem.W.Frag} {a : Addr} {vs : List V} (h : KTup K a vs) : vs.length ≤ sizeLine := by
  obtain ⟨o, its, n, h1, h2, h3, h4, h5, h6⟩ := h
  rw [h6.length, Array.length_toList]; exact h5
theorem ktup_rep {K : PySem.W.Frag} {mg : Str → Option Value} {a : Addr} {vs : List V} {ds : List D} (h : KTup K a vs) (r : ∀ F, RepL K mg F vs ds) (F : Fz) : Rep K mg F (.ref a) (.tup ds) := .tup (h.sq F.f) h.len (r F)
def rTIdx (K : PySem.W.Frag) : V → List V → Hp → VK → Prop := fun x xs H Q => ∃ (a : Addr) (ys : List V) (y : V) (j : Nat) (z : V), x = V.ref a ∧ xs = [y] ∧ SqT K H a ys ∧ flatV y = true ∧ ys.all flatV = true ∧ ys[j]? = some z ∧ eqV z y = true ∧ (∀ (m : Nat) (z' : V), m < j → ys[m]? = some z' → eqV z' y = false) ∧ Q (.int (j : Nat)) H
theorem mt_tidx {X : Cx} : MtR X "tuple.index" (rTIdx X.K) := by
  intro pins s r H x xs v us Q I rx rxs h
  obtain ⟨a, ys, y, j, z, rfl, rfl, hs, fy, fys, hz, hzj, hno, q⟩ := h
  cases rx
  obtain ⟨uy, rfl, ry⟩ := rxs.one
  obtain ⟨its, rv, pl, hlen⟩ := I.tuple hs
  obtain ⟨⟨cls, dd, dt, sl⟩, ho, hc, n, hd⟩ := pl
  simp only at hc hd
  subst hc hd
  obtain ⟨u, hu, ru⟩ := rv.get hz
  obtain ⟨hjl, hje⟩ := List.getElem?_eq_some_iff.mp hu
  have hj : j < its.toArray.size := by simpa using hjl
  refine call_meets PySem.F.slot_tuple_index ⟨_, ho, rfl⟩ PySem.F.entry_tuple_index (PySem.F.args_tuple_index_2 _ _) (TI.tuple_indexAt a its.toArray n dd sl uy (eqU y) j hj ?_ ?_)
    ⟨ho, fun u' hu' => mem_eqAt ry fy rv fys u' (by simpa using hu'), ⟨.int (j : Nat), H, I.tok _, ⟨_, rfl⟩, q⟩⟩
  · have e1 : its.toArray[j] = u := by simpa using hje
    rw [e1, eqU_of ru (flat_at fys hz)]
    exact hzj
  · intro m hm hmj
    have hml : m < its.length := by simpa using hm
    have hmy : m < ys.length := by rw [rv.length]; exact hml
    have hy' : ys[m]? = some ys[m] := List.getElem?_eq_getElem hmy
    obtain ⟨u2, hu2, ru2⟩ := rv.get hy'
    have e2 : its.toArray[m] = u2 := by
      have := (List.getElem?_eq_some_iff.mp hu2).2
      simpa using this
    rw [e2, eqU_of ru2 (flat_at fys hy')]
    exact hno m _ hmj hy'
def zTIx (ds : List D) (t : ZA) : ZE := fun r M Q => t r M fun es M1 => match es with
  | [y] => flatD y = true ∧ (match idxD y ds with | some j => Q (.int (j : Nat)) M1 | none => False)
  | _ => False
theorem ze_tidx {X : Cx} {F0 : Fz} {x : Str} {a : Addr} {e : Expr} {vs : List V} {ds : List D} {t : ZA} {p apos cpos : Pos} (hm : X.mg x = some (.ref a)) (hk : KTup X.K a vs) (hr : ∀ F, RepL X.K X.mg F vs ds) (hf : ds.all flatD = true) (ha : PA X [e] (UA X F0 t)) (hg : Gl X x := by rfl)
    (hd : (x == ("__debug__" : Str)) = false := by decide) (hbase : attributeBase (.Name x p) "index" X.env (eval (.Name x p) X.env) = eval (.Name x p) X.env := by rfl)
    (hfew : ((backTo cpos (starEach [e] X.env)).all (fun x => !x.1) && (backToKw cpos (keywordEach [] X.env)).all (fun x => x.1.isSome)
      && decide (([e] : List Expr).length + ([] : List Keyword).length + (if ([] : List Keyword).isEmpty then 0 else 1) < 30)) = true := by rfl)
    (hline : (apos.endLine == cpos.line) = true := by rfl) (hs : starEach [e] X.env = (false, eval e X.env) :: starEach [] X.env := by rfl) (hplain : (backTo cpos (starEach [] X.env)).any (·.1) = false := by rfl) :
    PE X (.Call (.Attribute (.Name x p) "index" apos) [e] [] cpos) (UE X F0 (zTIx ds t)) := pe_imp (pe_bm PySem.F.plainAttrs_tuple PySem.F.slot_tuple_index PySem.F.type_tuple_index mt_tidx (pe_glob (v := .ref a) hg hm rfl hd) ha hbase hfew hline hs hplain) fun s H Q h => by
  obtain ⟨F, rr, M, R, s0, w, e, h, k⟩ := h
  obtain ⟨o, its, n, h1, h2, h3, h4⟩ := id hk
  refine ⟨.inr (.inl ⟨rfl, o, h1, h2, h3⟩), F, rr, M, _, s0, w, e, h, fun es M1 h1 F1 H1 us s1 w1 r1 => ?_⟩
  split at h1
  · cases r1 with
    | cons q1 r1 =>
      cases r1
      obtain ⟨fy, h1⟩ := h1
      split at h1
      · rename_i j hj
        obtain ⟨⟨z, a1, a2⟩, a3⟩ := idxD_get q1 fy (hr F1) hf hj
        exact ⟨a, vs, _, j, z, rfl, rfl, hk.sq H1, flat_of q1 fy, flats_of (hr F1) hf, a1, a2, a3, k _ _ h1 _ _ _ s1 w1 (.int _)⟩
      · exact h1.elim
  · exact h1.elim
end Zl

/-! Zl8: the town of a law, and its draws -/
namespace Zl
open PySem L2
section
variable {K : PySem.W.Frag} {mg : Str → Option Value} {F : Fz} {H : Hp} {M : Mh}
/-- the town laid open: its cells at c -/
def tOpen (M : Mh) (t c : Addr) (n : Int) (cells : List Int) : Mh := mup (mup M c (.lst (cells.map D.int))) t (.lst [.ref c, .int n])
structure TownOk (M : Mh) (t c : Addr) (cells : List Int) : Prop where
  at_ : M t = some .town
  no : M c = none
  ne : cells ≠ []
  len : cellsOk cells
  one : ∀ t', M t' = some .town → t' = t
theorem TownOk.ct {t c : Addr} {cells : List Int} (h : TownOk M t c cells) : c ≠ t := fun e => by
  have := h.no; rw [e, h.at_] at this; cases this
theorem Wd.town_out {t : Addr} (w : Wd K mg F H M) (ht : M t = some .town) : ∃ c n cells, TownOk M t c cells ∧ Wd K mg F H (tOpen M t c n cells) := by
  obtain ⟨f0, c, n, cells, h1, h2, h3, h3', h4, h5, h6, h7⟩ := w.mu t _ ht
  have T : TownOk M t c cells := ⟨ht, h4, h5, h6, h7⟩
  have hl : (cells.map V.int).length ≤ sizeLine := by rw [List.length_map]; exact Nat.le_of_lt (small1000 (Nat.le_trans h6.1 (by decide)))
  refine ⟨c, n, cells, T, w.sub, fun a o e => ?_, fun a m e => ?_⟩
  · obtain ⟨q1, q2, q3⟩ := w.un a o e
    refine ⟨q1, q2, ?_⟩
    unfold tOpen
    rw [mup_ne (fun z => by rw [z, ht] at q3; cases q3), mup_ne (fun z => by rw [z, h3'] at e; cases e)]; exact q3
  · unfold tOpen at e
    by_cases hat : a = t
    · subst hat; rw [mup_same] at e; cases e
      exact ⟨f0, [.ref c, .int n], h1, by show 2 ≤ sizeLine; decide, .cons (.ref c) (.cons (.int n) .nil)⟩
    · rw [mup_ne hat] at e
      by_cases hac : a = c
      · subst hac; rw [mup_same] at e; cases e
        exact ⟨h3, _, h2, hl, RepL.ints cells⟩
      · rw [mup_ne hac] at e
        obtain ⟨q1, r⟩ := w.mu a m e
        refine ⟨q1, ?_⟩
        cases m with
        | lst ds => exact r
        | ins x fs => exact r
        | town => exact absurd (h7 a e) hat
theorem Wd.town_in {t c : Addr} {n : Int} {cells cells' : List Int} (T : TownOk M t c cells) (ne : cells' ≠ []) (ln : cellsOk cells') (w : Wd K mg F H (tOpen M t c n cells')) : Wd K mg F H M := by
  have ct := T.ct
  have et : tOpen M t c n cells' t = some (.lst [.ref c, .int n]) := by unfold tOpen; exact mup_same
  have ec : tOpen M t c n cells' c = some (.lst (cells'.map D.int)) := by unfold tOpen; rw [mup_ne ct]; exact mup_same
  have ea : ∀ a, a ≠ t → a ≠ c → tOpen M t c n cells' a = M a := fun a h1 h2 => by unfold tOpen; rw [mup_ne h1, mup_ne h2]
  obtain ⟨ft, vt, ht, _, rt⟩ := w.mu t _ et
  obtain ⟨fc, vc, hc, _, rc⟩ := w.mu c _ ec
  have nu : ∀ a o, F.u a = some o → a ≠ t ∧ a ≠ c := fun a o e => by
    obtain ⟨_, _, q⟩ := w.un a o e
    exact ⟨(fun z => by rw [z, et] at q; cases q), (fun z => by rw [z, ec] at q; cases q)⟩
  refine ⟨w.sub, fun a o e => ?_, fun a m e => ?_⟩
  · obtain ⟨q1, q2, q3⟩ := w.un a o e
    obtain ⟨n1, n2⟩ := nu a o e
    exact ⟨q1, q2, by rw [← ea a n1 n2]; exact q3⟩
  · by_cases hat : a = t
    · subst hat
      rw [T.at_] at e; cases e
      have evc : vc = cells'.map V.int := rc.ints_of
      have evt : vt = [.ref c, .int n] := by
        cases rt with
        | cons a1 rt =>
          cases rt with
          | cons a2 rt => cases rt; cases a1; cases a2; rfl
      refine ⟨ft, c, n, cells', by rw [← evt]; exact ht, by rw [← evc]; exact hc, fc, ?_, T.no, ne, ln, T.one⟩
      cases q : F.u c with
      | none => rfl
      | some o => exact absurd rfl (nu c o q).2
    · have hac : a ≠ c := fun z => by rw [z, T.no] at e; cases e
      obtain ⟨q1, r⟩ := w.mu a m (by rw [ea a hat hac]; exact e)
      refine ⟨q1, ?_⟩
      cases m with
      | lst ds => exact r
      | ins x fs => exact r
      | town => exact absurd (T.one a e) hat
/-- a town is made: its list at t holds the cells at c -/
theorem Wd.town_new {t c : Addr} {n : Int} {cells : List Int} (h0 : ∀ t', M t' ≠ some .town) (ne : cells ≠ []) (ln : cellsOk cells) (hc : H c = none) (ht : upd H c (.lst (cells.map V.int)) t = none) (w : Wd K mg F H M) :
    Wd K mg F (upd (upd H c (.lst (cells.map V.int))) t (.lst [.ref c, .int n])) (mup M t .town) ∧ M t = none := by
  have tc : t ≠ c := fun e => by rw [e, upd_same] at ht; cases ht
  have ht0 : H t = none := by rw [upd_ne tc] at ht; exact ht
  obtain ⟨mt, ft, ut⟩ := w.free ht0
  obtain ⟨mc, fc, uc⟩ := w.free hc
  have hh : ∀ a, a ≠ t → a ≠ c → upd (upd H c (.lst (cells.map V.int))) t (.lst [.ref c, .int n]) a = H a := fun a h1 h2 => by rw [upd_ne h1, upd_ne h2]
  refine ⟨⟨fun a o e => ?_, fun a o e => ?_, fun a m e => ?_⟩, mt⟩
  · rw [hh a (fun z => by rw [z, ft] at e; cases e) (fun z => by rw [z, fc] at e; cases e)]; exact w.sub a o e
  · obtain ⟨q1, q2, q3⟩ := w.un a o e
    have n1 : a ≠ t := fun z => by rw [z, ut] at e; cases e
    exact ⟨by rw [hh a n1 (fun z => by rw [z, uc] at e; cases e)]; exact q1, q2, by rw [mup_ne n1]; exact q3⟩
  · by_cases hat : a = t
    · subst hat; rw [mup_same] at e; cases e
      refine ⟨ft, c, n, cells, upd_same, by rw [upd_ne tc.symm]; exact upd_same, fc, uc, by rw [mup_ne tc.symm]; exact mc, ne, ln, fun t' e' => ?_⟩
      by_cases h : t' = a
      · exact h
      · rw [mup_ne h] at e'; exact absurd e' (h0 t')
    · rw [mup_ne hat] at e
      obtain ⟨q1, r⟩ := w.mu a m e
      have hac : a ≠ c := ne_of_m e mc
      refine ⟨q1, ?_⟩
      cases m with
      | lst ds => obtain ⟨vs, h, l, q⟩ := r; exact ⟨vs, (hh a hat hac).trans h, l, q⟩
      | ins x fs => obtain ⟨C, dx, vs, h1, h, q⟩ := r; exact ⟨C, dx, vs, h1, (hh a hat hac).trans h, q⟩
      | town => exact absurd e (h0 a)
end
theorem cx_no {P : Program} {w : World} {H : Hp} {s s' : Shared} {e : Value} (h : L2.CX P w [] H s (fun _ _ _ => False) e s') : False := by
  obtain ⟨_, _, _, _, _, _, _, _, _, _, _, _, z⟩ := h
  exact z
theorem vals_of_abs : ∀ {us : List Value} {vs : List V}, us.map absV = vs.map some → Vals vs us
  | [], [], _ => .nil
  | u :: us, v :: vs, h => by
    rw [List.map_cons, List.map_cons] at h
    injection h with h1 h2
    refine .cons ?_ (vals_of_abs h2)
    cases u <;> cases h1 <;> first | rfl | exact ⟨_, rfl⟩
theorem ktup_mk {K : PySem.W.Frag} {a : Addr} {ci : List Value} {n : Nat} {sl : Array (Option Value)} {vs : List V} (l : K.lookup a = some ⟨.type "tuple", none, .seq ci.toArray n, sl⟩) (h : ci.map absV = vs.map some) (hl : ci.length ≤ sizeLine) : KTup K a vs :=
  ⟨_, _, n, l, rfl, rfl, rfl, by rw [List.size_toArray]; exact hl, by simpa using vals_of_abs h⟩
end Zl

/-! Zl9: own classes, caught exceptions -/
namespace Zl
open PySem L2
/-! ### instances -/
/-- a field stored -/
def putD (f : Str) (d : D) : List (Str × D) → List (Str × D)
  | [] => [(f, d)]
  | (g, x) :: r => if g = f then (g, d) :: r else (g, x) :: putD f d r
def onIns (M : Mh) (c : Str) (d : D) (k : Addr → List (Str × D) → Prop) : Prop := match d with
  | .ref p => (match M p with | some (.ins c' fs) => c' = c ∧ k p fs | _ => False)
  | _ => False
def onFd (fs : List (Str × D)) (f : Str) (k : D → Prop) : Prop := match fs.lookup f with | some d => k d | none => False
def zFld (c f : Str) (a : ZE) : ZE := fun r M Q => a r M fun d M1 => onIns M1 c d fun _ fs => onFd fs f fun v => Q v M1
def zSetA (c f : Str) (a v : ZE) : ZS := fun E r M => v r M fun y M1 => a r M1 fun d M2 => onIns M2 c d fun p fs => fs.length < 1000 ∧ E.nx r (mup M2 p (.ins c (putD f y fs)))
def zMeth (c m : Str) (zs : ZSp) (zE : ZW) (a : ZE) (t : ZA) : ZE := fun r M Q => a r M fun d M1 => onIns M1 c d fun p fs => fs.lookup m = none ∧ t r M1 fun ds M2 => zs (.ref p :: ds) M2 Q fun c fs M' => zE c fs r M'
def zMake (c : Str) (zs : ZSp) (zE : ZW) (t : ZA) : ZE := fun r M Q => t r M fun ds M1 => ∀ p, M1 p = none → zs (.ref p :: ds) (mup M1 p (.ins c [])) (fun d M2 => d = .non ∧ Q (.ref p) M2) fun c fs M' => zE c fs r M'
section
variable {K : PySem.W.Frag} {mg : Str → Option Value} {F : Fz} {H : Hp} {M : Mh}
theorem lookup_rep : ∀ {fs : List (Str × D)} {vs : List V} {f : Str} {d : D}, RepL K mg F vs (fs.map (·.2)) → fs.lookup f = some d → ∃ v, (List.zip (fs.map (·.1)) vs).lookup f = some v ∧ Rep K mg F v d
  | [], _, _, _, _, h => by cases h
  | (g, x) :: r, vs, f, d, q, h => by
    cases q with
    | cons q1 q2 =>
      rename_i v vs'
      show ∃ w, List.lookup f ((g, v) :: List.zip (r.map (·.1)) vs') = some w ∧ _
      by_cases e : f = g
      · have hb : (f == g) = true := beq_iff_eq.mpr e
        simp only [List.lookup, hb] at h ⊢
        cases h
        exact ⟨v, rfl, q1⟩
      · have hb : (f == g) = false := beq_eq_false_iff_ne.mpr e
        simp only [List.lookup, hb] at h ⊢
        exact lookup_rep q2 h
theorem lookup_none : ∀ {fs : List (Str × D)} {vs : List V} {f : Str}, fs.lookup f = none → (List.zip (fs.map (·.1)) vs).lookup f = none
  | [], _, _, _ => rfl
  | (g, x) :: r, [], f, _ => rfl
  | (g, x) :: r, v :: vs', f, h => by
    show List.lookup f ((g, v) :: List.zip (r.map (·.1)) vs') = none
    by_cases e : f = g
    · have hb : (f == g) = true := beq_iff_eq.mpr e
      simp only [List.lookup, hb] at h
      cases h
    · have hb : (f == g) = false := beq_eq_false_iff_ne.mpr e
      simp only [List.lookup, hb] at h ⊢
      exact lookup_none h
theorem put_rep {f : Str} {d : D} {v : V} (q : Rep K mg F v d) : ∀ {fs : List (Str × D)} {vs : List V}, RepL K mg F vs (fs.map (·.2)) → ∃ ws, putF f v (List.zip (fs.map (·.1)) vs) = List.zip ((putD f d fs).map (·.1)) ws ∧ RepL K mg F ws ((putD f d fs).map (·.2))
  | [], vs, r => by
    cases r
    exact ⟨[v], rfl, .cons q .nil⟩
  | (g, x) :: r, vs, q2 => by
    cases q2 with
    | cons q3 q4 =>
      rename_i u us
      show ∃ ws, (if g = f then (g, v) :: List.zip (r.map (·.1)) us else (g, u) :: putF f v (List.zip (r.map (·.1)) us)) = List.zip ((if g = f then (g, d) :: r else (g, x) :: putD f d r).map (·.1)) ws ∧ RepL K mg F ws ((if g = f then (g, d) :: r else (g, x) :: putD f d r).map (·.2))
      by_cases e : g = f
      · rw [if_pos e, if_pos e]
        exact ⟨v :: us, rfl, .cons q q4⟩
      · rw [if_neg e, if_neg e]
        obtain ⟨ws, h1, h2⟩ := put_rep q (f := f) q4
        exact ⟨u :: ws, by rw [h1]; rfl, .cons q3 h2⟩
theorem onIns_out {c : Str} {d : D} {k : Addr → List (Str × D) → Prop} {v : V} (w : Wd K mg F H M) (r : Rep K mg F v d) (h : onIns M c d k) : ∃ p fs C dx vs, v = .ref p ∧ d = .ref p ∧ M p = some (.ins c fs) ∧ mg c = some (.ref C) ∧ H p = some (.ins C dx (List.zip (fs.map (·.1)) vs)) ∧ RepL K mg F vs (fs.map (·.2)) ∧ k p fs := by
  cases d with
  | ref p =>
    cases r
    have h' : (match M p with | some (.ins c' fs) => c' = c ∧ k p fs | _ => False) := h
    cases e : M p with
    | none => rw [e] at h'; exact h'.elim
    | some m =>
      cases m with
      | lst _ => rw [e] at h'; exact h'.elim
      | town => rw [e] at h'; exact h'.elim
      | ins c' fs =>
        rw [e] at h'
        obtain ⟨rfl, h'⟩ := h'
        obtain ⟨_, C, dx, vs, h1, h2, h3⟩ := w.mu p _ e
        exact ⟨p, fs, C, dx, vs, rfl, rfl, e, h1, h2, h3, h'⟩
  | _ => exact False.elim h
theorem ref_inj {c : Str} {C C' : Addr} (h : mg c = some (.ref C)) (h' : mg c = some (.ref C')) : C' = C := by
  rw [h] at h'; cases h'; rfl
end
section
variable {X : Cx} {F0 : Fz} {a b : Expr} {fa fb : ZE} {pos apos p : Pos} {c f m x : Str} {C : Addr}
theorem ze_fld (gC : X.mg c = some (.ref C)) (cl : Cls X.K C) (na : NoAttr X.K C f) (ha : PE X a (UE X F0 fa)) (hb : attributeBase a f X.env (eval a X.env) = eval a X.env := by rfl) : PE X (.Attribute a f pos) (UE X F0 (zFld c f fa)) :=
  pe_imp (pe_fld ha hb) fun s H Q h => by
  obtain ⟨F, rr, M, R, s0, w, e, h, k⟩ := h
  refine ⟨F, rr, M, _, s0, w, e, h, fun d M1 h1 F1 H1 v s1 w1 r1 => ?_⟩
  obtain ⟨q, fs, C', dx, vs, rfl, rfl, e1, g1, h2, h3, h4⟩ := onIns_out w1 r1 h1
  obtain rfl := ref_inj gC g1
  unfold onFd at h4
  cases e2 : fs.lookup f with
  | none => rw [e2] at h4; exact h4.elim
  | some y =>
    rw [e2] at h4
    obtain ⟨u, l1, l2⟩ := lookup_rep h3 e2
    exact ⟨q, C', dx, _, u, rfl, h2, cl, na, l1, k _ _ h4 _ _ _ s1 w1 l2⟩
theorem zs_setA (gC : X.mg c = some (.ref C)) (cl : Cls X.K C) (na : NoAttr X.K C f) (ha : PE X a (UE X F0 fa)) (hb : PE X b (UE X F0 fb)) (hs : swapsWith b (some (.Attribute a f apos)) pos.line X.env = pure false := by rfl) : PS X (.Assign [.Attribute a f apos] b pos) (US X F0 (zSetA c f fa fb)) :=
  ps_imp (ps_fld ha hb hs) fun E s H h => by
  obtain ⟨F, rr, M, Z, s0, w, e, h, k⟩ := h
  refine ⟨F, rr, M, _, s0, w, e, h, fun y M1 h1 F1 H1 yv s1 w1 r1 => ⟨F1, rr, M1, _, s0.trans s1, w1, e.mono s1, h1, fun d M2 h2 F2 H2 v s2 w2 r2 => ?_⟩⟩
  obtain ⟨q, fs, C', dx, vs, rfl, rfl, e1, g1, h3, h4, h5, h6⟩ := onIns_out w2 r2 h2
  obtain rfl := ref_inj gC g1
  obtain ⟨ws, l1, l2⟩ := put_rep (f := f) (r1.mono s2) h4
  refine ⟨q, C', dx, _, rfl, h3, cl, na, ?_, k.nx _ _ h6 F2 _ _ (s1.trans s2) (w2.write e1 (by intro z; cases z) (by intro z; cases z) ⟨C', dx, ws, g1, ?_, l2⟩) (e.mono (s1.trans s2))⟩
  · rw [List.length_zip, List.length_map]; omega
  · rw [upd_same, l1]
/-- o.m(e, ..), what is let out as at the slots -/
def tMethS (C : Addr) (m : Str) (sp : Sp) (E : St → XK) (ta : TE) (t : TA) : TE := fun σ H Q => ta σ H fun x H1 => ∃ a dx fs, x = .ref a ∧ H1 a = some (.ins C dx fs) ∧ fs.lookup m = none ∧ t σ H1 fun vs H2 => sp (x :: vs) H2 Q (E σ)
theorem pe_methS {CX : CXT} {k : Nat} {g : Addr} {fd : FuncData} {ps : List Str} {sp : Sp} {E : St → XK} {o e : Expr} {es : List Expr} {ta : TE} {t : TA} {pl : Sem Bool} (he : PE X o ta) (cl : Cls X.K C) (hm : Meth X.K C m g) (FO : FnOk X.prog X.w X.K X.mg X.base CX k g fd ps sp) (hr : Room k X.A) (hb : Binds X.K fd ps []) (hx : ∀ σ, PassesAt CX X σ (E σ)) (ha : PA X (e :: es) t)
    (hst : starEach (e :: es) X.env = (false, eval e X.env) :: starEach es X.env := by rfl) (hpl : (backTo pos (starEach es X.env)).any (·.1) = false := by rfl)
    (ht : eval (.Call (.Attribute o m apos) (e :: es) [] pos) X.env = (do
      let ov ← eval o X.env
      standAt apos.atName
      let (f, first) ← holding [ov] (getMethod ov m pl)
      callWith pos f first (backTo pos (starEach (e :: es) X.env)) (backToKw pos (keywordEach [] X.env))) := by rfl) :
    PE X (.Call (.Attribute o m apos) (e :: es) [] pos) (tMethS C m sp E ta t) := by
  refine ⟨fun pins s σ H Q I h => ?_⟩
  refine PySem.W.methodCall_KW (pl := pl) (thn (he.run pins s σ H _ I h) fun u s1 ⟨x, H1, I1, rx, a, dx, fs, ex, ea, l, q⟩ => ?_) ht
  subst ex
  obtain rfl : u = Value.ref a := rx
  refine getmeth_ok I1 ea cl hm l ?_
  refine PySem.W.callWith_K (first := [.ref a]) (h₀ := X.base) I.ok.mod.kin hm.kp (thn (ha.run pos pins s1 σ H1 _ I1 q) fun us s2 ⟨vs, H2, I2, r, q2⟩ => ⟨I2.kIn, ?_⟩) hst hpl
  exact run_fnS (us := .ref a :: us) (vs := .ref a :: vs) FO hr hb (hx σ) I2 (.cons rfl r) q2
theorem pe_methS0 {CX : CXT} {k : Nat} {g : Addr} {fd : FuncData} {ps : List Str} {sp : Sp} {E : St → XK} {o : Expr} {ta : TE} {pl : Sem Bool} (he : PE X o ta) (cl : Cls X.K C) (hm : Meth X.K C m g) (FO : FnOk X.prog X.w X.K X.mg X.base CX k g fd ps sp) (hr : Room k X.A) (hb : Binds X.K fd ps []) (hx : ∀ σ, PassesAt CX X σ (E σ))
    (ht : eval (.Call (.Attribute o m apos) [] [] pos) X.env = (do
      let ov ← eval o X.env
      standAt apos.atName
      let (f, first) ← holding [ov] (getMethod ov m pl)
      callWith pos f first (backTo pos (starEach [] X.env)) (backToKw pos (keywordEach [] X.env))) := by rfl) :
    PE X (.Call (.Attribute o m apos) [] [] pos) (tMethS C m sp E ta tNil) := by
  refine ⟨fun pins s σ H Q I h => ?_⟩
  refine PySem.W.methodCall_KW (pl := pl) (thn (he.run pins s σ H _ I h) fun u s1 ⟨x, H1, I1, rx, a, dx, fs, ex, ea, l, q⟩ => ?_) ht
  subst ex
  obtain rfl : u = Value.ref a := rx
  refine getmeth_ok I1 ea cl hm l ?_
  exact PySem.W.callWith_K0 (first := [.ref a]) I1.kIn hm.kp (run_fnS (us := [.ref a]) (vs := [.ref a]) FO hr hb (hx σ) I1 (.cons rfl .nil) q)
theorem up_meth {zs : ZSp} {zE : ZW} {W : WX} {t : ZA} (gC : X.mg c = some (.ref C)) (wk : Wok X.K X.mg F0 W zE) {s : St} {H : Hp} {Q : VK} (h : UE X F0 (zMeth c m zs zE fa t) s H Q) : tMethS C m (liftSp X.K X.mg zs) (WE W) (UE X F0 fa) (UA X F0 t) s H Q := by
  obtain ⟨F, rr, M, R, s0, w, e, h, k⟩ := h
  refine ⟨F, rr, M, _, s0, w, e, h, fun d M1 h1 F1 H1 v s1 w1 r1 => ?_⟩
  obtain ⟨q, fs, C', dx, vs, rfl, rfl, e1, g1, h2, h3, h4, h5⟩ := onIns_out w1 r1 h1
  obtain rfl := ref_inj gC g1
  refine ⟨q, dx, _, rfl, h2, lookup_none h4, F1, rr, M1, _, s0.trans s1, w1, e.mono s1, h5, fun ds M2 h6 F2 H2 us s2 w2 r2 => ⟨F2, M2, _, R, _, w2, .cons (.ref q) r2, h6, k.mono (s1.trans s2), fun c fs M' hx F' H' cls d s3 w3 rx => ?_⟩⟩
  exact wk c fs rr M' hx F' s H' cls d (s0.trans ((s1.trans s2).trans s3)) w3 (e.mono ((s1.trans s2).trans s3)) rx
theorem ze_meth {k : Nat} {g : Addr} {fd : FuncData} {ps : List Str} {zs : ZSp} {zE : ZW} {W : WX} {e : Expr} {es : List Expr} {t : ZA} {pl : Sem Bool} (gC : X.mg c = some (.ref C)) (cl : Cls X.K C) (hm : Meth X.K C m g) (FO : FnOk X.prog X.w X.K X.mg X.base (L2.CX X.prog X.w) k g fd ps (liftSp X.K X.mg zs)) (hr : Room k X.A) (hb : Binds X.K fd ps [])
    (tk : Takes X W) (wk : Wok X.K X.mg F0 W zE) (ho : PE X a (UE X F0 fa)) (ha : PA X (e :: es) (UA X F0 t)) (hst : starEach (e :: es) X.env = (false, eval e X.env) :: starEach es X.env := by rfl) (hpl : (backTo pos (starEach es X.env)).any (·.1) = false := by rfl)
    (ht : eval (.Call (.Attribute a m apos) (e :: es) [] pos) X.env = (do
      let ov ← eval a X.env
      standAt apos.atName
      let (f, first) ← holding [ov] (getMethod ov m pl)
      callWith pos f first (backTo pos (starEach (e :: es) X.env)) (backToKw pos (keywordEach [] X.env))) := by rfl) :
    PE X (.Call (.Attribute a m apos) (e :: es) [] pos) (UE X F0 (zMeth c m zs zE fa t)) := pe_imp (pe_methS ho cl hm FO hr hb (fun s => passAt tk s) ha hst hpl ht) fun s H Q h => up_meth gC wk h
theorem ze_meth0 {k : Nat} {g : Addr} {fd : FuncData} {ps : List Str} {zs : ZSp} {zE : ZW} {W : WX} {pl : Sem Bool} (gC : X.mg c = some (.ref C)) (cl : Cls X.K C) (hm : Meth X.K C m g) (FO : FnOk X.prog X.w X.K X.mg X.base (L2.CX X.prog X.w) k g fd ps (liftSp X.K X.mg zs)) (hr : Room k X.A) (hb : Binds X.K fd ps [])
    (tk : Takes X W) (wk : Wok X.K X.mg F0 W zE) (ho : PE X a (UE X F0 fa))
    (ht : eval (.Call (.Attribute a m apos) [] [] pos) X.env = (do
      let ov ← eval a X.env
      standAt apos.atName
      let (f, first) ← holding [ov] (getMethod ov m pl)
      callWith pos f first (backTo pos (starEach [] X.env)) (backToKw pos (keywordEach [] X.env))) := by rfl) :
    PE X (.Call (.Attribute a m apos) [] [] pos) (UE X F0 (zMeth c m zs zE fa zNil)) := pe_imp (pe_methS0 ho cl hm FO hr hb (fun s => passAt tk s) ht) fun s H Q h => by
  have h' := up_meth gC wk h
  obtain ⟨F, rr, M, R, s0, w, e, h1, k⟩ := h'
  refine ⟨F, rr, M, R, s0, w, e, h1, fun d M1 h1 F1 H1 v s1 w1 r1 => ?_⟩
  obtain ⟨q, dx, fs, e1, e2, e3, F2, rr2, M2, R2, g1, w2, e4, h4, k4⟩ := k d M1 h1 F1 H1 v s1 w1 r1
  exact ⟨q, dx, fs, e1, e2, e3, k4 [] M2 h4 F2 H1 [] (Le.refl _) w2 .nil⟩
/-- C(..): a new instance, then __init__ -/
def tMakeS (C : Addr) (sp : Sp) (E : St → XK) (t : TA) : TE := fun σ H Q => t σ H fun vs H1 => ∀ x dx, H1 x = none → H1 dx = none → dx ≠ x →
  sp (.ref x :: vs) (upd (upd H1 dx (.own x)) x (.ins C dx [])) (fun v H2 => v = .non ∧ Q (.ref x) H2) (E σ)
theorem run_makeS {k : Nat} {g : Addr} {fd : FuncData} {ps : List Str} {sp : Sp} {E : St → XK} {CX : CXT} {pins : List (Addr × Obj)} {σ : St} {H : Hp} {s : Shared} {Q : VK} {us : List Value} {vs : List V} (Mm : Mk X.K C g) (FO : FnOk X.prog X.w X.K X.mg X.base CX k g fd ps sp) (hr : Room (k + 1) X.A) (hb : Binds X.K fd ps [])
    (hx : PassesAt CX X σ (E σ)) (I : Inv X pins σ H s) (r : Vals vs us)
    (h : ∀ x dx, H x = none → H dx = none → dx ≠ x → sp (.ref x :: vs) (upd (upd H dx (.own x)) x (.ins C dx [])) (fun v H2 => v = .non ∧ Q (.ref x) H2) (E σ)) :
    wpAny (model X.prog X.w) X.A (call (.ref C) us) (EP X pins σ Q) X.xe s := by
  have hq := h (s.heap.objs.size + 1) s.heap.objs.size (I.hok.fresh (Nat.le_succ _)) (I.hok.fresh (Nat.le_refl _)) (Nat.ne_of_lt (Nat.lt_succ_self _))
  have I2 := Inv.made (C := C) I
  have r2 : Vals (V.ref (s.heap.objs.size + 1) :: vs) (Value.ref (s.heap.objs.size + 1) :: us) := .cons rfl r
  have hl : (Value.ref (s.heap.objs.size + 1) :: us).length = ps.length := by
    have e := r2.length
    rw [FO.len _ _ _ _ hq] at e
    exact e.symm
  have b := hb { s with heap := (s.heap.push PySem.W.emptyDict).push (PySem.W.instObj C s.heap.objs.size) } (Value.ref (s.heap.objs.size + 1) :: us) I2.kIn (by rw [List.append_nil]; exact hl)
  rw [List.append_nil] at b
  refine wpAny_call (make_map (f := g) I.kIn Mm.makes Mm.init (beq_iff_eq.mp Mm.fn) (codeAny_mono (FO.run _ X.stack _ _ ⟨Value.ref (s.heap.objs.size + 1) :: us, []⟩ (Value.ref (s.heap.objs.size + 1) :: us) _ _ (E σ) (hr.make C us [])
    (I2.env0.make C us []) b r2 hq) fun r s' hq' => ?_))
  cases r with
  | error e => exact hx pins _ _ e s' I2 hq'
  | ok fl =>
    cases fl with
    | ret u =>
      obtain ⟨v, H', I3, rv, ev, q3⟩ := I2.after hq'
      subst ev
      exact ⟨rv, ⟨V.ref (s.heap.objs.size + 1), H', I3, rfl, q3⟩⟩
    | next => exact False.elim hq'
    | brk => exact False.elim hq'
    | cont => exact False.elim hq'
theorem pe_makeS {k : Nat} {g : Addr} {fd : FuncData} {ps : List Str} {sp : Sp} {E : St → XK} {CX : CXT} {e : Expr} {es : List Expr} {t : TA} (Mm : Mk X.K C g) (FO : FnOk X.prog X.w X.K X.mg X.base CX k g fd ps sp) (hr : Room (k + 1) X.A) (hg : Gl X x) (hm : X.mg x = some (.ref C)) (hb : Binds X.K fd ps []) (hx : ∀ σ, PassesAt CX X σ (E σ))
    (ha : PA X (e :: es) t) (hdb : (x == ("__debug__" : Str)) = false := by decide) (he : starEach (e :: es) X.env = (false, eval e X.env) :: starEach es X.env := by rfl) (hpl : (backTo pos (starEach es X.env)).any (·.1) = false := by rfl) :
    PE X (.Call (.Name x p) (e :: es) [] pos) (tMakeS C sp E t) := by
  refine ⟨fun pins s σ H Q I h => ?_⟩
  refine wpAny_Call_Name_kw (ld_glob I hg hm ?_ hdb)
  refine PySem.W.callWith_K (h₀ := X.base) I.ok.mod.kin Mm.kp (thn (ha.run pos pins s σ H _ I h) fun us s1 ⟨vs, H1, I1, r, q⟩ => ⟨I1.kIn, ?_⟩) he hpl
  exact run_makeS Mm FO hr hb (hx σ) I1 r q
theorem pe_makeS0 {k : Nat} {g : Addr} {fd : FuncData} {ps : List Str} {sp : Sp} {E : St → XK} {CX : CXT} (Mm : Mk X.K C g) (FO : FnOk X.prog X.w X.K X.mg X.base CX k g fd ps sp) (hr : Room (k + 1) X.A) (hg : Gl X x) (hm : X.mg x = some (.ref C)) (hb : Binds X.K fd ps []) (hx : ∀ σ, PassesAt CX X σ (E σ))
    (hdb : (x == ("__debug__" : Str)) = false := by decide) : PE X (.Call (.Name x p) [] [] pos) (tMakeS C sp E tNil) := by
  refine ⟨fun pins s σ H Q I h => ?_⟩
  refine wpAny_Call_Name_kw (ld_glob I hg hm ?_ hdb)
  exact PySem.W.callWith_K0 I.kIn Mm.kp (run_makeS (us := []) Mm FO hr hb (hx σ) I .nil h)
theorem make_low {zs : ZSp} {zE : ZW} {W : WX} (gC : X.mg c = some (.ref C)) (wk : Wok X.K X.mg F0 W zE) {F : Fz} {rr : Env} {M1 : Mh} {R : QZ} {s : St} {H1 : Hp} {Q : VK} {ds : List D} {vs : List V} (s0 : Ge F0 F) (w : Wd X.K X.mg F H1 M1) (e : RepE X.K X.mg F s rr) (rl : RepL X.K X.mg F vs ds)
    (h : ∀ p, M1 p = none → zs (.ref p :: ds) (mup M1 p (.ins c [])) (fun d M2 => d = .non ∧ R (.ref p) M2) fun c fs M' => zE c fs rr M') (k : Kq X.K X.mg F R Q) : ∀ y dx, H1 y = none → H1 dx = none → dx ≠ y →
    liftSp X.K X.mg zs (.ref y :: vs) (upd (upd H1 dx (.own y)) y (.ins C dx [])) (fun v H2 => v = .non ∧ Q (.ref y) H2) (WE W s) := by
  intro y dx hy hdx ne
  obtain ⟨s1, w1⟩ := w.laidF (o := .own y) hdx
  have hy' : upd H1 dx (.own y) y = none := by rw [upd_ne (Ne.symm ne)]; exact hy
  obtain ⟨m0, _, _⟩ := w1.free hy'
  have w2 : Wd X.K X.mg (F.up dx (.own y)) (upd (upd H1 dx (.own y)) y (.ins C dx [])) (mup M1 y (.ins c [])) := w1.laidM hy' (by intro z; cases z) ⟨C, dx, [], gC, upd_same, .nil⟩
  refine ⟨_, _, _, _, _, w2, .cons (.ref y) (rl.mono s1), h y m0, fun d M2 ⟨hd, hR⟩ F' H' v s2 w3 r3 => ?_, fun c fs M' hx F' H' cls d s2 w3 rx => ?_⟩
  · subst hd
    cases r3
    exact ⟨rfl, k _ _ hR F' H' _ (s1.trans s2) w3 (.ref y)⟩
  · exact wk c fs rr M' hx F' s H' cls d (s0.trans (s1.trans s2)) w3 (e.mono (s1.trans s2)) rx
theorem ze_make {k : Nat} {g : Addr} {fd : FuncData} {ps : List Str} {zs : ZSp} {zE : ZW} {W : WX} {e : Expr} {es : List Expr} {t : ZA} (gC : X.mg c = some (.ref C)) (Mm : Mk X.K C g) (FO : FnOk X.prog X.w X.K X.mg X.base (L2.CX X.prog X.w) k g fd ps (liftSp X.K X.mg zs)) (hr : Room (k + 1) X.A) (hb : Binds X.K fd ps [])
    (tk : Takes X W) (wk : Wok X.K X.mg F0 W zE) (ha : PA X (e :: es) (UA X F0 t)) (hg : Gl X c := by rfl) (hdb : (c == ("__debug__" : Str)) = false := by decide) (he : starEach (e :: es) X.env = (false, eval e X.env) :: starEach es X.env := by rfl) (hpl : (backTo pos (starEach es X.env)).any (·.1) = false := by rfl) :
    PE X (.Call (.Name c p) (e :: es) [] pos) (UE X F0 (zMake c zs zE t)) := pe_imp (pe_makeS Mm FO hr hg gC hb (fun s => passAt tk s) ha hdb he hpl) fun s H Q h => by
  obtain ⟨F, rr, M, R, s0, w, e, h, k⟩ := h
  exact ⟨F, rr, M, _, s0, w, e, h, fun ds M1 h1 F1 H1 vs s1 w1 r1 => make_low gC wk (s0.trans s1) w1 (e.mono s1) r1 h1 (k.mono s1)⟩
theorem ze_make0 {k : Nat} {g : Addr} {fd : FuncData} {ps : List Str} {zs : ZSp} {zE : ZW} {W : WX} (gC : X.mg c = some (.ref C)) (Mm : Mk X.K C g) (FO : FnOk X.prog X.w X.K X.mg X.base (L2.CX X.prog X.w) k g fd ps (liftSp X.K X.mg zs)) (hr : Room (k + 1) X.A) (hb : Binds X.K fd ps [])
    (tk : Takes X W) (wk : Wok X.K X.mg F0 W zE) (hg : Gl X c := by rfl) (hdb : (c == ("__debug__" : Str)) = false := by decide) :
    PE X (.Call (.Name c p) [] [] pos) (UE X F0 (zMake c zs zE zNil)) := pe_imp (pe_makeS0 Mm FO hr hg gC hb (fun s => passAt tk s) hdb) fun s H Q h => by
  obtain ⟨F, rr, M, R, s0, w, e, h, k⟩ := h
  exact make_low gC wk s0 w e .nil h k
end
end Zl

/-! Zl10: try .. except X as e: y = e; isinstance of what was caught; {} -/
namespace Zl
open PySem L2 PySem.Spec PyProof.Rows
section
variable {X : Cx} {pins : List (Addr × Obj)} {σ : L2.St} {H : Hp} {s : Shared}
/-- an exception object that nobody tracked is tracked -/
theorem track {a C : Addr} {d : Option Addr} {oe : Obj} {vs : Array Value} (I : Inv X pins σ H s) (ha : s.heap.get? a = some oe) (z : Zc (.ref C) d oe) (hd : oe.data = .fields vs) (na : H a = none) (n0 : X.s_0.heap.get? a = none)
    (nL : a ≠ X.env.locals) (nC : ∀ x c, X.env.cells.lookup x = some c → c ≠ a) (nP : ∀ p ∈ X.pn ++ pins, p.1 ≠ a) : Inv X pins σ (upd H a (ExZ C d a)) s := by
  have ne : ∀ b o, H b = some o → b ≠ a := fun b o e z => by rw [z, na] at e; cases e
  refine ⟨I.ok, I.os, I.bare, ⟨I.base.keep, I.base.slot, fun b o e n hq => ?_, I.base.there, fun b xs e => ?_, fun b o u e => ?_, fun b ps e => ?_⟩, I.loc, I.cell, ?_, fun x c e => ?_, fun p hp => ?_, fun b u e => ?_, I.len⟩
  · rw [upd_ne (fun z => by rw [z, n0] at e; cases e)]; exact I.base.free b o e n hq
  · have q := I.base.tups b xs e
    rw [upd_ne (ne b _ q)]; exact q
  · have q := I.base.frzs b o u e
    rw [upd_ne (ne b _ q)]; exact q
  · obtain ⟨m, q⟩ := I.base.tbls b ps e
    exact ⟨m, by rw [upd_ne (ne b _ q)]; exact q⟩
  · rw [upd_ne (Ne.symm nL)]; exact I.free
  · rw [upd_ne (nC x c e)]; exact I.freeC x c e
  · obtain ⟨h1, h2, h3⟩ := I.pin p hp
    exact ⟨h1, by rw [upd_ne (nP p hp)]; exact h2, h3⟩
  · by_cases hb : b = a
    · subst hb
      rw [upd_same] at e; cases e
      exact ⟨⟨oe, vs, ha, z, hd⟩, ⟨oe, ha⟩, fun _ _ ⟨o, v, q, r⟩ k => ⟨o, v, k o q, r⟩⟩
    · rw [upd_ne hb] at e
      refine (I.hok b u e).stay (fun c v _ q => q) (fun c q => ?_) fun c xs q => ?_
      · rw [upd_ne (ne c _ q)]; exact q
      · rw [upd_ne (ne c _ q)]; exact q
end
/-- what the clause wishes of an exception of the body: it stays, tracked -/
def wKeep (K : PySem.W.Frag) (c : Value) (i : Nat) (ts : Addr → Value → Option Addr → TS) (D : Ends) : WX := fun cls d σ H =>
  PySem.W.exmOne K cls c = some true ∧ ∃ C, cls = .ref C ∧ ∀ a, H a = none → ts a cls d { nx := fun σ' H' => D.nx (σ'.set i none) (upd H' a (ExZ C d a)), rt := fun _ _ => False, bk := fun _ _ => False, ct := fun _ _ => False } (σ.set i (some (.ref a))) H
section
variable {X : Cx} {x n : Str} {c : Value} {i : Nat} {body suite : List Stmt} {b₀ : Stmt} {np pos pos' : Pos} {tb : WX → TS} {ts : Addr → Value → Option Addr → TS}
theorem ps_try_keep (hs : X.stack = X.env :: X.outer) (hf : X.env.frame = some X.env.locals) (hex : X.ex = []) (hN : X.N.Nodup) (hi : X.N[i]? = some n) (hln : X.env.kindOf n = some .local) (hc : Names X x c)
    (hb : ∀ (W : WX) (pn : List (Addr × Obj)) (xe : Value → Shared → Prop), Takes (X.tr pn xe) W → PassesOwn (model X.prog X.w) X.A X.env xe → PSs (X.tr pn xe) body (tb W))
    (hsu : ∀ (a : Addr) (oe : Obj) (cls : Value) (d : Option Addr) (pn : List (Addr × Obj)), Zc cls d oe → (∃ vs, oe.data = .fields vs) → PSs (X.suite a ((a, oe) :: pn)) (b₀ :: suite) (ts a cls d)) :
    PS X (.Try body [.ExceptHandler (some (.Name x np)) (some n) (b₀ :: suite) pos'] [] [] pos) (fun D σ H => tb (wKeep X.K c i ts D) D σ H) := by
  refine ⟨fun pins s σ H D I h => ?_⟩
  have ok := I.ok
  have hfr : X.A.frames = some (X.env :: X.outer) := by rw [ok.frames, hs]
  have hloc : Loc X.env.scope n := .inl hln
  refine wpAny_Try_except ?_
  refine wpAny_mono ((hb (wKeep X.K c i ts D) (X.pn ++ pins) (fun e s₁ => wpAny (model X.prog X.w) X.A (noteFrame e X.env) (fun _ s₂ => wpAny (model X.prog X.w) X.A (setFlight e none) (fun _ s₃ =>
    wpAny (model X.prog X.w) X.A (handleBy e X.env [.ExceptHandler (some (.Name x np)) (some n) (b₀ :: suite) pos']) (SP X pins D) X.xe s₃) X.xe s₂) X.xe s₁) (fun u s' xx => ?_) PassesOwn.looking).run [] s σ H D (I.toTry _) h) (fun f s1 hsp => ?_) (fun e s1 he => he)
  · obtain ⟨a, B, sI, pins', σ', H', cls, d, rfl, J', nb, up, sky, na, os, ag, hb1, C, rfl, hyes⟩ := xx
    have J : Inv X pins σ' H' sI := J'.ofTry ok
    have sky' : Sky B (X.env :: X.outer) a (Zc (.ref C) d) X.env.locals s'.heap := by rw [← hs]; exact sky
    show wpAny (model X.prog X.w) X.A (noteFrame (.ref a) X.env) _ _ _
    refine Sky.land Zc.steady hfr hf sky' fun h3 fl3 up3 => ?_
    have J3 : Inv X pins σ' H' { s' with heap := h3 } := J.landed nb fl3.1 (up.trans up3) os ag
    obtain ⟨oe3, vs3, he3, hz3, hd3⟩ := fl3.there
    have notFr : ∀ {h : Heap} {o : Obj} {vs : Array Value}, h.FunFrames B (X.env :: X.outer) → h.get? a = some o → o.data = .fields vs → a ∉ frs (X.env :: X.outer) := fun {h o vs} ff e dd hm => by
      obtain ⟨_, o', e', hnf⟩ := ff.mem hm
      rw [e] at e'; cases e'
      exact hnf _ dd
    have nfr := notFr fl3.2.2.1 he3 hd3
    have nL : a ≠ X.env.locals := fun z => nfr (List.mem_filterMap.mpr ⟨X.env, List.mem_cons_self, by rw [hf, z]⟩)
    have nF : a ∉ X.fs := fun hm => by
      obtain ⟨e, he, q⟩ := List.mem_filterMap.mp hm
      exact nfr (List.mem_filterMap.mpr ⟨e, List.mem_cons_of_mem _ he, q⟩)
    have gI : sI.heap.get? a = none := by
      cases q : sI.heap.get? a with
      | none => rfl
      | some o =>
        have := nb a o q (by rw [hs]; exact nfr)
        rw [fl3.2.1] at this; cases this
    have n0 : X.s_0.heap.get? a = none := by
      cases q : X.s_0.heap.get? a with
      | none => rfl
      | some o =>
        obtain ⟨o', q'⟩ := J.base.there a o q (by rw [hex]; exact fun z => nomatch z)
        rw [gI] at q'; cases q'
    have nC : ∀ x c, X.env.cells.lookup x = some c → c ≠ a := fun x c e z => by
      obtain ⟨v, o, q, _⟩ := J.cell x c e
      rw [z, gI] at q; cases q
    have nP : ∀ p ∈ X.pn ++ pins, p.1 ≠ a := fun p hp z => by
      have q := (J.pin p hp).1
      rw [z, gI] at q; cases q
    have S3 := J3.suite he3 hd3 na nL nF
    refine wpAny_handleBy_cons (codeAny_handlers_test ?_) (by intro q; cases q)
    have LT : PySem.W.Looks (model X.prog X.w) h3 (typeOf (.ref a)) (.ref C) := fun A Q E s k q => wpAny_typeOf_ref (k _ _ he3) (by rw [hz3.1]; exact q)
    have LM := PySem.W.exm_one (M := model X.prog X.w) (J3.kIn) LT hb1
    have test : ∀ {Q : Value → Shared → Prop} {E : Value → Shared → Prop}, Q c { s' with heap := h3 } → wpAny (model X.prog X.w) (X.A.mark (some (.ref a))) (eval (.Name x np) X.env) Q E { s' with heap := h3 } := fun {Q E} q => by
      obtain ⟨hg, hdbg, hm | ⟨hm, hv, hnn⟩⟩ := hc
      · exact ld_glob (X := X.suite a ((a, oe3) :: (X.pn ++ pins))) S3 hg hm q hdbg
      · exact ld_blt (X := X.suite a ((a, oe3) :: (X.pn ++ pins))) S3 hg hm hv q hnn hdbg
    refine test (LM.here ?_)
    refine codeAny_handlers_suite_as ?_
    refine HandSPX.lands_againZ fl3 fun h4 fl4 up4 => ?_
    have J4 : Inv X pins σ' H' { s' with heap := h4 } := J.landed nb fl4.1 ((up.trans up3).trans up4) os ag
    obtain ⟨oe4, vs4, he4, hz4, hd4⟩ := fl4.there
    have S4 := J4.suite he4 hd4 na nL nF
    refine store_ok (X := X.suite a ((a, oe4) :: (X.pn ++ pins))) (v := .ref a) S4 hN hi hloc rfl (fun s5 S5 => ?_) (.inr hln)
    refine wpAny_mono ((hsu a oe4 (.ref C) d (X.pn ++ pins) hz4 ⟨_, hd4⟩).run [] s5 _ H' _ S5 (hyes a na)) (fun f s6 hsp => ?_) (fun _ _ z => False.elim z)
    cases f with
    | next =>
      obtain ⟨σ6, H6, S6, q6⟩ := hsp
      obtain ⟨g1, g2, _⟩ := S6.pin (a, oe4) (List.mem_append.mpr (.inl List.mem_cons_self))
      have T6 := track (S6.unsuite ok) g1 hz4 hd4 g2 n0 nL nC nP
      exact gone_ok T6 hN hi hln fun s7 J7 => ⟨_, _, J7, q6⟩
    | brk => obtain ⟨σ6, H6, S6, q6⟩ := hsp; exact False.elim q6
    | cont => obtain ⟨σ6, H6, S6, q6⟩ := hsp; exact False.elim q6
    | ret u => obtain ⟨v6, σ6, H6, S6, r6, q6⟩ := hsp; exact False.elim q6
  · cases f with
    | next =>
      obtain ⟨σ', H', J', q⟩ := hsp
      exact wpAny_execs_nil ⟨σ', H', J'.ofTry ok, q⟩
    | brk =>
      obtain ⟨σ', H', J', q⟩ := hsp
      exact ⟨σ', H', J'.ofTry ok, q⟩
    | cont =>
      obtain ⟨σ', H', J', q⟩ := hsp
      exact ⟨σ', H', J'.ofTry ok, q⟩
    | ret u =>
      obtain ⟨v, σ', H', J', r, q⟩ := hsp
      exact ⟨v, σ', H', J'.ofTry ok, r, q⟩
end
/-! ### the reading -/
def zTry (cs : List Str) (i j : Nat) (zb : ZW → ZS) : ZS := fun E r M => zb (fun c fs r' M' => c ∈ cs ∧ fs = [] ∧ i < r'.length ∧ E.nx (st (st (st r' i none) j (some (.exc c))) i none) M') E r M
section
variable {X : Cx} {F0 : Fz}
theorem RepE.any {K : PySem.W.Frag} {mg : Str → Option Value} {F : Fz} {s : L2.St} {r : Env} {x : Option V} (i : Nat) (h : RepE K mg F s r) : RepE K mg F (s.set i x) (st r i none) := by
  refine ⟨by rw [List.length_set, st_len]; exact h.1, fun j e z => ?_⟩
  by_cases hj : j = i
  · subst hj
    obtain ⟨a, b⟩ := gt_st_same _ _ _ _ z
    cases a
  · rw [gt_st_ne _ _ _ _ hj] at z
    obtain ⟨w, a, b⟩ := h.2 j e z
    exact ⟨w, by rw [List.getElem?_set_ne (Ne.symm hj)]; exact a, b⟩
theorem zs_try {i j : Nat} {n y x : Str} {CL : Addr} {cs : List Str} {zb : ZW → ZS} {body : List Stmt} {np py pe pa pos pos' : Pos} (hs : X.stack = X.env :: X.outer) (hf : X.env.frame = some X.env.locals) (hex : X.ex = []) (hN : X.N.Nodup) (gL : X.mg x = some (.ref CL))
    (hcs : ∀ c ∈ cs, ∀ C, X.mg c = some (.ref C) → PySem.W.exmOne X.K (.ref C) (.ref CL) = some true)
    (hb : ∀ (F1 : Fz) (W : WX) (zE : ZW) (pn : List (Addr × Obj)) (xe : Value → Shared → Prop), Takes (X.tr pn xe) W → PassesOwn (model X.prog X.w) X.A X.env xe → Wok X.K X.mg F1 W zE → PSs (X.tr pn xe) body (upS X.K X.mg F1 (zb zE)))
    (hi : X.N[i]? = some n := by rfl) (hj : X.N[j]? = some y := by rfl) (hln : X.env.kindOf n = some .local := by rfl) (hly : X.env.scope.names.lookup y = some .local := by rfl) (hvn : Vis X.env.scope n := by first | exact Or.inl rfl | exact Or.inr (Or.inl rfl) | exact Or.inr (Or.inr rfl))
    (hg : Gl X x := by rfl) (hdb : (x == ("__debug__" : Str)) = false := by decide) (hd : (n == ("__debug__" : Str)) = false := by decide) (hcd : (n == ("__classdict__" : Str)) = false := by decide)
    (hsw : swapsWith (.Name n pe) (some (.Name y py)) pa.line X.env = pure false := by rfl) :
    PS X (.Try body [.ExceptHandler (some (.Name x np)) (some n) [.Assign [.Name y py] (.Name n pe) pa] pos'] [] [] pos) (US X F0 (zTry cs i j zb)) := by
  refine ps_imp (ps_try_keep (tb := fun W D s H => ∃ F1 zE, Wok X.K X.mg F1 W zE ∧ upS X.K X.mg F1 (zb zE) D s H) hs hf hex hN hi hln ⟨hg, hdb, .inl gL⟩ (fun W pn xe tk hp => ⟨fun pins s r H E I ⟨F1, zE, wk, q⟩ => (hb F1 W zE pn xe tk hp wk).run pins s r H E I q⟩)
    (fun a oe cls d pn hz hfl => pss_one (ps_set (X := X.suite a ((a, oe) :: pn)) (i := j) hN hj (.inl hly) (pe_var (X := X.suite a ((a, oe) :: pn)) hi hvn hd hcd) hsw (.inr hly)))) fun E s H h => ?_
  obtain ⟨F, rr, M, Z, s0, w, e, h, k⟩ := h
  refine ⟨F, _, ?_, F, rr, M, Z, Ge.refl _, w, e, h, k⟩
  rintro c fs r' M' ⟨hc, hfs, hlt, hz⟩ F2 s2 H2 cls d g w2 e2 ⟨C, gC, rfl, hx⟩
  have hd : d = none := by
    rcases hx with ⟨_, hd⟩ | ⟨_, _, z, _⟩
    · exact hd
    · exact absurd hfs z
  subst hd
  refine ⟨hcs c hc C gC, C, rfl, fun a ha => ⟨.ref a, ?_, ?_⟩⟩
  · rw [List.getElem?_set_self (by rw [e2.1]; exact hlt)]
  · have w3 : Wd X.K X.mg ⟨F2.f, F.u⟩ H2 M' := w2.less g.u
    obtain ⟨s4, w4⟩ := w3.laidF (o := ExZ C none a) ha
    have e3 : RepE X.K X.mg ⟨F2.f, F.u⟩ s2 r' := ⟨e2.1, fun i d q => let ⟨v, a, b⟩ := e2.2 i d q; ⟨v, a, b.monoF (F := F2) (F' := ⟨F2.f, F.u⟩) (Same.refl _)⟩⟩
    refine k.nx _ M' hz _ _ _ (Le.trans (⟨g.f, rfl⟩ : Le F ⟨F2.f, F.u⟩) s4) w4 ?_
    exact (((e3.mono s4).any (x := some (.ref a)) i).set j (.exc gC (show upd F2.f a (ExZ C none a) a = some (ExZ C none a) from upd_same) fun _ z => nomatch z)).unset i
/-! ### isinstance of what was caught -/
theorem call_isX : CallR X (.builtin "isinstance") (fun xs H Q => ∃ (a C : Addr) (d : Option Addr) (c : V) (cv : Value) (b : Bool), xs = [.ref a, c] ∧ H a = some (ExZ C d a) ∧ (∀ dx, d = some dx → ∃ fs, H dx = some (.xd fs)) ∧ ExcC X.K C ∧ (∀ u, RelV c u → u = cv) ∧ PySem.W.kitOne X.K (.ref C) cv = some b ∧ Q (.bl b) H) := by
  intro pins s σ H xs us Q I r h
  obtain ⟨a, C, d, c, cv, b, rfl, ha, hX, T, hcv, e, q⟩ := h
  cases r with
  | cons rx rr =>
    cases rr with
    | cons rt rr =>
      cases rr
      cases rx
      have ec := hcv _ rt
      subst ec
      obtain ⟨⟨oe, vs, hget, hz, hv⟩, _, _⟩ := I.hok a _ ha
      have J : ∃ od, PySem.W.InstAt s.heap a oe C od := by
        obtain ⟨oc, od, oda, osl⟩ := oe
        obtain ⟨h1, h2⟩ := hz
        dsimp only at h1 h2 hv
        subst h1 h2 hv
        cases od with
        | none => exact ⟨none, hget, rfl, rfl, trivial⟩
        | some dx =>
          obtain ⟨fs, hx⟩ := hX dx rfl
          have hx : ObjOk X.prog X.w H s.heap dx (.xd fs) := I.hok dx _ hx
          obtain ⟨mA, hns, _⟩ := hx
          obtain ⟨od, ho, _⟩ := lookIn_ns hns
          exact ⟨some od, hget, rfl, rfl, ho⟩
      obtain ⟨od, J⟩ := J
      have hcl : (PySem.W.clsIn X.K C).isSome = true := by
        obtain ⟨cd, hc, _⟩ := PySem.W.any_some T.hd
        rw [hc]; rfl
      exact PySem.W.kia_one (PySem.W.kitx_exc hcl T.hg T.hk T.hs T.ha T.hn T.ht T.hm) I.kIn J e (fun z => nomatch z) fun tk => ⟨.bl b, H, I.kept (t' := tk) fun _ _ z => z, rfl, q⟩
/-- by a table: the class's name, the answer -/
def dIsx (tab : List (Str × Bool)) (x : D) (M : Mh) (Q : QZ) : Prop := match x with
  | .exc c => (match tab.lookup c with | some b => Q (.bl b) M | none => False)
  | _ => False
variable {a : Expr} {fa : ZE} {p p2 pos : Pos}
theorem ze_isxO {x : Str} {cv : Addr} {tab : List (Str × Bool)} (ha : PE X a (UE X F0 fa)) (hm : X.mg "isinstance" = none) (hm2 : X.mg x = some (.ref cv)) (hk : ∀ c b, tab.lookup c = some b → ∀ C, X.mg c = some (.ref C) → ExcC X.K C ∧ PySem.W.kitOne X.K (.ref C) (.ref cv) = some b)
    (hg : Gl X "isinstance" := by rfl) (hg2 : Gl X x := by rfl) (hd2 : (x == ("__debug__" : Str)) = false := by decide)
    (he : starEach [a, .Name x p2] X.env = (false, eval a X.env) :: starEach [.Name x p2] X.env := by rfl) (he2 : starEach [.Name x p2] X.env = (false, eval (.Name x p2) X.env) :: starEach [] X.env := by rfl) (hpl : (backTo pos (starEach [.Name x p2] X.env)).any (·.1) = false := by rfl) :
    PE X (.Call (.Name "isinstance" p) [a, .Name x p2] [] pos) (UE X F0 (z1 (dIsx tab) fa)) := by
  refine pe_imp (pe_callB call_isX hg hm (by decide +kernel) (pa_cons ha (pa_cons (pe_glob (v := .ref cv) hg2 hm2 rfl hd2) pa_nil he2) he) (by decide) (by decide) he hpl) fun s H Q h => ?_
  obtain ⟨F, rr, M, R, s0, w, e, h, k⟩ := h
  refine ⟨F, rr, M, _, s0, w, e, h, fun d M1 h1 F1 H1 v s1 w1 r1 => ?_⟩
  cases d with
  | exc c =>
    have h1' : (match tab.lookup c with | some b => R (.bl b) M1 | none => False) := h1
    cases q : tab.lookup c with
    | none => rw [q] at h1'; exact h1'.elim
    | some b =>
      rw [q] at h1'
      cases r1 with
      | exc gC hF hX =>
        obtain ⟨T, kk⟩ := hk c b q _ gC
        exact ⟨_, _, _, .ref cv, .ref cv, b, rfl, w1.sub _ _ hF, (fun dx z => let ⟨fs, q⟩ := hX dx z; ⟨fs, w1.sub _ _ q⟩), T, fun u hu => hu, kk, k _ _ h1' _ _ _ s1 w1 (.bl _)⟩
  | _ => exact False.elim h1
theorem ze_isxB {x : Str} {T : String} {tab : List (Str × Bool)} (ha : PE X a (UE X F0 fa)) (hm : X.mg "isinstance" = none) (hm2 : X.mg x = none) (hv2 : bootBuiltins x = some (.type T)) (hk : ∀ c b, tab.lookup c = some b → ∀ C, X.mg c = some (.ref C) → ExcC X.K C ∧ PySem.W.kitOne X.K (.ref C) (.type T) = some b)
    (hg : Gl X "isinstance" := by rfl) (hg2 : Gl X x := by rfl) (hn2 : x ≠ "__name__" := by decide) (hd2 : (x == ("__debug__" : Str)) = false := by decide)
    (he : starEach [a, .Name x p2] X.env = (false, eval a X.env) :: starEach [.Name x p2] X.env := by rfl) (he2 : starEach [.Name x p2] X.env = (false, eval (.Name x p2) X.env) :: starEach [] X.env := by rfl) (hpl : (backTo pos (starEach [.Name x p2] X.env)).any (·.1) = false := by rfl) :
    PE X (.Call (.Name "isinstance" p) [a, .Name x p2] [] pos) (UE X F0 (z1 (dIsx tab) fa)) := by
  refine pe_imp (pe_callB call_isX hg hm (by decide +kernel) (pa_cons ha (pa_cons (pe_bltn (v := .ty T) hg2 hm2 hv2 rfl hn2 hd2) pa_nil he2) he) (by decide) (by decide) he hpl) fun s H Q h => ?_
  obtain ⟨F, rr, M, R, s0, w, e, h, k⟩ := h
  refine ⟨F, rr, M, _, s0, w, e, h, fun d M1 h1 F1 H1 v s1 w1 r1 => ?_⟩
  cases d with
  | exc c =>
    have h1' : (match tab.lookup c with | some b => R (.bl b) M1 | none => False) := h1
    cases q : tab.lookup c with
    | none => rw [q] at h1'; exact h1'.elim
    | some b =>
      rw [q] at h1'
      cases r1 with
      | exc gC hF hX =>
        obtain ⟨T', kk⟩ := hk c b q _ gC
        exact ⟨_, _, _, .ty T, .type T, b, rfl, w1.sub _ _ hF, (fun dx z => let ⟨fs, q⟩ := hX dx z; ⟨fs, w1.sub _ _ q⟩), T', fun u hu => hu, kk, k _ _ h1' _ _ _ s1 w1 (.bl _)⟩
  | _ => exact False.elim h1
/-! ### {} -/
def zDct : ZE := fun _ M Q => Q .dct M
theorem ze_dct : PE X (.Dict [] [] pos) (UE X F0 zDct) := pe_imp pe_dnewK fun s H Q h => by
  obtain ⟨F, rr, M, R, s0, w, e, h, k⟩ := h
  intro p hp
  obtain ⟨s1, w1⟩ := w.laidF (o := .dK []) hp
  exact k _ _ h _ _ _ s1 w1 (.dct upd_same)
end
/-! ### the facts of a class, as one question -/
def clB (K : PySem.W.Frag) (C : Addr) : Bool := PySem.W.plainGet K C Str.empty && (PySem.W.hasDictIn K C && (PySem.W.plainOver K C && decide (PySem.W.findIn K (.ref C) "__setattr__" = some (some (.builtin "object.__setattr__")))))
theorem clB_ok {K : PySem.W.Frag} {C : Addr} (h : clB K C = true) : Cls K C := by
  obtain ⟨h1, h⟩ := Bool.and_eq_true_iff.mp h
  obtain ⟨h2, h⟩ := Bool.and_eq_true_iff.mp h
  obtain ⟨h3, h4⟩ := Bool.and_eq_true_iff.mp h
  exact ⟨h1, h2, h3, of_decide_eq_true h4⟩
def mkB (K : PySem.W.Frag) (C f : Addr) : Bool := PySem.W.makesIn K C && (decide (PySem.W.findIn K (.ref C) "__init__" = some (some (.ref f))) && (PySem.W.isFn K (.ref f) && PySem.W.keepIn K (.ref C)))
theorem mkB_ok {K : PySem.W.Frag} {C f : Addr} (h : mkB K C f = true) : Mk K C f := by
  obtain ⟨h1, h⟩ := Bool.and_eq_true_iff.mp h
  obtain ⟨h2, h⟩ := Bool.and_eq_true_iff.mp h
  obtain ⟨h3, h4⟩ := Bool.and_eq_true_iff.mp h
  exact ⟨h1, of_decide_eq_true h2, h3, h4⟩
def naB (K : PySem.W.Frag) (C : Addr) (fs : List Str) : Bool := fs.all fun f => decide (PySem.W.findIn K (.ref C) f = some none)
theorem naB_ok {K : PySem.W.Frag} {C : Addr} {fs : List Str} {f : Str} (h : naB K C fs = true) (hf : fs.contains f = true) : NoAttr K C f := of_decide_eq_true (p := PySem.W.findIn K (.ref C) f = some none) (List.all_eq_true.mp h f (List.contains_iff_mem.mp hf))
def ecB (K : PySem.W.Frag) (C : Addr) : Bool := decide (PySem.W.findIn K (.ref C) "__getattribute__" = some (some (.builtin "BaseException.__getattribute__"))) && (decide (PySem.W.findIn K (.ref C) "__getattr__" = some none) && (decide (PySem.W.subIn K (.ref C) (.type "BaseException") = some true) && (PySem.W.hasDictIn K C &&
  (decide (PySem.W.findIn K (.ref C) "__class__" = some (some (.builtin "object.__class__"))) && (decide (PySem.W.specialIn K (.builtin "object.__class__") "__get__" = some (some (.builtin "getset_descriptor.__get__"))) && (decide (PySem.W.takesIn K (.builtin "object.__class__") = some true) && decide (PySem.W.mroIn K C (.type "object") = some true)))))))
theorem ecB_ok {K : PySem.W.Frag} {C : Addr} (h : ecB K C = true) : ExcC K C := by
  obtain ⟨h1, h⟩ := Bool.and_eq_true_iff.mp h
  obtain ⟨h2, h⟩ := Bool.and_eq_true_iff.mp h
  obtain ⟨h3, h⟩ := Bool.and_eq_true_iff.mp h
  obtain ⟨h4, h⟩ := Bool.and_eq_true_iff.mp h
  obtain ⟨h5, h⟩ := Bool.and_eq_true_iff.mp h
  obtain ⟨h6, h⟩ := Bool.and_eq_true_iff.mp h
  obtain ⟨h7, h8⟩ := Bool.and_eq_true_iff.mp h
  exact ⟨of_decide_eq_true h1, of_decide_eq_true h2, of_decide_eq_true h3, h4, of_decide_eq_true h5, of_decide_eq_true h6, of_decide_eq_true h7, of_decide_eq_true h8⟩
/-- the classes by name, as they stand -/
def kitB2 (K : PySem.W.Frag) (cv : Value) : List (Addr × Bool) → Bool
  | [] => true
  | (C, b) :: r => decide (PySem.W.kitOne K (.ref C) cv = some b) && kitB2 K cv r
theorem kitB2_ok {K : PySem.W.Frag} {cv : Value} {C : Addr} {b : Bool} : ∀ {l : List (Addr × Bool)}, kitB2 K cv l = true → (C, b) ∈ l → PySem.W.kitOne K (.ref C) cv = some b
  | (C', b') :: r, h, hm => by
    obtain ⟨h1, h2⟩ := Bool.and_eq_true_iff.mp h
    rcases List.mem_cons.mp hm with e | hm
    · cases e; exact of_decide_eq_true h1
    · exact kitB2_ok h2 hm
theorem lookup_mem {c : Str} {b : Bool} : ∀ {l : List (Str × Bool)}, l.lookup c = some b → (c, b) ∈ l
  | (k, x) :: r, h => by
    by_cases e : c = k
    · have hb : (c == k) = true := beq_iff_eq.mpr e
      simp only [List.lookup, hb] at h
      cases h; rw [e]; exact List.mem_cons_self
    · have hb : (c == k) = false := beq_eq_false_iff_ne.mpr e
      simp only [List.lookup, hb] at h
      exact List.mem_cons_of_mem _ (lookup_mem h)
/-! ### steps -/
section
variable {r : Env} {M : Mh} {Q : QZ} {a b : ZE} {t : ZA}
theorem mup_get {p q : Addr} {o o' : MO} (h : M q = none) (e : M p = some o) : mup M q o' p = some o := by rw [mup_ne (ne_of_m e h)]; exact e
theorem i_fld {c f : Str} (h : a r M fun d M1 => onIns M1 c d fun _ fs => onFd fs f fun v => Q v M1) : zFld c f a r M Q := h
theorem i_onIns {c : Str} {p : Addr} {fs : List (Str × D)} {k : Addr → List (Str × D) → Prop} (e : M p = some (.ins c fs)) (h : k p fs) : onIns M c (.ref p) k := by
  show (match M p with | some (.ins c' fs) => c' = c ∧ k p fs | _ => False); rw [e]; exact ⟨rfl, h⟩
theorem i_onFd {fs : List (Str × D)} {f : Str} {d : D} {k : D → Prop} (e : fs.lookup f = some d) (h : k d) : onFd fs f k := by
  unfold onFd; rw [e]; exact h
theorem i_setA {c f : Str} {E : ZEnds} (h : b r M fun y M1 => a r M1 fun d M2 => onIns M2 c d fun p fs => fs.length < 1000 ∧ E.nx r (mup M2 p (.ins c (putD f y fs)))) : zSetA c f a b E r M := h
theorem i_f1000 {fs : List (Str × D)} {P : Prop} (h : fs.length < 1000) (q : P) : fs.length < 1000 ∧ P := ⟨h, q⟩
theorem i_lkN {fs : List (Str × D)} {m : Str} {P : Prop} (h : fs.lookup m = none) (q : P) : fs.lookup m = none ∧ P := ⟨h, q⟩
theorem i_meth {c m : Str} {zs : ZSp} {zE : ZW} (h : a r M fun d M1 => onIns M1 c d fun p fs => fs.lookup m = none ∧ t r M1 fun ds M2 => zs (.ref p :: ds) M2 Q fun c fs M' => zE c fs r M') : zMeth c m zs zE a t r M Q := h
theorem i_make {c : Str} {zs : ZSp} {zE : ZW} (h : t r M fun ds M1 => ∀ p, M1 p = none → zs (.ref p :: ds) (mup M1 p (.ins c [])) (fun d M2 => d = .non ∧ Q (.ref p) M2) fun c fs M' => zE c fs r M') : zMake c zs zE t r M Q := h
theorem i_try {cs : List Str} {i j : Nat} {zb : ZW → ZS} {E : ZEnds} (h : zb (fun c fs r' M' => c ∈ cs ∧ fs = [] ∧ i < r'.length ∧ E.nx (st (st (st r' i none) j (some (.exc c))) i none) M') E r M) : zTry cs i j zb E r M := h
theorem i_isx {tab : List (Str × Bool)} {c : Str} {v : Bool} (e : tab.lookup c = some v) (q : Q (.bl v) M) : dIsx tab (.exc c) M Q := by
  show (match tab.lookup c with | some b => Q (.bl b) M | none => False); rw [e]; exact q
theorem i_tryx {cs : List Str} {i : Nat} {c : Str} {P : Prop} (h1 : decide (c ∈ cs) = true) (h2 : decide (i < r.length) = true) (q : P) : c ∈ cs ∧ ([] : List (Str × D)) = [] ∧ i < r.length ∧ P := ⟨of_decide_eq_true h1, rfl, of_decide_eq_true h2, q⟩
theorem i_dct (q : Q .dct M) : zDct r M Q := q
end
end Zl

/-! Zl11: x in a tuple of tuples; xs[::-1]; defs with defaults -/
namespace Zl
open PySem L2
theorem units65 {k : Nat} {A : Around} (r : Room k A) : A.units + 65 < cLine := by have := r.un; omega
def rInDT (K : PySem.W.Frag) : R2 := fun x y H Q => ∃ d ds, Dp K H x d ∧ Dp K H y (.tuple ds) ∧ SeqAt.shaped d = true ∧ SeqAt.shaped (.tuple ds) = true ∧ Q (.bl (ds.any fun z => PyData.eqv z d)) H
theorem op_inT {X : Cx} (hu : X.A.units + 65 < cLine) : OpR X (compareOp .In) (rInDT X.K) := by
  intro pins s σ H x y v u Q I rx ry h
  obtain ⟨d, ds, hd, he, sd, se, q⟩ := h
  obtain ⟨as, r1⟩ := Dp.reads I d x v hd rx
  obtain ⟨bs, r2⟩ := Dp.reads I (.tuple ds) y u he ry
  exact SeqAt.in_tuple_reads r2 r1 (SeqAt.canLay_of_shaped se) (SeqAt.canLay_of_shaped sd) (PyProof.Rows.room_in_shaped sd hu) ⟨.bl _, H, I, rfl, q⟩
/-- x in y, data in a tuple of data -/
def dInT (x y : D) (M : Mh) (Q : QZ) : Prop := match y with
  | .tup ys => plain x = true ∧ plains ys = true ∧ dep x ≤ 64 ∧ dep (.tup ys) ≤ 64 ∧ Q (.bl (ys.any fun z => eqD z x)) M
  | _ => False
theorem any_toP (x : D) : ∀ ys : List D, ((toPs ys).any fun z => PyData.eqv z (toP x)) = ys.any fun z => eqD z x
  | [] => rfl
  | y :: r => by
    show (PyData.eqv (toP y) (toP x) || (toPs r).any _) = _
    rw [any_toP x r]; rfl
theorem snd_inT {K : PySem.W.Frag} {mg : Str → Option Value} : Snd2 K mg (rInDT K) dInT := by
  intro F H M x y p q Q R w rx ry h k
  cases q with
  | tup ys =>
    obtain ⟨h1, h2, h3, h4, h5⟩ := (show plain p = true ∧ plains ys = true ∧ dep p ≤ 64 ∧ dep (.tup ys) ≤ 64 ∧ R (.bl (ys.any fun z => eqD z p)) M from h)
    refine ⟨toP p, toPs ys, rx.dp w.same h1, ry.dp w.same (d := .tup ys) h2, ?_, ?_, ?_⟩
    · show ((toP p).canLay0 && decide ((toP p).depth ≤ 64)) = true
      rw [rx.lay, decide_eq_true (show (toP p).depth ≤ 64 from h3)]; rfl
    · show ((toP (.tup ys)).canLay0 && decide ((toP (.tup ys)).depth ≤ 64)) = true
      rw [ry.lay, decide_eq_true (show (toP (.tup ys)).depth ≤ 64 from h4)]; rfl
    · rw [any_toP]
      exact k _ _ h5 _ _ _ (Le.refl F) w (.bl _)
  | _ => exact False.elim h
/-! ### xs[::-1] -/
def zRev (b : Bool) (a : ZE) : ZE := fun r M Q => a r M fun x M1 => zL M1 x fun ds => zNew b ds.reverse M1 Q
theorem ze_rev {X : Cx} {F0 : Fz} (b : Bool) {e : Expr} {fa : ZE} {k : Nat} {p1 p2 p3 pos : Pos} (he : PE X e (UE X F0 fa)) : PE X (.Subscript e (.Slice none none (some (.UnaryOp .USub (.Constant (.int 1) k p1) p2)) p3) pos) (UE X F0 (zRev b fa)) :=
  pe_imp (pe_revL he) fun s H Q h => by
  obtain ⟨F, rr, M, R, s0, w, e, h, k⟩ := h
  refine ⟨F, rr, M, _, s0, w, e, h, fun x M1 h1 F1 H1 v s1 w1 r1 => ?_⟩
  obtain ⟨p, vs, ds, rfl, e1, l, rl, h2⟩ := zL_out w1 r1 h1
  exact ⟨p, vs, rfl, SqL.of e1, zNew_out w1 (by rw [List.length_reverse]; exact l) rl.reverse h2 (k.mono s1)⟩
/-! ### defs with defaults -/
section
variable {P : Program} {w : World} {K : PySem.W.Frag} {mg : Str → Option Value} {base : Heap}
theorem z_okD (g : Bool) {x qual : Str} {st1 : Stmt} {dvs : List V} {f : Addr} {fd : FuncData} {N ps : List Str} {k n : Nat} {zs : ZSp} {zb : ZW → ZS} (FF : FunD K x qual (defArgs st1) (defBody st1) (defScope st1) dvs [] f fd) (S : FnScope N ps (defScope st1)) (hn : N.length - ps.length = n)
    (hz : ∀ ds M R RE, zs ds M R RE → ds.length = ps.length ∧ zFn g zb (ds.map some ++ List.replicate n none) M R RE)
    (hbody : ∀ (cdv : Value) (A : Around) (outer : List PySem.Env) (s : Shared) (H : Hp) (E : XK) (F0 : Fz) (zE : ZW), Room k (A.deeper (PyProof.Rows.envOfC qual (defScope st1) s.heap.objs.size f cdv)) → Wok K mg F0 (fun cls d _ H => E cls d H) zE →
      PSs (cxOf (L2.CX P w) P w K mg base N qual (defScope st1) f cdv A outer s H E) (defBody st1) (upS K mg F0 (zb zE))) : FnOk P w K mg base (L2.CX P w) (k + 1) f fd ps (liftSp K mg zs) := by
  refine FunD.ok FF S (fun vs H Q E h => ?_) fun cdv A outer s H vs Q E hr h => ?_
  · obtain ⟨F, M, ds, R, RE, w, rl, h, _⟩ := h
    rw [rl.length]; exact (hz ds M R RE h).1
  · obtain ⟨F, M, ds, R, RE, w, rl, h, kq, kx⟩ := h
    obtain ⟨hl, hb⟩ := hz ds M R RE h
    have wk : Wok K mg F (fun cls d _ H => E cls d H) (exB g RE) := by
      cases g with
      | true => exact wok_def kx
      | false => exact wok_def0 kx
    refine ⟨_, hbody cdv A outer s H E F _ hr wk, F, _, M, enB g R, Ge.refl _, w, ?_, hb, ?_⟩
    · have q := repE_start (K := K) (mg := mg) n rl
      have e : L2.start N vs = vs.map some ++ List.replicate n none := by
        show vs.map some ++ List.replicate (N.length - vs.length) none = _
        rw [rl.length, hl, hn]
      rw [e]; exact q
    · cases g with
      | true =>
        refine ⟨fun r M' ⟨M2, l, h⟩ F' s' H' s1 w1 e1 => kq _ _ h F' H' _ s1 (w1.drop l) .non, fun d M' ⟨d', M2, g, h⟩ F' H' v s1 w1 r1 => ?_, fun _ _ h => h.elim, fun _ _ h => h.elim⟩
        obtain ⟨F2, s2, w2, r2⟩ := g.sound w1 r1
        exact kq _ _ h F2 H' v (s1.trans s2) w2 r2
      | false => exact ⟨fun r M' h F' s' H' s1 w1 e1 => kq _ _ h F' H' _ s1 w1 .non, kq, fun _ _ h => h.elim, fun _ _ h => h.elim⟩
/-- the def's facts, from the written part -/
theorem funD_mk {x qual : Str} {st1 : Stmt} {f : Addr} {oc : Value} {od an : Option Addr} {osl : Array (Option Value)} {T : Addr} {ci : List Value} {cn : Nat} {cs : Array (Option Value)} {kV doc pm cdv ct : Value} {dvs : List V} (l : K.lookup f = some ⟨oc, od, .func (PySem.W.fnOf x qual (defArgs st1) (defBody st1) (defScope st1) (.ref T) kV doc pm an cdv ct), osl⟩)
    (c : PySem.W.codeIn K cdv qual = true) (k : PySem.W.keepIn K (.ref f) = true) (lT : K.lookup T = some ⟨.type "tuple", none, .seq ci.toArray cn, cs⟩) (hv : ci.map absV = dvs.map some) (hd : dvs ≠ []) : FunD K x qual (defArgs st1) (defBody st1) (defScope st1) dvs [] f (PySem.W.fnOf x qual (defArgs st1) (defBody st1) (defScope st1) (.ref T) kV doc pm an cdv ct) :=
  ⟨⟨oc, od, .ref T, kV, doc, pm, an, cdv, ct, osl, rfl, l, c, .inr ⟨hd, T, _, ci, cn, rfl, lT, rfl, vals_of_abs hv⟩, .inl rfl⟩, k⟩
end
section
variable {r : Env} {M : Mh} {Q : QZ} {a : ZE}
theorem i_rev {b : Bool} (h : a r M fun x M1 => zL M1 x fun ds => zNew b ds.reverse M1 Q) : zRev b a r M Q := h
theorem i_zLl {ds : List D} {k : List D → Prop} (h : k ds) : zL M (.lst ds) k := h
end
end Zl

/-! Zi: how readings are answered, step by step, outermost first -/
namespace Zl
open PySem L2
section
variable {r : Env} {M M1 : Mh} {Q : QZ} {QB : Bool → Mh → Prop} {QA : List D → Mh → Prop} {d x y : D} {ds xs ys : List D} {i j k : Int} {a b c : ZE} {t u : ZT} {f g : D → D → Mh → QZ → Prop}
theorem i_var {n : Nat} (h : gt r n = some d) (q : Q d M) : zVar n r M Q := by
  unfold zVar; rw [h]; exact q
theorem i_c (q : Q d M) : zC d r M Q := q
theorem i_2 (h : a r M fun x M1 => b r M1 fun y M2 => f x y M2 Q) : z2 f a b r M Q := h
theorem i_1 {f : D → Mh → QZ → Prop} (h : a r M fun x M1 => f x M1 Q) : z1 f a r M Q := h
theorem i_newF (q : Q (.lst ds) M) : zNew false ds M Q := q
theorem i_newT (q : ∀ p, M p = none → Q (.ref p) (mup M p (.lst ds))) : zNew true ds M Q := q
theorem i_addI {n : Bool} (q : Q (.int (i + j)) M) : dAdd n (.int i) (.int j) M Q := q
theorem i_addS {n : Bool} {s t : Str} (h : s.length + t.length ≤ sizeLine) (q : Q (.str (s ++ t)) M) : dAdd n (.str s) (.str t) M Q := ⟨h, q⟩
theorem i_addL {n : Bool} (h : xs.length + ys.length ≤ sizeLine) (q : zNew n (xs ++ ys) M Q) : dAdd n (.lst xs) (.lst ys) M Q := ⟨h, q⟩
theorem i_addLR {n : Bool} {p : Addr} (e : M p = some (.lst ys)) (h : xs.length + ys.length ≤ sizeLine) (q : zNew n (xs ++ ys) M Q) : dAdd n (.lst xs) (.ref p) M Q := by
  show zL M (.ref p) _; rw [zL_ref e]; exact ⟨h, q⟩
theorem i_addRL {n : Bool} {p : Addr} (e : M p = some (.lst xs)) (h : xs.length + ys.length ≤ sizeLine) (q : zNew n (xs ++ ys) M Q) : dAdd n (.ref p) (.lst ys) M Q := by
  show zL M (.ref p) _; rw [zL_ref e]; exact ⟨h, q⟩
theorem i_addRR {n : Bool} {p p' : Addr} (e : M p = some (.lst xs)) (e' : M p' = some (.lst ys)) (h : xs.length + ys.length ≤ sizeLine) (q : zNew n (xs ++ ys) M Q) : dAdd n (.ref p) (.ref p') M Q := by
  show zL M (.ref p) _; rw [zL_ref e, zL_ref e']; exact ⟨h, q⟩
theorem i_sub (q : Q (.int (i - j)) M) : dSub (.int i) (.int j) M Q := q
theorem i_mulI {n : Bool} (h : CMul i j) (q : Q (.int (i * j)) M) : dMul n (.int i) (.int j) M Q := ⟨h, q⟩
theorem i_mulL {n : Bool} (h1 : -(2 ^ 63) ≤ k) (h2 : k < 2 ^ 63) (h : xs.length * k.toNat ≤ sizeLine) (q : zNew n (List.replicate k.toNat xs).flatten M Q) : dMul n (.lst xs) (.int k) M Q := ⟨h1, h2, h, q⟩
theorem i_div (h : CDiv i j) (q : Q (.int (i / j)) M) : dDiv (.int i) (.int j) M Q := ⟨h, q⟩
theorem i_mod (h : 0 < j) (q : Q (.int (i % j)) M) : dMod (.int i) (.int j) M Q := ⟨h, q⟩
theorem i_pow (h : CPow i j) (q : Q (.int (i ^ j.toNat)) M) : dPow (.int i) (.int j) M Q := ⟨h, q⟩
theorem i_shr (h : 0 ≤ j) (q : Q (.int (i / 2 ^ j.toNat)) M) : dShr (.int i) (.int j) M Q := ⟨h, q⟩
theorem i_band (q : Q (.int (Builtin.bitAnd i j)) M) : dAnd (.int i) (.int j) M Q := q
theorem i_bxor (q : Q (.int (Builtin.bitXor i j)) M) : dXor (.int i) (.int j) M Q := q
theorem i_neg (q : Q (.int (-i)) M) : dNeg (.int i) M Q := q
theorem i_lt (q : Q (.bl (decide (i < j))) M) : dCmp pLt (.int i) (.int j) M Q := q
theorem i_le (q : Q (.bl (decide (i ≤ j))) M) : dCmp pLe (.int i) (.int j) M Q := q
theorem i_gt (q : Q (.bl (decide (j < i))) M) : dCmp pGt (.int i) (.int j) M Q := q
theorem i_ge (q : Q (.bl (decide (j ≤ i))) M) : dCmp pGe (.int i) (.int j) M Q := q
/-! equality -/
def nref : D → Bool
  | .ref _ => false
  | _ => true
/-- plain, and not deeper than n -/
structure Pl (n : Nat) (x : D) : Prop where
  p : Zl.plain x = true
  d : dep x ≤ n
theorem Pl.nref {n : Nat} (h : Pl n x) : Zl.nref x = true := by
  cases x <;> first | rfl | exact absurd h.p (by simp [Zl.plain])
theorem Pl.mono {n m : Nat} (h : Pl n x) (l : n ≤ m) : Pl m x := ⟨h.p, Nat.le_trans h.d l⟩
theorem Pl.int (n : Nat) (i : Int) : Pl n (.int i) := ⟨rfl, Nat.zero_le _⟩
theorem Pl.bl (n : Nat) (b : Bool) : Pl n (.bl b) := ⟨rfl, Nat.zero_le _⟩
theorem Pl.str (n : Nat) (s : Str) : Pl n (.str s) := ⟨rfl, Nat.zero_le _⟩
theorem Pl.non (n : Nat) : Pl n .non := ⟨rfl, Nat.zero_le _⟩
theorem plains_all : ∀ {ds : List D}, (∀ x ∈ ds, Zl.plain x = true) → plains ds = true
  | [], _ => rfl
  | d :: r, h => by
    show (Zl.plain d && plains r) = true
    rw [h d List.mem_cons_self, plains_all fun x hx => h x (List.mem_cons_of_mem _ hx)]; rfl
theorem deps_all {n : Nat} : ∀ {ds : List D}, (∀ x ∈ ds, dep x ≤ n) → PyData.depthAll (toPs ds) ≤ n
  | [], _ => Nat.zero_le _
  | d :: r, h => by
    show max (toP d).depth (PyData.depthAll (toPs r)) ≤ n
    exact Nat.max_le.mpr ⟨h d List.mem_cons_self, deps_all fun x hx => h x (List.mem_cons_of_mem _ hx)⟩
theorem Pl.lst {n : Nat} (h : ∀ x ∈ ds, Pl n x) : Pl (n + 1) (.lst ds) := ⟨plains_all fun x hx => (h x hx).p, Nat.succ_le_succ (deps_all fun x hx => (h x hx).d)⟩
theorem Pl.tup {n : Nat} (h : ∀ x ∈ ds, Pl n x) : Pl (n + 1) (.tup ds) := ⟨plains_all fun x hx => (h x hx).p, Nat.succ_le_succ (deps_all fun x hx => (h x hx).d)⟩
theorem Pl.flat {n : Nat} (h : flatD x = true) : Pl n x := by
  cases x with
  | non => exact .non n
  | bl b => exact .bl n b
  | int i => exact .int n i
  | str s => exact .str n s
  | _ => cases h
theorem Pl.lflat {n : Nat} (h : ds.all flatD = true) : Pl (n + 1) (.lst ds) := .lst fun x hx => .flat (List.all_eq_true.mp h x hx)
theorem Pl.tflat {n : Nat} (h : ds.all flatD = true) : Pl (n + 1) (.tup ds) := .tup fun x hx => .flat (List.all_eq_true.mp h x hx)
theorem Pl.ints {n : Nat} (ns : List Int) : Pl (n + 1) (.lst (ns.map D.int)) := .lst fun x hx => by
  obtain ⟨i, _, e⟩ := List.mem_map.mp hx
  subst e; exact .int n i
theorem Pl.two {n : Nat} (h : Pl n x) (h' : Pl n y) : Pl (n + 1) (.tup [x, y]) := .tup fun z hz => by
  rcases List.mem_cons.mp hz with e | hz
  · subst e; exact h
  · rcases List.mem_cons.mp hz with e | hz
    · subst e; exact h'
    · cases hz
theorem i_eqG {x' y' : D} (rx : Rs M x x') (ry : Rs M y y') (hx : Pl 64 x') (hy : Pl 64 y') (q : Q (.bl (eqD x' y')) M) : dEq x y M Q := ⟨x', rx, y', ry, hx.p, hy.p, .inl hx.d, q⟩
theorem i_neG {x' y' : D} (rx : Rs M x x') (ry : Rs M y y') (hx : Pl 64 x') (hy : Pl 64 y') (q : Q (.bl (!eqD x' y')) M) : dNe x y M Q := ⟨x', rx, y', ry, hx.p, hy.p, .inl hx.d, q⟩
theorem Rs.at {p : Addr} (e : M p = some (.lst xs)) : Rs M (.ref p) (.lst xs) := .ref e (.refl M xs)
theorem i_eq (hx : Pl 64 x) (hy : Pl 64 y) (q : Q (.bl (eqD x y)) M) : dEq x y M Q := i_eqG (.refl _) (.refl _) hx hy q
theorem i_ne (hx : Pl 64 x) (hy : Pl 64 y) (q : Q (.bl (!eqD x y)) M) : dNe x y M Q := i_neG (.refl _) (.refl _) hx hy q
theorem i_eqR {p : Addr} (e : M p = some (.lst xs)) (hx : Pl 64 (.lst xs)) (hy : Pl 64 y) (q : Q (.bl (eqD (.lst xs) y)) M) : dEq (.ref p) y M Q := i_eqG (.at e) (.refl _) hx hy q
theorem i_neR {p : Addr} (e : M p = some (.lst xs)) (hx : Pl 64 (.lst xs)) (hy : Pl 64 y) (q : Q (.bl (!eqD (.lst xs) y)) M) : dNe (.ref p) y M Q := i_neG (.at e) (.refl _) hx hy q
theorem i_eqLR {p : Addr} (e : M p = some (.lst ys)) (hx : Pl 64 x) (hy : Pl 64 (.lst ys)) (q : Q (.bl (eqD x (.lst ys))) M) : dEq x (.ref p) M Q := i_eqG (.refl _) (.at e) hx hy q
theorem i_neLR {p : Addr} (e : M p = some (.lst ys)) (hx : Pl 64 x) (hy : Pl 64 (.lst ys)) (q : Q (.bl (!eqD x (.lst ys))) M) : dNe x (.ref p) M Q := i_neG (.refl _) (.at e) hx hy q
@[simp] theorem eqD_int (i j : Int) : eqD (.int i) (.int j) = (i == j) := rfl
@[simp] theorem eqD_str (s t : Str) : eqD (.str s) (.str t) = (s == t) := rfl
@[simp] theorem eqD_bl (s t : Bool) : eqD (.bl s) (.bl t) = (s == t) := rfl
@[simp] theorem eqD_lst (s t : List D) : eqD (.lst s) (.lst t) = eqDs s t := rfl
@[simp] theorem eqD_tup (s t : List D) : eqD (.tup s) (.tup t) = eqDs s t := rfl
@[simp] theorem eqD_is (i : Int) (s : Str) : eqD (.int i) (.str s) = false := rfl
@[simp] theorem eqD_si (i : Int) (s : Str) : eqD (.str s) (.int i) = false := rfl
@[simp] theorem eqDs_nil : eqDs [] [] = true := rfl
@[simp] theorem eqDs_cons (x y : D) (s t : List D) : eqDs (x :: s) (y :: t) = (eqD x y && eqDs s t) := rfl
@[simp] theorem eqDs_nc (y : D) (t : List D) : eqDs [] (y :: t) = false := rfl
@[simp] theorem eqDs_cn (x : D) (s : List D) : eqDs (x :: s) [] = false := rfl
/-! in, is -/
theorem i_inL {n : Bool} (h1 : flatD x = true) (h2 : ys.all flatD = true) (q : Q (.bl (if n then !inD x ys else inD x ys)) M) : dIn n x (.lst ys) M Q := ⟨h1, h2, q⟩
theorem i_inT {n : Bool} (h1 : flatD x = true) (h2 : ys.all flatD = true) (q : Q (.bl (if n then !inD x ys else inD x ys)) M) : dIn n x (.tup ys) M Q := ⟨h1, h2, q⟩
theorem i_isN (q : Q (.bl (isN x)) M) : dIs x .non M Q := q
theorem i_isNotN (q : Q (.bl (!isN x)) M) : dIsNot x .non M Q := q
theorem i_isB {s t : Bool} (q : Q (.bl (decide (s = t))) M) : dIs (.bl s) (.bl t) M Q := q
theorem i_isNotB {s t : Bool} (q : Q (.bl (!decide (s = t))) M) : dIsNot (.bl s) (.bl t) M Q := q
/-! subscripts -/
theorem i_ixL (h : atI ds i = some d) (q : Q d M) : dIx (.lst ds) (.int i) M Q := by
  show (match atI ds i with | some d => Q d M | none => False); rw [h]; exact q
theorem i_ixT (h : atI ds i = some d) (q : Q d M) : dIx (.tup ds) (.int i) M Q := by
  show (match atI ds i with | some d => Q d M | none => False); rw [h]; exact q
theorem i_ixR {p : Addr} (e : M p = some (.lst ds)) (h : atI ds i = some d) (q : Q d M) : dIx (.ref p) (.int i) M Q := by
  show zLT M (.ref p) _; rw [zLT_ref e, h]; exact q
theorem i_ixS {s : Str} {ch : Nat} (h : atI s.cps.toList i = some ch) (q : Q (.str ⟨#[ch]⟩) M) : dIx (.str s) (.int i) M Q := by
  show (match atI s.cps.toList i with | some c => Q (.str ⟨#[c]⟩) M | none => False); rw [h]; exact q
/-- slices, by the values of their parts -/
def dSl (n : Bool) (x : D) (l h : Option Int) (M : Mh) (Q : QZ) : Prop := match x with
  | .str s => Q (.str (cutS s l h)) M
  | x => zL M x fun ds => zNew n (cutD ds l h) M Q
theorem i_sl {n : Bool} {lo hi : ZO} (h : a r M fun x M1 => lo r M1 fun l M2 => hi r M2 fun h M3 => dSl n x l h M3 Q) : zSl n a lo hi r M Q := h
theorem i_part {Q : Option Int → Mh → Prop} (h : a r M fun d M1 => onInt d fun i => Q (some i) M1) : zPart a r M Q := h
theorem i_nopart {Q : Option Int → Mh → Prop} (q : Q none M) : zNoPart r M Q := q
theorem i_onInt {k : Int → Prop} (h : k i) : onInt (.int i) k := h
theorem i_slL {n : Bool} {l h : Option Int} (q : zNew n (cutD ds l h) M Q) : dSl n (.lst ds) l h M Q := q
theorem i_slR {n : Bool} {l h : Option Int} {p : Addr} (e : M p = some (.lst ds)) (q : zNew n (cutD ds l h) M Q) : dSl n (.ref p) l h M Q := by
  show zL M (.ref p) _; rw [zL_ref e]; exact q
theorem i_slS {n : Bool} {l h : Option Int} {s : Str} (q : Q (.str (cutS s l h)) M) : dSl n (.str s) l h M Q := q
/-! truth -/
theorem i_B (h : a r M fun d M1 => onBl d fun b => QB b M1) : zB a r M QB := h
theorem i_onBl {k : Bool → Prop} {b : Bool} (h : k b) : onBl (.bl b) k := h
theorem i_and (h : t r M fun b M1 => bsel b (u r M1 QB) (QB false M1)) : zAnd t u r M QB := h
theorem i_or (h : t r M fun b M1 => bsel b (QB true M1) (u r M1 QB)) : zOr t u r M QB := h
theorem i_not (h : t r M fun b M1 => QB (!b) M1) : zNot t r M QB := h
theorem i_andV (h : a r M fun d M1 => onBl d fun c => bsel c (b r M1 Q) (Q (.bl false) M1)) : zAndV a b r M Q := h
theorem i_orV (h : a r M fun d M1 => onBl d fun c => bsel c (Q (.bl true) M1) (b r M1 Q)) : zOrV a b r M Q := h
theorem i_notV (h : a r M fun d M1 => onBl d fun b => Q (.bl (!b)) M1) : zNotV a r M Q := h
theorem i_ifE (h : t r M fun c M1 => bsel c (a r M1 Q) (b r M1 Q)) : zIfE t a b r M Q := h
theorem i_chain (h : a r M fun x M1 => b r M1 fun y M2 => f x y M2 fun z M3 => onBl z fun k => bsel k (c r M3 fun u M4 => g y u M4 Q) (Q (.bl false) M3)) : zChain f g a b c r M Q := h
theorem i_bT {A B : Prop} (h : A) : bsel true A B := h
theorem i_bF {A B : Prop} (h : B) : bsel false A B := h
theorem i_b {A B : Prop} {b : Bool} (h1 : b = true → A) (h2 : b = false → B) : bsel b A B := by cases b with | true => exact h1 rfl | false => exact h2 rfl
theorem i_bd {A B C : Prop} [Decidable C] (h1 : C → A) (h2 : ¬ C → B) : bsel (decide C) A B := i_b (fun e => h1 (of_decide_eq_true e)) fun e => h2 (of_decide_eq_false e)
theorem i_bdT {A B C : Prop} [Decidable C] (c : C) (h : A) : bsel (decide C) A B := by rw [decide_eq_true c]; exact h
theorem i_bdF {A B C : Prop} [Decidable C] (c : ¬ C) (h : B) : bsel (decide C) A B := by rw [decide_eq_false c]; exact h
theorem i_bnT {A B : Prop} {b : Bool} (e : b = true) (h : B) : bsel (!b) A B := by rw [e]; exact h
theorem i_bnF {A B : Prop} {b : Bool} (e : b = false) (h : A) : bsel (!b) A B := by rw [e]; exact h
theorem i_beT {A B : Prop} {b : Bool} (e : b = true) (h : A) : bsel b A B := by rw [e]; exact h
theorem i_beF {A B : Prop} {b : Bool} (e : b = false) (h : B) : bsel b A B := by rw [e]; exact h
/-! arguments, displays, calls -/
theorem i_nil (q : QA [] M) : zNil r M QA := q
theorem i_cons {t : ZA} (h : a r M fun x M1 => t r M1 fun xs M2 => QA (x :: xs) M2) : zCons a t r M QA := h
theorem i_tup {t : ZA} (h : t r M fun ds M1 => ds.length ≤ sizeLine ∧ Q (.tup ds) M1) : zTup t r M Q := h
theorem i_lst {n : Bool} {t : ZA} (h : t r M fun ds M1 => ds.length ≤ sizeLine ∧ zNew n ds M1 Q) : zLst n t r M Q := h
theorem i_call {zs : ZSp} {zE : ZW} {t : ZA} (h : t r M fun ds M1 => zs ds M1 Q fun c fs M' => zE c fs r M') : zCall zs zE t r M Q := h
theorem i_cb {f : List D → Mh → QZ → Prop} {t : ZA} (h : t r M fun ds M1 => f ds M1 Q) : zCB f t r M Q := h
theorem i_lenL (q : Q (.int ds.length) M) : dLen [.lst ds] M Q := q
theorem i_lenT (q : Q (.int ds.length) M) : dLen [.tup ds] M Q := q
theorem i_lenS {s : Str} (q : Q (.int s.length) M) : dLen [.str s] M Q := q
theorem i_lenR {p : Addr} (e : M p = some (.lst ds)) (q : Q (.int ds.length) M) : dLen [.ref p] M Q := by
  show zLT M (.ref p) _; rw [zLT_ref e]; exact q
theorem i_isi {T t : String} (h : tyD M x = some t) (q : Q (.bl (isiB t T)) M) : dIsi T x M Q := by
  unfold dIsi; rw [h]; exact q
theorem i_sumL {ns : List Int} (q : Q (.int ns.sum) M) : dSum [.lst (ns.map D.int)] M Q := ⟨ns, rfl, q⟩
theorem i_sumE {ns : List Int} (h : ds = ns.map D.int) (q : Q (.int ns.sum) M) : dSum [.lst ds] M Q := ⟨ns, h, q⟩
theorem i_allE {bs : List Bool} (h : ds = bs.map D.bl) (q : Q (.bl (bs.all id)) M) : dAll [.lst ds] M Q := ⟨bs, h, q⟩
theorem i_max2 (q : Q (.int (if j > i then j else i)) M) : dMaxL [.int i, .int j] M Q := q
theorem i_min2 (q : Q (.int (if j < i then j else i)) M) : dMinL [.int i, .int j] M Q := q
theorem i_listL {n : Bool} (q : zNew n ds M Q) : dList n [.lst ds] M Q := q
theorem i_listT {n : Bool} (q : zNew n ds M Q) : dList n [.tup ds] M Q := q
theorem i_listR {n : Bool} {p : Addr} (e : M p = some (.lst ds)) (q : zNew n ds M Q) : dList n [.ref p] M Q := by
  show zLT M (.ref p) _; rw [zLT_ref e]; exact q
theorem i_tuple (q : Q (.tup ds) M) : dTuple [.lst ds] M Q := q
theorem i_divmod (h : CDiv i j) (q : Q (.tup [.int (i / j), .int (i % j)]) M) : dDivmod [.int i, .int j] M Q := ⟨h, q⟩
theorem i_abs (q : Q (.int (if i < 0 then -i else i)) M) : dAbs [.int i] M Q := q
theorem i_m {T : String} {f : D → List D → Mh → QZ → Prop} {t : ZA} (h : a r M fun x M1 => tyD M1 x = some T ∧ t r M1 fun ds M2 => f x ds M2 Q) : zM T f a t r M Q := h
theorem i_app {p : Addr} (e : M p = some (.lst ds)) (h : ds.length < sizeLine) (q : Q .non (mup M p (.lst (ds ++ [d])))) : dApp (.ref p) [d] M Q := by
  have z : dApp (.ref p) [d] M Q = zR M (.ref p) (fun p l => l.length < sizeLine ∧ Q .non (mup M p (.lst (l ++ [d])))) := rfl
  rw [z, zR_ref e]; exact ⟨h, q⟩
theorem i_ext {p : Addr} (e : M p = some (.lst ds)) (h : ds.length + ys.length ≤ sizeLine) (q : Q .non (mup M p (.lst (ds ++ ys)))) : dExt (.ref p) [.lst ys] M Q := by
  have z : dExt (.ref p) [.lst ys] M Q = zR M (.ref p) (fun p l => zL M (.lst ys) fun m => l.length + m.length ≤ sizeLine ∧ Q .non (mup M p (.lst (l ++ m)))) := rfl
  rw [z, zR_ref e]; exact ⟨h, q⟩
theorem tyD_ref {p : Addr} (e : M p = some (.lst ds)) : tyD M (.ref p) = some "list" := by
  show (match M p with | some (.lst _) => some "list" | _ => none) = _; rw [e]
theorem i_tix {t : ZA} (h : t r M fun es M1 => match es with
  | [y] => flatD y = true ∧ (match idxD y ds with | some j => Q (.int (j : Nat)) M1 | none => False)
  | _ => False) : zTIx ds t r M Q := h
end
section
variable {E : ZEnds} {r : Env} {M : Mh} {t u : ZS} {a : ZE} {c : ZT} {g : ZG} {d : D} {Q : Env → Mh → Prop}
theorem i_seq (h : t { nx := u E, rt := E.rt, bk := E.bk, ct := E.ct } r M) : zSeq t u E r M := h
theorem i_asg (h : a r M fun d M1 => g d r M1 E.nx) : zAsg a g E r M := h
theorem i_name {i : Nat} (h : Q (st r i (some d)) M) : zgName i d r M Q := h
theorem i_gtup {n : Nat} {gs : ZGs} {ds : List D} (e : ds.length = n) (h : gs ds r M Q) : zgTup n gs (.tup ds) r M Q := ⟨e, h⟩
theorem i_gcons {gs : ZGs} {ds : List D} (h : g d r M fun r' M' => gs ds r' M' Q) : zgCons g gs (d :: ds) r M Q := h
theorem i_gnil (h : Q r M) : zgNil [] r M Q := h
theorem i_if (h : c r M fun b M1 => bsel b (t E r M1) (u E r M1)) : zIf c t u E r M := h
theorem i_ret (h : a r M E.rt) : zRet a E r M := h
theorem i_retN (h : E.rt .non M) : zRetN E r M := h
theorem i_drop (h : a r M fun _ M1 => E.nx r M1) : zDrop a E r M := h
theorem i_next (h : E.nx r M) : zNext E r M := h
theorem i_brk (h : E.bk r M) : zBreak E r M := h
theorem i_for {zi : ZI} {tb : ZS} (h : zi r M fun ds c M1 => zLoop c (zStep g tb E) E.nx ds r M1) : zFor zi g tb E r M := h
theorem i_while {tb : ZS} (n : Nat) (h : zWhileN c tb E n r M) : zWhile c tb E r M := ⟨n, h⟩
theorem i_raise {zE : ZW} {x : Str} (h : zE x [] r M) : zRaise zE x E r M := h
theorem i_gsub {o i : ZE} (h : o r M fun x M1 => i r M1 fun y M2 => dSet x y d M2 fun M3 => Q r M3) : zgSub o i d r M Q := h
theorem i_set {p : Addr} {n : Int} {j : Nat} {ds : List D} {k : Mh → Prop} (e : M p = some (.lst ds)) (h : ixN ds.length n = some j) (q : k (mup M p (.lst (ds.set j d)))) : dSet (.ref p) (.int n) d M k := by
  show (match M p with | some (.lst ds) => (match ixN ds.length n with | some j => k (mup M p (.lst (ds.set j d))) | none => False) | _ => False)
  rw [e]; simp only [h]; exact q
theorem i_rtG {R : QZ} (h : R d M) : (enB true R).rt d M := ⟨d, M, .refl, h⟩
theorem i_rtF {R : QZ} {p : Addr} {ds : List D} (e : M p = some (.lst ds)) (h : R (.lst ds) (mdel M p)) : (enB true R).rt (.ref p) M := ⟨_, _, .frz e, by unfold frzD; rw [if_pos rfl]; exact h⟩
theorem i_rt0 {R : QZ} (h : R d M) : (enB false R).rt d M := h
theorem i_ex0 {RE : ZX} {x : Str} {fs : List (Str × D)} (h : RE x fs M) : exB false RE x fs r M := h
theorem i_exG {RE : ZX} {x : Str} {fs : List (Str × D)} (h : RE x fs M) : exB true RE x fs r M := ⟨M, Less.refl M, h⟩
theorem i_nx0 {R : QZ} (h : R .non M) : (enB false R).nx r M := h
theorem i_nxG {R : QZ} (h : R .non M) : (enB true R).nx r M := ⟨M, Less.refl M, h⟩
end
/-! ### loops and comprehensions by what holds -/
theorem zLoop_ind {c : Ck} {step : D → (Env → Mh → Prop) → Env → Mh → Prop} {nx : Env → Mh → Prop} (P : List D → Env → Mh → Prop) (hd : ∀ r M, P [] r M → zck c M (nx r M)) (hs : ∀ d l r M (k : Env → Mh → Prop), P (d :: l) r M → (∀ r' M', P l r' M' → k r' M') → zck c M (step d k r M)) :
    ∀ {ds : List D} {r : Env} {M : Mh}, P ds r M → zLoop c step nx ds r M
  | [], r, M, h => hd r M h
  | d :: l, r, M, h => hs d l r M _ h fun r' M' h' => zLoop_ind P hd hs h'
theorem zLcL_ind {c : Ck} {step : D → Mh → (Option D → Mh → Prop) → Prop} {k : List D → Mh → Prop} (P : List D → List D → Mh → Prop) (hd : ∀ acc M, P [] acc M → zck c M (k acc M))
    (hs : ∀ d l acc M (q : Option D → Mh → Prop), P (d :: l) acc M → (∀ M', P l acc M' → q none M') → (∀ y M', P l (acc ++ [y]) M' → q (some y) M') → zck c M (step d M q)) :
    ∀ {ds acc : List D} {M : Mh}, P ds acc M → zLcL c step k ds acc M
  | [], acc, M, h => hd acc M h
  | d :: l, acc, M, h => hs d l acc M _ h (fun M' h' => zLcL_ind P hd hs h') (fun y M' h' => zLcL_ind P hd hs h')
/-- a comprehension that only reckons -/
theorem zLcL_map {step : D → Mh → (Option D → Mh → Prop) → Prop} {k : List D → Mh → Prop} (f : D → D) {M : Mh} : ∀ {ds acc : List D}, (∀ d, d ∈ ds → ∀ Q : Option D → Mh → Prop, Q (some (f d)) M → step d M Q) → k (acc ++ ds.map f) M → zLcL none step k ds acc M
  | [], acc, _, h => by
    show k acc M
    simpa using h
  | d :: l, acc, hs, h => by
    show step d M _
    refine hs d List.mem_cons_self _ ?_
    show zLcL none step k l (acc ++ [f d]) M
    exact zLcL_map f (fun e he => hs e (List.mem_cons_of_mem _ he)) (by simpa using h)
/-- .. with a test -/
theorem zLcL_filter {step : D → Mh → (Option D → Mh → Prop) → Prop} {k : List D → Mh → Prop} (p : D → Bool) (f : D → D) {M : Mh} : ∀ {ds acc : List D}, (∀ d, d ∈ ds → ∀ Q : Option D → Mh → Prop, (p d = true → Q (some (f d)) M) → (p d = false → Q none M) → step d M Q) → k (acc ++ (ds.filter p).map f) M → zLcL none step k ds acc M
  | [], acc, _, h => by
    show k acc M
    simpa using h
  | d :: l, acc, hs, h => by
    show step d M _
    refine hs d List.mem_cons_self _ (fun hp => ?_) (fun hp => ?_)
    · show zLcL none step k l (acc ++ [f d]) M
      exact zLcL_filter p f (fun e he => hs e (List.mem_cons_of_mem _ he)) (by simpa [List.filter_cons, hp] using h)
    · show zLcL none step k l acc M
      exact zLcL_filter p f (fun e he => hs e (List.mem_cons_of_mem _ he)) (by simpa [List.filter_cons, hp] using h)
theorem i_lc {nb : Bool} {zi : ZI} {g : ZG} {tt : ZT} {te : ZE} {vs : List Nat} {r : Env} {M : Mh} {Q : QZ} (h : zi r M fun ds c M1 => zLcL c (zLcS g tt te (zwipe r vs)) (fun acc M2 => zNew nb acc M2 Q) ds [] M1) : zLc nb zi g tt te vs r M Q := h
theorem i_lcS {g : ZG} {tt : ZT} {te : ZE} {r : Env} {d : D} {M : Mh} {Q : Option D → Mh → Prop} (h : g d r M fun r' M' => tt r' M' fun b M1 => bsel b (te r' M1 fun y M2 => Q (some y) M2) (Q none M1)) : zLcS g tt te r d M Q := h
theorem i_yes {r : Env} {M : Mh} {Q : Bool → Mh → Prop} (h : Q true M) : zYes r M Q := h
theorem i_iLl {r : Env} {M : Mh} {a : ZE} {Q : List D → Ck → Mh → Prop} (h : a r M fun d M1 => onLst d M1 fun ds c => Q ds c M1) : ziList a r M Q := h
theorem i_onL {M : Mh} {ds : List D} {k : List D → Ck → Prop} (h : k ds none) : onLst (.lst ds) M k := h
theorem i_onR {M : Mh} {p : Addr} {ds : List D} {k : List D → Ck → Prop} (e : M p = some (.lst ds)) (h : k ds (some (p, ds))) : onLst (.ref p) M k := by
  show (match M p with | some (.lst ds) => k ds (some (p, ds)) | _ => False); rw [e]; exact h
theorem i_range {r : Env} {M : Mh} {ta : ZA} {Q : List D → Ck → Mh → Prop} (h : ta r M fun ds M1 => onI1 ds fun j => -(2 ^ 62) ≤ j ∧ j ≤ 16777216 ∧ Q (rangeD 0 1 j.toNat) none M1) : ziRange ta r M Q := h
theorem i_range2 {r : Env} {M : Mh} {ta : ZA} {Q : List D → Ck → Mh → Prop} (h : ta r M fun ds M1 => onI2 ds fun i j => -(2 ^ 62) ≤ i ∧ i < 2 ^ 62 ∧ -(2 ^ 62) ≤ j ∧ j < 2 ^ 62 ∧ j - i ≤ 16777216 ∧ Q (rangeD i 1 (j - i).toNat) none M1) : ziRange2 ta r M Q := h
theorem i_onI1 {k : Int → Prop} {i : Int} (h : k i) : onI1 [.int i] k := h
theorem i_onI2 {k : Int → Int → Prop} {i j : Int} (h : k i j) : onI2 [.int i, .int j] k := h
theorem i_iT {r : Env} {M : Mh} {a : ZE} {Q : List D → Ck → Mh → Prop} (h : a r M fun d M1 => onTup d fun ds => Q ds none M1) : ziTup a r M Q := h
theorem i_onT {ds : List D} {k : List D → Prop} (h : k ds) : onTup (.tup ds) k := h
theorem i_iS {r : Env} {M : Mh} {a : ZE} {Q : List D → Ck → Mh → Prop} (h : a r M fun d M1 => onStr d fun s => Q (charsD s) none M1) : ziStr a r M Q := h
theorem i_onS {s : Str} {k : Str → Prop} (h : k s) : onStr (.str s) k := h
theorem i_par2 {E : ZEnds} {r : Env} {M : Mh} {i j : Nat} {ta : ZA} (h : ta r M fun ds M1 => on2 ds fun x y => E.nx (st (st r i (some x)) j (some y)) M1) : zPar i j ta E r M := h
theorem i_on2 {x y : D} {k : D → D → Prop} (h : k x y) : on2 [x, y] k := h
theorem rangeD_map (lo : Int) : ∀ (n : Nat), rangeD lo 1 n = (List.range n).map fun (k : Nat) => D.int (lo + (k : Nat)) := by
  intro n
  apply List.ext_getElem?
  intro i
  by_cases h : i < n
  · have h1 : i < (rangeD lo 1 n).length := by rw [rangeD_len]; exact h
    obtain ⟨_, e⟩ := rangeD_get n lo 1 i _ (List.getElem?_eq_getElem h1)
    rw [List.getElem?_eq_getElem h1, e, List.getElem?_map, List.getElem?_range h]
    simp
  · rw [List.getElem?_eq_none (by rw [rangeD_len]; omega), List.getElem?_eq_none (by simp; omega)]
theorem i_ck0 {M : Mh} {P : Prop} (h : P) : zck none M P := h
theorem i_step {g : ZG} {tb : ZS} {E : ZEnds} {d : D} {k : Env → Mh → Prop} {r : Env} {M : Mh} (h : g d r M fun r' M' => tb { nx := k, rt := E.rt, bk := E.nx, ct := k } r' M') : zStep g tb E d k r M := h
/-- a new list goes out, as one that stays -/
theorem i_rtN {R : QZ} {M : Mh} {p : Addr} {ds : List D} (hp : M p = none) (h : R (.lst ds) M) : (enB true R).rt (.ref p) (mup M p (.lst ds)) := i_rtF mup_same (by rw [mdel_mup hp]; exact h)
/-! steps that close their own conditions -/
theorem i_sz {n : Nat} {P : Prop} (h : n ≤ sizeLine) (q : P) : n ≤ sizeLine ∧ P := ⟨h, q⟩
theorem i_rg {j : Int} {P : Prop} (h : -(2 ^ 62) ≤ j) (h' : j ≤ 16777216) (q : P) : -(2 ^ 62) ≤ j ∧ j ≤ 16777216 ∧ P := ⟨h, h', q⟩
theorem i_ty {M : Mh} {x : D} {T : String} {P : Prop} (h : tyD M x = some T) (q : P) : tyD M x = some T ∧ P := ⟨h, q⟩
theorem i_lenIs {M : Mh} {Q : QZ} {α : Type} {f : α → D} {as : List α} (q : Q (.int as.length) M) : dLen [.lst (as.map f)] M Q := by
  show Q (.int (as.map f).length) M; rw [List.length_map]; exact q
theorem i_lenRs {M : Mh} {Q : QZ} {α : Type} {f : α → D} {as : List α} {p : Addr} (e : M p = some (.lst (as.map f))) (q : Q (.int as.length) M) : dLen [.ref p] M Q := i_lenR e (by rw [List.length_map]; exact q)
theorem i_eqII {M : Mh} {Q : QZ} {i j : Int} (q : Q (.bl (decide (i = j))) M) : dEq (.int i) (.int j) M Q := i_eq (.int _ _) (.int _ _) (by
  rw [show eqD (.int i) (.int j) = decide (i = j) from rfl]; exact q)
theorem i_neII {M : Mh} {Q : QZ} {i j : Int} (q : Q (.bl (!decide (i = j))) M) : dNe (.int i) (.int j) M Q := i_ne (.int _ _) (.int _ _) (by
  rw [show eqD (.int i) (.int j) = decide (i = j) from rfl]; exact q)
theorem i_eqSS {M : Mh} {Q : QZ} {i j : Str} (q : Q (.bl (decide (i = j))) M) : dEq (.str i) (.str j) M Q := i_eq (.str _ _) (.str _ _) (by
  rw [show eqD (.str i) (.str j) = decide (i = j) from rfl]; exact q)
theorem i_neSS {M : Mh} {Q : QZ} {i j : Str} (q : Q (.bl (!decide (i = j))) M) : dNe (.str i) (.str j) M Q := i_ne (.str _ _) (.str _ _) (by
  rw [show eqD (.str i) (.str j) = decide (i = j) from rfl]; exact q)
theorem i_eqIS {M : Mh} {Q : QZ} {i : Int} {j : Str} (q : Q (.bl false) M) : dEq (.int i) (.str j) M Q := i_eq (.int _ _) (.str _ _) q
theorem i_neIS {M : Mh} {Q : QZ} {i : Int} {j : Str} (q : Q (.bl true) M) : dNe (.int i) (.str j) M Q := i_ne (.int _ _) (.str _ _) q
theorem i_bN {A B : Prop} {b : Bool} (h : bsel b B A) : bsel (!b) A B := by cases b <;> exact h
theorem i_cif {M : Mh} {Q : QZ} {b : Bool} (q : Q (.bl b) M) : Q (.bl (if false = true then !b else b)) M := q
theorem i_enum {r : Env} {M : Mh} {n : Nat} {ds : List D} {Q : List D → Ck → Mh → Prop} (h : gt r n = some (.lst ds)) (q : Q (enumD 0 ds) none M) : ziEnum (zCons (zVar n) zNil) r M Q := i_cons (i_var h (i_nil q))
theorem i_pair {r : Env} {M : Mh} {i j : Nat} {x y : D} {Q : Env → Mh → Prop} (q : Q (st (st r i (some x)) j (some y)) M) : zgPair i j (.tup [x, y]) r M Q := ⟨rfl, q⟩
theorem enumD_map {α : Type} {f : α → D} : ∀ (as : List α) (k : Nat), enumD k (as.map f) = (as.zipIdx k).map fun x => .tup [.int (x.2 : Nat), f x.1]
  | [], _ => rfl
  | a :: r, k => by
    show .tup [.int (k : Nat), f a] :: enumD (k + 1) (r.map f) = _
    rw [enumD_map r (k + 1)]; rfl
theorem i_inTT {M : Mh} {Q : QZ} {x : D} {ys : List D} (h1 : Pl 64 x) (h2 : Pl 64 (.tup ys)) (q : Q (.bl (ys.any fun z => eqD z x)) M) : dInT x (.tup ys) M Q := ⟨h1.p, h2.p, h1.d, h2.d, q⟩
theorem atI_hd {d : D} {l : List D} : atI (d :: l) (0 : Int) = some d := by
  unfold atI ixN
  rw [if_pos (by decide), if_pos (by rw [List.length_cons]; omega)]; rfl
theorem i_ixH {M : Mh} {Q : QZ} {d : D} {l : List D} (q : Q d M) : dIx (.lst (d :: l)) (.int 0) M Q := i_ixL atI_hd q
end Zl

/-! Zl12: what is never reached; xs[a:b:c]; sorted(xs, reverse=True); list(range(..)); left-out defaults -/
namespace Zl
open PySem L2
section
variable {X : Cx} {F0 : Fz}
/-- a statement that is never reached -/
def zNo : ZS := fun _ _ _ => False
theorem zs_no {st1 : Stmt} : PS X st1 (US X F0 zNo) := ⟨fun pins s r H E I h => by
  obtain ⟨F, rr, M, Z, s0, w, e, h, k⟩ := h
  exact h.elim⟩
def zNoE : ZE := fun _ _ _ => False
theorem ze_no {e : Expr} : PE X e (UE X F0 zNoE) := ⟨fun pins s r H Q I h => by
  obtain ⟨F, rr, M, R, s0, w, e, h, k⟩ := h
  exact h.elim⟩
/-! ### xs[a:b:c] -/
/-- the places of a slice -/
def pickN (n : Nat) (lo hi st : Option Int) : List Nat := sliceRange (sliceBounds lo hi st n).1 (sliceBounds lo hi st n).2.1 (sliceBounds lo hi st n).2.2
def pickL {α : Type} (ds : List α) (lo hi st : Option Int) : List α := (pickN ds.length lo hi st).filterMap (ds[·]?)
theorem pickL_map {α β : Type} (f : α → β) (ds : List α) (lo hi st : Option Int) : pickL (ds.map f) lo hi st = (pickL ds lo hi st).map f := by
  unfold pickL
  rw [List.length_map, List.map_filterMap]
  congr 1
  funext i
  rw [List.getElem?_map]
theorem vals_pick {vs : List V} {us : List Value} (h : Vals vs us) : ∀ l : List Nat, Vals (l.filterMap (vs[·]?)) (l.filterMap (us[·]?))
  | [] => .nil
  | i :: l => by
    cases e : vs[i]? with
    | none =>
      have e2 : us[i]? = none := by
        rw [List.getElem?_eq_none_iff] at e ⊢
        rw [← h.length]; exact e
      rw [List.filterMap_cons_none e, List.filterMap_cons_none e2]
      exact vals_pick h l
    | some v =>
      obtain ⟨u, e2, r⟩ := h.get e
      rw [List.filterMap_cons_some e, List.filterMap_cons_some e2]
      exact .cons r (vals_pick h l)
theorem repL_pick {K : PySem.W.Frag} {mg : Str → Option Value} {F : Fz} {vs : List V} {ds : List D} (h : RepL K mg F vs ds) : ∀ l : List Nat, RepL K mg F (l.filterMap (vs[·]?)) (l.filterMap (ds[·]?))
  | [] => .nil
  | i :: l => by
    cases e : ds[i]? with
    | none =>
      have e2 : vs[i]? = none := by
        rw [List.getElem?_eq_none_iff] at e ⊢
        rw [h.length]; exact e
      rw [List.filterMap_cons_none e, List.filterMap_cons_none e2]
      exact repL_pick h l
    | some d =>
      obtain ⟨v, e2, r⟩ := h.get e
      rw [List.filterMap_cons_some e, List.filterMap_cons_some e2]
      exact .cons r (repL_pick h l)
def tSlS (K : PySem.W.Frag) (te : TE) (tl th ts : TO) : TE := fun σ H Q => te σ H fun x H1 => tl σ H1 fun l H2 => th σ H2 fun h H3 => ts σ H3 fun c H4 => c ≠ some 0 ∧ ∃ a xs, x = .ref a ∧ SqL K H4 a xs ∧ (pickL xs l h c).length ≤ sizeLine ∧ ∀ p, H4 p = none → Q (.ref p) (upd H4 p (.lst (pickL xs l h c)))
theorem pe_slS {e sp : Expr} {te : TE} {lo hi : Option Expr} {tl th ts : TO} {p3 pos : Pos} (he : PE X e te) (hl : PO X lo tl) (hh : PO X hi th) (hs : PO X (some sp) ts) : PE X (.Subscript e (.Slice lo hi (some sp) p3) pos) (tSlS X.K te tl th ts) := by
  refine ⟨fun pins s σ H Q I h => ?_⟩
  refine PyProof.Rows.Subscript_ (thn (he.run pins s σ H _ I h) fun v s1 ⟨x, H1, I1, r1, q1⟩ => ?_)
  refine wpAny_Slice (thn (hl.run pins s1 σ H1 _ I1 q1) fun vl s2 ⟨l, H2, I2, pl, q2⟩ => ?_)
  refine thn (hh.run pins s2 σ H2 _ I2 q2) fun vu s3 ⟨u, H3, I3, pu, q3⟩ => ?_
  refine thn (hs.run pins s3 σ H3 _ I3 q3) fun vs s4 ⟨o, H4, I4, ps, q4⟩ => ?_
  obtain ⟨h0, a, xs, ex, hx, hsz, q⟩ := q4
  subst ex
  cases r1
  have I5 : Inv X pins σ H4 { s4 with heap := s4.heap.push { cls := .type "slice", data := .fields #[vl, vu, vs] } } := I4.kept (t' := s4.toks) fun b ob q => Heap.get?_push_of_some _ q
  obtain ⟨its, r, ht, hz⟩ := I5.list hx
  have hlen := r.length
  show wpAny (model X.prog X.w) X.A (PyProof.Rows.subscriptTail e (.Slice lo hi (some sp) p3) (.ref a) (.ref s4.heap.objs.size)) (EP X pins σ Q) X.xe { s4 with heap := s4.heap.push { cls := .type "slice", data := .fields #[vl, vu, vs] } }
  refine PyProof.Rows.tail_any (ops := [.ref a, .ref s4.heap.objs.size]) ht.isList.typeIs (PySem.slot_list_getitem.lookup) ?_ (by with_unfolding_all rfl)
  refine wpAny_getItem_list_slice ht.isList (Heap.IsSliceOf.new _ vl vu vs) pl pu ps h0 ?_ (by rw [List.size_toArray]; omega)
  have e1 : slicePick its.toArray l u o = (((pickN xs.length l u o).filterMap (its[·]?))).toArray := by
    unfold slicePick pickN
    rw [List.size_toArray, ← hlen]
    congr 1
    congr 1
    funext i
    simp
  rw [e1]
  refine ⟨.ref _, _, I5.laid (t' := s4.toks) (o := .lst (pickL xs l u o)) (fun b ob q => Heap.get?_push_of_some _ q) (Nat.le_refl _) ?_, rfl, q _ (I5.hok.fresh (Nat.le_refl _))⟩
  exact ⟨hsz, _, 0, vals_pick r _, Heap.get?_push_size _ rfl⟩
def zSlS (b : Bool) (a : ZE) (lo hi sp : ZO) : ZE := fun r M Q => a r M fun x M1 => lo r M1 fun l M2 => hi r M2 fun h M3 => sp r M3 fun c M4 => c ≠ some 0 ∧ zL M4 x fun ds => (pickL ds l h c).length ≤ sizeLine ∧ zNew b (pickL ds l h c) M4 Q
theorem ze_slS (b : Bool) {e sp : Expr} {fa : ZE} {lo hi : Option Expr} {fl fh fs : ZO} {p3 pos : Pos} (he : PE X e (UE X F0 fa)) (hl : PO X lo (upO X.K X.mg F0 fl)) (hh : PO X hi (upO X.K X.mg F0 fh)) (hs : PO X (some sp) (upO X.K X.mg F0 fs)) : PE X (.Subscript e (.Slice lo hi (some sp) p3) pos) (UE X F0 (zSlS b fa fl fh fs)) :=
  pe_imp (pe_slS he hl hh hs) fun s H Q h => by
  obtain ⟨F, rr, M, R, s0, w, e, h, k⟩ := h
  refine ⟨F, rr, M, _, s0, w, e, h, fun x M1 h1 F1 H1 v s1 w1 r1 => ⟨F1, rr, M1, _, s0.trans s1, w1, e.mono s1, h1, fun l M2 h2 F2 H2 s2 w2 => ⟨F2, rr, M2, _, s0.trans (s1.trans s2), w2, e.mono (s1.trans s2), h2, fun l2 M3 h3 F3 H3 s3 w3 => ⟨F3, rr, M3, _, s0.trans (s1.trans (s2.trans s3)), w3, e.mono (s1.trans (s2.trans s3)), h3, fun c M4 h4 F4 H4 s4 w4 => ?_⟩⟩⟩⟩
  obtain ⟨h0, h4⟩ := h4
  obtain ⟨p, vs, ds, rfl, e1, len, rl, h5, h6⟩ := zL_out w4 (r1.mono (s2.trans (s3.trans s4))) h4
  have el : vs.length = ds.length := rl.length
  have rp : RepL X.K X.mg F4 (pickL vs l l2 c) (pickL ds l l2 c) := by unfold pickL; rw [el]; exact repL_pick rl _
  exact ⟨h0, p, vs, rfl, SqL.of e1, by rw [rp.length]; exact h5, zNew_out w4 (by rw [rp.length]; exact h5) rp h6 (k.mono (s1.trans (s2.trans (s3.trans s4))))⟩
/-! ### sorted(xs, reverse=True) -/
def dSortedR (b : Bool) (ds : List D) (M : Mh) (Q : QZ) : Prop := match ds with
  | [x] => zL M x fun l => ∃ ns : List Int, l = ns.map D.int ∧ ∀ ns' : List Int, ns'.Perm ns → ns'.Pairwise (· ≥ ·) → zNew b (ns'.map D.int) M Q
  | _ => False
theorem ze_sortedR (b : Bool) {a : Expr} {t : ZA} {j : Nat} {p pos kpos kp2 : Pos} (hm : X.mg "sorted" = none) (hv : bootBuiltins "sorted" = some (.builtin "sorted")) (ha : PA X [a] (UA X F0 t)) (hg : Gl X "sorted" := by rfl)
    (he : backTo pos (starEach [a] X.env) = (false, eval a X.env) :: backTo pos (starEach [] X.env) := by rfl) (hpl : (backTo pos (starEach [a] X.env)).any (·.1) = false := by rfl)
    (hall : (backToKw pos (keywordEach [⟨some (Str.ofString "reverse"), .Constant (.bool true) j kp2, kpos⟩] X.env)).all (·.1.isSome) = true := by rfl) (hnone : (backToKw pos (keywordEach [⟨some (Str.ofString "reverse"), .Constant (.bool true) j kp2, kpos⟩] X.env)).any (·.1.isNone) = false := by rfl) (hks : (backToKw pos (keywordEach [⟨some (Str.ofString "reverse"), .Constant (.bool true) j kp2, kpos⟩] X.env)).filterMap (·.1) = [Str.ofString "reverse"] := by rfl) :
    PE X (.Call (.Name "sorted" p) [a] [⟨some (Str.ofString "reverse"), .Constant (.bool true) j kp2, kpos⟩] pos) (UE X F0 (zCB (dSortedR b) t)) :=
  pe_imp (pe_callBK (cr_sortedRev (b := true)) hg hm hv ha (pk_cons pe_bl pk_nil) (by decide) (by decide) he hpl hall hnone hks) fun s H Q h => by
  obtain ⟨F, rr, M, R, s0, w, e, h, k⟩ := h
  refine ⟨F, rr, M, _, s0, w, e, h, fun ds M1 h1 F1 H1 vs s1 w1 r1 => ?_⟩
  unfold dSortedR at h1
  split at h1
  · cases r1 with
    | cons r1 rl =>
      cases rl
      obtain ⟨a, vs, es, rfl, e, l, rl, ns, rfl, h⟩ := zL_out w1 r1 h1
      have hv := rl.ints_of
      subst hv
      refine ⟨a, ns, rfl, rfl, SqL.of e, fun ns' p hp hs hn => zNew_out w1 ?_ (RepL.ints ns') (h ns' hp hs) (k.mono s1) p hn⟩
      rw [List.length_map, hp.length_eq]; rw [List.length_map] at l; exact l
  · exact h1.elim
/-! ### list(range(..)) -/
def dLrg (b : Bool) (i j : Int) (M : Mh) (Q : QZ) : Prop := RgOk i j ∧ zNew b (rangeD i 1 (j - i).toNat) M Q
def zLrg1 (b : Bool) (ta : ZA) : ZE := fun r M Q => ta r M fun ds M1 => onI1 ds fun j => dLrg b 0 j M1 Q
def zLrg2 (b : Bool) (ta : ZA) : ZE := fun r M Q => ta r M fun ds M1 => onI2 ds fun i j => dLrg b i j M1 Q
theorem rgV_rep {K : PySem.W.Frag} {mg : Str → Option Value} {F : Fz} (i j : Int) : RepL K mg F (rgV i j) (rangeD i 1 (j - i).toNat) := by
  rw [rangeD_map]
  unfold rgV
  generalize List.range (j - i).toNat = l
  induction l with
  | nil => exact .nil
  | cons a l ih => exact .cons (.int _) ih
theorem rg_out {K : PySem.W.Frag} {mg : Str → Option Value} {F : Fz} {H : Hp} {M : Mh} {b : Bool} {i j : Int} {R : QZ} {Q : VK} (w : Wd K mg F H M) (h : dLrg b i j M R) (k : Kq K mg F R Q) : RgOk i j ∧ ∀ q, H q = none → Q (.ref q) (upd H q (.lst (rgV i j))) :=
  ⟨h.1, zNew_out w (by rw [rgV_length, sizeLine_eq]; have := h.1.2.2.2.2; omega) (rgV_rep i j) h.2 k⟩
theorem ze_lrg1 (b : Bool) {a : Expr} {fa : ZE} {p p2 pos pos2 : Pos} (hc : X.calm = true) (hm : X.mg "list" = none) (hm2 : X.mg "range" = none) (ha : PE X a (UE X F0 fa)) (hg : Gl X "list" := by rfl) (hg2 : Gl X "range" := by rfl)
    (na : starEach [a] X.env = (false, eval a X.env) :: starEach [] X.env := by rfl) (na2 : starEach [(.Call (.Name "range" p) [a] [] pos : Expr)] X.env = (false, eval (.Call (.Name "range" p) [a] [] pos) X.env) :: starEach [] X.env := by rfl) : PE X (.Call (.Name "list" p2) [.Call (.Name "range" p) [a] [] pos] [] pos2) (UE X F0 (zLrg1 b (zCons fa zNil))) :=
  pe_imp (pe_listRg hc hg hm (prg_1 hg2 hm2 ha na) na2) fun s H Q h => by
  obtain ⟨F, rr, M, R, s0, w, e, h, k⟩ := h
  refine ⟨F, rr, M, _, s0, w, e, h, fun x M1 h1 F1 H1 v s1 w1 r1 => ?_⟩
  have h1 : onI1 [x] fun j => dLrg b 0 j M1 R := h1
  cases x with
  | int j => cases r1; exact ⟨j, rfl, rg_out w1 h1 (k.mono s1)⟩
  | _ => exact h1.elim
theorem ze_lrg2 (b : Bool) {a c : Expr} {fa fc : ZE} {p p2 pos pos2 : Pos} (hc : X.calm = true) (hm : X.mg "list" = none) (hm2 : X.mg "range" = none) (ha : PE X a (UE X F0 fa)) (hc2 : PE X c (UE X F0 fc)) (hg : Gl X "list" := by rfl) (hg2 : Gl X "range" := by rfl)
    (na : starEach [a, c] X.env = (false, eval a X.env) :: starEach [c] X.env := by rfl) (nb : starEach [c] X.env = (false, eval c X.env) :: starEach [] X.env := by rfl) (hp : (backTo pos (starEach [c] X.env)).any (·.1) = false := by rfl)
    (na2 : starEach [(.Call (.Name "range" p) [a, c] [] pos : Expr)] X.env = (false, eval (.Call (.Name "range" p) [a, c] [] pos) X.env) :: starEach [] X.env := by rfl) : PE X (.Call (.Name "list" p2) [.Call (.Name "range" p) [a, c] [] pos] [] pos2) (UE X F0 (zLrg2 b (zCons fa (zCons fc zNil)))) :=
  pe_imp (pe_listRg hc hg hm (prg_2 hg2 hm2 ha hc2 na nb hp) na2) fun s H Q h => by
  obtain ⟨F, rr, M, R, s0, w, e, h, k⟩ := h
  refine ⟨F, rr, M, _, s0, w, e, h, fun x M1 h1 F1 H1 v s1 w1 r1 => ⟨F1, rr, M1, _, s0.trans s1, w1, e.mono s1, h1, fun y M2 h2 F2 H2 u s2 w2 r2 => ?_⟩⟩
  have h2 : onI2 [x, y] fun i j => dLrg b i j M2 R := h2
  cases x with
  | int i =>
    cases r1
    cases y with
    | int j => cases r2; exact ⟨i, j, rfl, rfl, rg_out w2 h2 (k.mono (s1.trans s2))⟩
    | _ => exact h2.elim
  | _ => exact h2.elim
/-! ### left-out defaults -/
/-- f(e, ..) with the last parameters left out: es their values -/
def zCallD (zs : ZSp) (zE : ZW) (es : List D) (t : ZA) : ZE := fun r M Q => t r M fun ds M1 => zs (ds ++ es) M1 Q fun c fs M' => zE c fs r M'
theorem ze_callD {f : Addr} {fd : FuncData} {ps : List Str} {k : Nat} {zs : ZSp} {zE : ZW} {W : WX} {x : Str} {a : Expr} {es : List Expr} {t : ZA} {p pos : Pos} {dvs : List V} {dws : List Value} {dds : List D} (FO : FnOk X.prog X.w X.K X.mg X.base (L2.CX X.prog X.w) k f fd ps (liftSp X.K X.mg zs)) (hr : Room k X.A) (hm : X.mg x = some (.ref f))
    (hk : PySem.W.keepIn X.K (.ref f) = true) (hb : Binds X.K fd ps dws) (hd : Vals dvs dws) (hdd : ∀ F, RepL X.K X.mg F dvs dds) (tk : Takes X W) (wk : Wok X.K X.mg F0 W zE) (ha : PA X (a :: es) (UA X F0 t)) (hg : Gl X x := by rfl) (hdb : (x == ("__debug__" : Str)) = false := by decide)
    (he : starEach (a :: es) X.env = (false, eval a X.env) :: starEach es X.env := by rfl) (hpl : (backTo pos (starEach es X.env)).any (·.1) = false := by rfl) : PE X (.Call (.Name x p) (a :: es) [] pos) (UE X F0 (zCallD zs zE dds t)) :=
  pe_imp (pe_callSD FO hr hg hm hk hb hd (fun s => passAt tk s) ha hdb he hpl) fun s H Q h => by
  obtain ⟨F, rr, M, R, s0, w, e, h, k⟩ := h
  refine ⟨F, rr, M, _, s0, w, e, h, fun ds M1 h1 F1 H1 vs s1 w1 r1 => ⟨F1, M1, ds ++ dds, R, _, w1, r1.append (hdd F1), h1, k.mono s1, fun c fs M' hx F' H' cls d s2 w2 rx => ?_⟩⟩
  exact wk c fs rr M' hx F' s H' cls d (s0.trans (s1.trans s2)) w2 (e.mono (s1.trans s2)) rx
end
section
variable {r : Env} {M : Mh} {Q : QZ} {a : ZE} {t : ZA}
theorem i_slStep {b : Bool} {lo hi sp : ZO} (h : a r M fun x M1 => lo r M1 fun l M2 => hi r M2 fun h M3 => sp r M3 fun c M4 => c ≠ some 0 ∧ zL M4 x fun ds => (pickL ds l h c).length ≤ sizeLine ∧ zNew b (pickL ds l h c) M4 Q) : zSlS b a lo hi sp r M Q := h
theorem i_lrg1 {b : Bool} (h : t r M fun ds M1 => onI1 ds fun j => dLrg b 0 j M1 Q) : zLrg1 b t r M Q := h
theorem i_lrg2 {b : Bool} (h : t r M fun ds M1 => onI2 ds fun i j => dLrg b i j M1 Q) : zLrg2 b t r M Q := h
theorem i_callD {zs : ZSp} {zE : ZW} {es : List D} (h : t r M fun ds M1 => zs (ds ++ es) M1 Q fun c fs M' => zE c fs r M') : zCallD zs zE es t r M Q := h
end
end Zl

/-! Zl13: len of an own object; calls with keywords; making with defaults -/
namespace Zl
open PySem L2
section
variable {X : Cx} {F0 : Fz}
/-! ### len(o), o of a class with a __len__ of its own -/
theorem call_lenO {C g : Addr} {fd : FuncData} {ps : List Str} {k : Nat} {sp : Sp} (FO : FnOk X.prog X.w X.K X.mg X.base (L2.CX X.prog X.w) k g fd ps sp) (hr : Room (k + 1) X.A) (hm : Meth X.K C "__len__" g) (hb : Binds X.K fd ps []) :
    CallR X (.builtin "len") (fun xs H Q => ∃ a dx fs, xs = [.ref a] ∧ H a = some (.ins C dx fs) ∧ sp [.ref a] H (fun v H' => ∃ n : Int, v = .int n ∧ 0 ≤ n ∧ n < 2 ^ 63 ∧ Q (.int n) H') E0) := by
  intro pins s σ H xs us Q I r h
  obtain ⟨a, dx, fs, rfl, ha, hsp⟩ := h
  obtain ⟨u, rfl, ru⟩ := vals1 r
  obtain rfl : u = Value.ref a := ru
  obtain ⟨mA, J, _⟩ := ins_get I.hok ha
  obtain ⟨od, J, _⟩ := J.look
  refine Calls.call_function_entry kind_len plain_len entry_len (args_len1 _) ?_
  unfold Builtin.«len»
  refine wpAny_bind (m := oneArg "len" _) (wpAny_pure ?_)
  refine wpAny_bind (m := callSpecial? (.ref a) (PySem.Str.ofString "__len__")) (PySem.W.special_fn I.kIn J hm.at_ (beq_iff_eq.mp hm.fn) ?_)
  have e0 : Env0 X.prog X.w X.K X.mg X.base X.A.in1 X.stack s H := by
    have e := I.env0
    exact ⟨e.frames, e.mod, e.bs, e.bsz, e.funs, e.frf, e.hok, e.bare⟩
  have r2 : Vals [V.ref a] [Value.ref a] := .cons rfl .nil
  have hl := FO.len _ _ _ _ hsp
  refine wpAny_call (codeAny_mono (FO.run X.A.in1 X.stack s H ⟨[.ref a], []⟩ [.ref a] [.ref a] _ E0 hr.in1 e0 (by
    have := hb s [.ref a] I.kIn (by simpa using hl)
    simpa using this) r2 hsp) fun r s' hq => ?_)
  cases r with
  | error e => exact passL pins σ H s e s' I hq
  | ok fl =>
    cases fl with
    | ret u =>
      obtain ⟨z, H', I', rz, n, ez, h0, h1, q⟩ := I.after hq
      subst ez
      obtain ⟨t, rfl⟩ := rz
      refine wpAny_bind (wpAny_holding (wpAny_pure ?_))
      refine wpAny_bind (wpAny_letGo ?_)
      show wpAny _ _ (if n < 0 then _ else _) _ _ _
      rw [if_neg (by omega)]
      show wpAny _ _ (if n ≥ 2 ^ 63 then _ else _) _ _ _
      rw [if_neg (by omega)]
      exact wpAny_bind (wpAny_mkInt (wpAny_pure ⟨_, rfl, .int n, H', I'.tok _, ⟨_, rfl⟩, q⟩))
    | next => exact False.elim hq
    | brk => exact False.elim hq
    | cont => exact False.elim hq
def zLenO (c : Str) (zs : ZSp) (a : ZE) : ZE := fun r M Q => a r M fun d M1 => onIns M1 c d fun p _ => zs [.ref p] M1 (fun v M2 => onInt v fun n => 0 ≤ n ∧ n < 2 ^ 63 ∧ Q (.int n) M2) fun _ _ _ => False
theorem ze_lenO {c : Str} {C g : Addr} {fd : FuncData} {ps : List Str} {k : Nat} {zs : ZSp} {a : Expr} {fa : ZE} {p pos : Pos} (gC : X.mg c = some (.ref C)) (hm : Meth X.K C "__len__" g) (FO : FnOk X.prog X.w X.K X.mg X.base (L2.CX X.prog X.w) k g fd ps (liftSp X.K X.mg zs)) (hr : Room (k + 1) X.A) (hb : Binds X.K fd ps [])
    (hn : X.mg "len" = none) (ha : PE X a (UE X F0 fa)) (hg : Gl X "len" := by rfl) (he : starEach [a] X.env = (false, eval a X.env) :: starEach [] X.env := by rfl) (hpl : (backTo pos (starEach [] X.env)).any (·.1) = false := by rfl) : PE X (.Call (.Name "len" p) [a] [] pos) (UE X F0 (zLenO c zs fa)) :=
  pe_imp (pe_callB (call_lenO FO hr hm hb) hg hn (by decide +kernel) (pa_cons ha pa_nil he) (by decide) (by decide) he hpl) fun s H Q h => by
  obtain ⟨F, rr, M, R, s0, w, e, h, k⟩ := h
  refine ⟨F, rr, M, _, s0, w, e, h, fun d M1 h1 F1 H1 v s1 w1 r1 => ?_⟩
  obtain ⟨q, fs, C', dx, vs, rfl, rfl, hM, gC', hH, rv, h2⟩ := onIns_out w1 r1 h1
  cases ref_inj gC gC'
  refine ⟨q, dx, _, rfl, hH, F1, M1, [.ref q], _, _, w1, .cons (.ref q) .nil, h2, fun v M2 h3 F' H' u s2 w2 r2 => ?_, fun _ _ _ z => z.elim⟩
  cases v with
  | int n =>
    cases r2
    obtain ⟨a1, a2, a3⟩ := (show 0 ≤ n ∧ n < 2 ^ 63 ∧ R (.int n) M2 from h3)
    exact ⟨n, rfl, a1, a2, k _ _ a3 F' H' _ (s1.trans s2) w2 (.int n)⟩
  | _ => exact h3.elim
/-! ### f(e, .., k = v, ..), which lets nothing out -/
def zCallK (zs : ZSp) (n m : Nat) (g : List D → List D → List D) (t tk : ZA) : ZE := fun r M Q => t r M fun ds M1 => tk r M1 fun es M2 => ds.length = n ∧ es.length = m ∧ zs (g ds es) M2 Q fun _ _ _ => False
theorem ze_callK {f : Addr} {fd : FuncData} {ps ks : List Str} {k n m : Nat} {zs : ZSp} {x : Str} {a : Expr} {es : List Expr} {kws : List Keyword} {t : ZA} {zk : ZA} {p pos : Pos} {gg : List Value → List Value → List Value} {gV : List V → List V → List V} {gD : List D → List D → List D}
    (FO : FnOk X.prog X.w X.K X.mg X.base (L2.CX X.prog X.w) k f fd ps (liftSp X.K X.mg zs)) (hr : Room k X.A) (hm : X.mg x = some (.ref f)) (hk : PySem.W.keepIn X.K (.ref f) = true) (hb : KBn X.K fd ps n ks gg gV) (hkl : ks.length = m)
    (hgd : ∀ (F : Fz) (vs zs : List V) (ds es : List D), RepL X.K X.mg F vs ds → RepL X.K X.mg F zs es → ds.length = n → es.length = ks.length → RepL X.K X.mg F (gV vs zs) (gD ds es))
    (ha : PA X (a :: es) (UA X F0 t)) (hkw : PK X kws (UA X F0 zk)) (hall : (backToKw pos (keywordEach kws X.env)).all (·.1.isSome) = true := by rfl) (hks : (backToKw pos (keywordEach kws X.env)).filterMap (·.1) = ks := by rfl) (hg : Gl X x := by rfl)
    (hdb : (x == ("__debug__" : Str)) = false := by decide) (he : starEach (a :: es) X.env = (false, eval a X.env) :: starEach es X.env := by rfl)
    (hpl : ((backTo pos (starEach (a :: es) X.env)).any (·.1) || (backToKw pos (keywordEach kws X.env)).any (·.1.isNone)) = false := by rfl) : PE X (.Call (.Name x p) (a :: es) kws pos) (UE X F0 (zCallK zs n m gD t zk)) := by
  subst hkl
  refine pe_imp (pe_callN FO hr hg hm hk hb passL ha hkw hall hks hdb he hpl) fun s H Q h => ?_
  obtain ⟨F, rr, M, R, s0, w, e, h, k⟩ := h
  refine ⟨F, rr, M, _, s0, w, e, h, fun ds M1 h1 F1 H1 vs s1 w1 r1 => ⟨F1, rr, M1, _, s0.trans s1, w1, e.mono s1, h1, fun es M2 h2 F2 H2 us s2 w2 r2 => ⟨by rw [r1.length]; exact h2.1, by rw [r2.length]; exact h2.2.1, F2, M2, _, R, _, w2, hgd F2 vs us ds es (r1.mono s2) r2 h2.1 h2.2.1, h2.2.2, k.mono (s1.trans s2), fun _ _ _ z => z.elim⟩⟩⟩
/-- the keywords' values -/
theorem zk_nil : PK X [] (UA X F0 zNil) := ⟨fun pos pins s σ H Q I h => by
  obtain ⟨F, rr, M, R, s0, w, e, h, k⟩ := h
  exact pk_nil.run pos pins s σ H Q I (k [] M h F H [] (Le.refl F) w .nil)⟩
theorem zk_cons {a : Expr} {fa : ZE} {t : ZA} {kws : List Keyword} {nm : Option Str} {kpos : Pos} (ha : PE X a (UE X F0 fa)) (ht : PK X kws (UA X F0 t)) : PK X (⟨nm, a, kpos⟩ :: kws) (UA X F0 (zCons fa t)) := ⟨fun pos pins s σ H Q I h => by
  obtain ⟨F, rr, M, R, s0, w, e, h, k⟩ := h
  refine (pk_cons (nm := nm) (kpos := kpos) ha ht).run pos pins s σ H Q I ⟨F, rr, M, _, s0, w, e, h, fun d M1 h1 F1 H1 v s1 w1 r1 => ⟨F1, rr, M1, _, s0.trans s1, w1, e.mono s1, h1, fun ds M2 h2 F2 H2 vs s2 w2 r2 => k (d :: ds) M2 h2 F2 H2 (v :: vs) (s1.trans s2) w2 (.cons (r1.mono s2) r2)⟩⟩⟩
/-! ### C(): all defaults; C(k = v, ..): keywords alone; nothing is let out -/
def zMakeD0 (c : Str) (zs : ZSp) (es : List D) : ZE := fun _ M Q => ∀ p, M p = none → zs (.ref p :: es) (mup M p (.ins c [])) (fun d M2 => d = .non ∧ Q (.ref p) M2) fun _ _ _ => False
theorem make_low0 {c : Str} {C : Addr} {zs : ZSp} (gC : X.mg c = some (.ref C)) {F : Fz} {M1 : Mh} {R : QZ} {H1 : Hp} {Q : VK} {ds : List D} {vs : List V} (w : Wd X.K X.mg F H1 M1) (rl : RepL X.K X.mg F vs ds)
    (h : ∀ p, M1 p = none → zs (.ref p :: ds) (mup M1 p (.ins c [])) (fun d M2 => d = .non ∧ R (.ref p) M2) fun _ _ _ => False) (k : Kq X.K X.mg F R Q) : ∀ y dx, H1 y = none → H1 dx = none → dx ≠ y →
    liftSp X.K X.mg zs (.ref y :: vs) (upd (upd H1 dx (.own y)) y (.ins C dx [])) (fun v H2 => v = .non ∧ Q (.ref y) H2) E0 := by
  intro y dx hy hdx ne
  obtain ⟨s1, w1⟩ := w.laidF (o := .own y) hdx
  have hy' : upd H1 dx (.own y) y = none := by rw [upd_ne (Ne.symm ne)]; exact hy
  obtain ⟨m0, _, _⟩ := w1.free hy'
  have w2 : Wd X.K X.mg (F.up dx (.own y)) (upd (upd H1 dx (.own y)) y (.ins C dx [])) (mup M1 y (.ins c [])) := w1.laidM hy' (by intro z; cases z) ⟨C, dx, [], gC, upd_same, .nil⟩
  refine ⟨_, _, _, _, _, w2, .cons (.ref y) (rl.mono s1), h y m0, fun d M2 ⟨hd, hR⟩ F' H' v s2 w3 r3 => ?_, fun _ _ _ z => z.elim⟩
  subst hd
  cases r3
  exact ⟨rfl, k _ _ hR F' H' _ (s1.trans s2) w3 (.ref y)⟩
theorem ze_makeD0 {c : Str} {C : Addr} {k : Nat} {g : Addr} {fd : FuncData} {ps : List Str} {zs : ZSp} {dvs : List V} {dws : List Value} {dds : List D} {p pos : Pos} (gC : X.mg c = some (.ref C)) (Mm : Mk X.K C g) (FO : FnOk X.prog X.w X.K X.mg X.base (L2.CX X.prog X.w) k g fd ps (liftSp X.K X.mg zs)) (hr : Room (k + 1) X.A) (hb : Binds X.K fd ps dws) (hd : Vals dvs dws)
    (hdd : ∀ F, RepL X.K X.mg F dvs dds) (hg : Gl X c := by rfl) (hdb : (c == ("__debug__" : Str)) = false := by decide) : PE X (.Call (.Name c p) [] [] pos) (UE X F0 (zMakeD0 c zs dds)) :=
  pe_imp (pe_make0 (E := E0) Mm FO hr hg gC hb hd passL hdb) fun s H Q h => by
  obtain ⟨F, rr, M, R, s0, w, e, h, k⟩ := h
  exact make_low0 gC w (hdd F) h k
def zMakeK0 (c : Str) (zs : ZSp) (m : Nat) (gD : List D → List D) (tk : ZA) : ZE := fun r M Q => tk r M fun es M1 => es.length = m ∧ ∀ p, M1 p = none → zs (.ref p :: gD es) (mup M1 p (.ins c [])) (fun d M2 => d = .non ∧ Q (.ref p) M2) fun _ _ _ => False
theorem ze_makeK0 {c : Str} {C : Addr} {k m : Nat} {g : Addr} {fd : FuncData} {ps ks : List Str} {zs : ZSp} {kws : List Keyword} {zk : ZA} {p pos : Pos} {gg : List Value → List Value → List Value} {gV : List V → List V → List V} {gD : List D → List D} (gC : X.mg c = some (.ref C)) (Mm : Mk X.K C g) (FO : FnOk X.prog X.w X.K X.mg X.base (L2.CX X.prog X.w) k g fd ps (liftSp X.K X.mg zs)) (hr : Room (k + 1) X.A) (hb : KBn X.K fd ps 1 ks gg gV) (hkl : ks.length = m)
    (hgd : ∀ (x : V) (zs : List V), zs.length = ks.length → ∃ us, gV [x] zs = x :: us ∧ ∀ (F : Fz) (es : List D), RepL X.K X.mg F zs es → RepL X.K X.mg F us (gD es))
    (hkw : PK X kws (UA X F0 zk)) (hall : (backToKw pos (keywordEach kws X.env)).all (·.1.isSome) = true := by rfl) (hks : (backToKw pos (keywordEach kws X.env)).filterMap (·.1) = ks := by rfl) (hg : Gl X c := by rfl)
    (hdb : (c == ("__debug__" : Str)) = false := by decide) (hpl : ((backTo pos (starEach [] X.env)).any (·.1) || (backToKw pos (keywordEach kws X.env)).any (·.1.isNone)) = false := by rfl) : PE X (.Call (.Name c p) [] kws pos) (UE X F0 (zMakeK0 c zs m gD zk)) := by
  subst hkl
  refine pe_imp (pe_makeK0 (E := E0) Mm FO hr hg gC hb passL hkw hall hks hdb hpl) fun s H Q h => ?_
  obtain ⟨F, rr, M, R, s0, w, e, h, k⟩ := h
  refine ⟨F, rr, M, _, s0, w, e, h, fun es M1 h1 F1 H1 vs s1 w1 r1 => ?_⟩
  have hl : vs.length = ks.length := by rw [r1.length]; exact h1.1
  refine ⟨rfl, hl, fun y dx hy hdx ne => ?_⟩
  obtain ⟨us, e1, e2⟩ := hgd (.ref y) vs hl
  rw [e1]
  exact make_low0 gC w1 (e2 F1 es r1) h1.2 (k.mono s1) y dx hy hdx ne
end
/-! ### a choice of readings -/
section
variable {X : Cx} {F0 : Fz}
def zAny (a b : ZE) : ZE := fun r M Q => a r M Q ∨ b r M Q
theorem ze_any {e : Expr} {a b : ZE} (ha : PE X e (UE X F0 a)) (hb : PE X e (UE X F0 b)) : PE X e (UE X F0 (zAny a b)) := ⟨fun pins s r H Q I h => by
  obtain ⟨F, rr, M, R, s0, w, e, h, k⟩ := h
  rcases h with h | h
  · exact ha.run pins s r H Q I ⟨F, rr, M, R, s0, w, e, h, k⟩
  · exact hb.run pins s r H Q I ⟨F, rr, M, R, s0, w, e, h, k⟩⟩
end
section
variable {r : Env} {M : Mh} {Q : QZ} {a : ZE} {t tk : ZA}
/-- the frozen one, the changing one -/
theorem i_anyF {b : ZE} (h : a r M Q) : zAny a b r M Q := .inl h
theorem i_anyT {b : ZE} (h : b r M Q) : zAny a b r M Q := .inr h
theorem i_lenO {c : Str} {zs : ZSp} (h : a r M fun d M1 => onIns M1 c d fun p _ => zs [.ref p] M1 (fun v M2 => onInt v fun n => 0 ≤ n ∧ n < 2 ^ 63 ∧ Q (.int n) M2) fun _ _ _ => False) : zLenO c zs a r M Q := h
theorem i_callK {zs : ZSp} {n m : Nat} {g : List D → List D → List D} (h : t r M fun ds M1 => tk r M1 fun es M2 => ds.length = n ∧ es.length = m ∧ zs (g ds es) M2 Q fun _ _ _ => False) : zCallK zs n m g t tk r M Q := h
theorem i_makeD0 {c : Str} {zs : ZSp} {es : List D} (h : ∀ p, M p = none → zs (.ref p :: es) (mup M p (.ins c [])) (fun d M2 => d = .non ∧ Q (.ref p) M2) fun _ _ _ => False) : zMakeD0 c zs es r M Q := h
theorem i_makeK0 {c : Str} {zs : ZSp} {m : Nat} {gD : List D → List D} (h : tk r M fun es M1 => es.length = m ∧ ∀ p, M1 p = none → zs (.ref p :: gD es) (mup M1 p (.ins c [])) (fun d M2 => d = .non ∧ Q (.ref p) M2) fun _ _ _ => False) : zMakeK0 c zs m gD tk r M Q := h
end
end Zl

/-! Zl16: the end, with how great the script's numbers are all together -/
namespace Zl
open PySem PySem.W PySem.Calls PyProof.Rows L2 Att
theorem log2_bits (n : Int) : n.natAbs.log2 ≤ Builtin.Int.intBits n := by
  unfold Builtin.Int.intBits
  by_cases h : n = 0
  · subst h; decide
  · rw [if_neg (by simpa using h)]; omega
theorem weight_sum : ∀ ns : List Int, (ns.map fun x : Int => x.natAbs.log2).sum ≤ WData.weightAll (ns.map WData.int)
  | [] => Nat.zero_le _
  | n :: r => by
    rw [List.map_cons, List.map_cons, List.sum_cons, Att.weight_cons, Att.weight_int]
    have := weight_sum r
    have := log2_bits n
    omega
theorem script_cells {ns : List Int} (hl : ns.length ≤ 63) (h : WData.layableAll [WData.list (ns.map WData.int)] = true) : cellsOk ns := by
  have h2 : WData.layable (WData.list (ns.map WData.int)) = true := by
    have h0 := h
    simp only [WData.layableAll, List.all_cons, List.all_nil, Bool.and_true] at h0
    exact h0
  have h3 : WData.weight (WData.list (ns.map WData.int)) ≤ 1048576 := by
    unfold WData.layable at h2
    simp only [Bool.and_eq_true, decide_eq_true_eq] at h2
    exact h2.2
  rw [Att.weight_list] at h3
  exact ⟨hl, Nat.le_trans (weight_sum ns) h3⟩
theorem walk_cells {l : OpenLaw} {k : Nat} {q : Program} {loose : List Str} {XP : (Str → Option Value) → Heap → Prop} {YP : World → Heap → Prop} {d : DefRec} {K : Params → PySem.W.Frag} {CX : World → CXT} {sp : World → Sp} {x : Str}
    (hn : l.most = some 63) (hdf : d.params.defaults = []) (hr : Room k callerA) (hY : ∀ (w : World) (h : Heap), YP w h → (K w.params).In h)
    (F : ∀ (w : World) (mg : Str → Option Value) (fa : Addr) (h : Heap), (K w.params).In h → h.Ns mainGlobals mg → mg d.name = some (.ref fa) →
      ∃ fd : FuncData, (∀ (s : Shared) (u : Value), BindsTo s fd ⟨[u], []⟩ [(x, u)]) ∧ ∀ base : Heap, (K w.params).In base → base.Ns mainGlobals mg → FnOk l.prog w (K w.params) mg base (CX w) k fa fd [x] (sp w))
    (hsp : ∀ (w : World) (H : Hp) (a : Addr) (ns : List Int), cellsOk ns → SqL (K w.params) H a (ns.map V.int) → sp w [.ref a] H (fun v _ => v = .bl true) fun _ _ _ => False)
    (hCX : ∀ (w : World) (H : Hp) (s : Shared) (e : Value) (s' : Shared), CX w [] H s (fun _ _ _ => False) e s' → False) : WalkO q loose XP YP l.row.toRowW d [] (fun f vs => PySem.call f vs) := by
  intro w s₀ s₁ mg mb G Y fa o pm cd doc dV kV ho hd hcd hD hmg hg args vals as hpre hlay hrd hwl hlo
  obtain rfl : dV = .none := Dflts.none hD hdf
  obtain rfl : kV = .none := Dflts.noKw hD
  obtain ⟨a, vs, ns, rfl, rfl, hobj, hints, hlen⟩ := script_of hn hpre hwl
  have KX := hY w _ Y
  obtain ⟨fd, hb, hF⟩ := F w mg fa _ KX G.T.g hmg
  refine enter_call (codeAny_mono (law_call KX G.T.g G.T.b G.T.builtins G.T.nolimit hg hobj hints (Nat.le_trans hlen (by decide)) hr hF hb (fun H _ hS => hsp w H a ns (script_cells hlen hlay) hS) fun H e s' => hCX w H s₁ e s') fun r s' hq => ?_)
  obtain ⟨rfl, h2, h3, h4⟩ := hq
  exact ⟨.inl ⟨.bool true, .bool true, [], rfl, fun _ => rfl, .bool true, post_true l _, fun _ => ⟨List.Pairwise.nil, fun _ hm => (nomatch hm)⟩⟩, h2, h3, h4⟩
end Zl

namespace Zp
open PySem L2 Zl
def tE : List Int := [155, 157, 158, 171, 173, 174, 179, 181, 182, 185, 186, 188, 203, 205, 206, 211, 213, 214, 217, 218, 220, 227, 229, 230, 233, 234, 236, 241, 242, 244, 283, 285, 286, 299, 301, 302, 307, 309, 310, 313, 314, 316, 331, 333, 334, 339, 341, 342, 345, 346, 348, 355, 357, 358, 361, 362, 364, 369, 370, 372, 395, 397, 398, 403, 405, 406, 409, 410, 412, 419, 421, 422, 425, 426, 428, 433, 434, 436, 451, 453, 454, 457, 458, 460, 465, 466, 468, 481, 482, 484, 539, 541, 542, 555, 557, 558, 563, 565, 566, 569, 570, 572, 587, 589, 590, 595, 597, 598, 601, 602, 604, 611, 613, 614, 617, 618, 620, 625, 626, 628, 651, 653, 654, 659, 661, 662, 665, 666, 668, 675, 677, 678, 681, 682, 684, 689, 690, 692, 707, 709, 710, 713, 714, 716, 721, 722, 724, 737, 738, 740, 779, 781, 782, 787, 789, 790, 793, 794, 796, 803, 805, 806, 809, 810, 812, 817, 818, 820, 835, 837, 838, 841, 842, 844, 849, 850, 852, 865, 866, 868]
def tH : List Int := [187, 189, 219, 221, 222, 235, 237, 238, 243, 245, 246, 315, 317, 347, 349, 350, 363, 365, 366, 371, 373, 374, 377, 378, 411, 413, 414, 427, 429, 430, 435, 437, 438, 441, 442, 444, 459, 461, 462, 467, 469, 470, 473, 474, 476, 483, 485, 486, 489, 490, 492, 571, 573, 603, 605, 606, 619, 621, 622, 627, 629, 630, 633, 634, 667, 669, 670, 683, 685, 686, 691, 693, 694, 697, 698, 700, 715, 717, 718, 723, 725, 726, 729, 730, 732, 739, 741, 742, 745, 746, 748, 753, 754, 756, 795, 797, 798, 811, 813, 814, 819, 821, 822, 825, 826, 828, 843, 845, 846, 851, 853, 854, 857, 858, 860, 867, 869, 870, 873, 874, 876, 881, 882, 884]
def n_EVEN : List Int := [155, 157, 158, 171, 173, 174, 179, 181, 182, 185, 186, 188, 203, 205, 206, 211, 213, 214, 217, 218, 220, 227, 229, 230, 233, 234, 236, 241, 242, 244, 283, 285, 286, 299, 301, 302, 307, 309, 310, 313, 314, 316, 331, 333, 334, 339, 341, 342, 345, 346, 348, 355, 357, 358, 361, 362, 364, 369, 370, 372, 395, 397, 398, 403, 405, 406, 409, 410, 412, 419, 421, 422, 425, 426, 428, 433, 434, 436, 451, 453, 454, 457, 458, 460, 465, 466, 468, 481, 482, 484, 539, 541, 542, 555, 557, 558, 563, 565, 566, 569, 570, 572, 587, 589, 590, 595, 597, 598, 601, 602, 604, 611, 613, 614, 617, 618, 620, 625, 626, 628, 651, 653, 654, 659, 661, 662, 665, 666, 668, 675, 677, 678, 681, 682, 684, 689, 690, 692, 707, 709, 710, 713, 714, 716, 721, 722, 724, 737, 738, 740, 779, 781, 782, 787, 789, 790, 793, 794, 796, 803, 805, 806, 809, 810, 812, 817, 818, 820, 835, 837, 838, 841, 842, 844, 849, 850, 852, 865, 866, 868]
def c_EVEN : List D := n_EVEN.map D.int
def n_HEAVY : List Int := [187, 189, 219, 221, 222, 235, 237, 238, 243, 245, 246, 315, 317, 347, 349, 350, 363, 365, 366, 371, 373, 374, 377, 378, 411, 413, 414, 427, 429, 430, 435, 437, 438, 441, 442, 444, 459, 461, 462, 467, 469, 470, 473, 474, 476, 483, 485, 486, 489, 490, 492, 571, 573, 603, 605, 606, 619, 621, 622, 627, 629, 630, 633, 634, 667, 669, 670, 683, 685, 686, 691, 693, 694, 697, 698, 700, 715, 717, 718, 723, 725, 726, 729, 730, 732, 739, 741, 742, 745, 746, 748, 753, 754, 756, 795, 797, 798, 811, 813, 814, 819, 821, 822, 825, 826, 828, 843, 845, 846, 851, 853, 854, 857, 858, 860, 867, 869, 870, 873, 874, 876, 881, 882, 884]
def c_HEAVY : List D := n_HEAVY.map D.int
def n_CONTROLS : List Str := ["end", "rest", "skip"]
def c_CONTROLS : List D := n_CONTROLS.map D.str
def n0_SIGNS : List Int := [0, 0, 1, 1, 1, 1, 1]
def n1_SIGNS : List Int := [1, 1, 0, 0, 0, 0, 0]
def c_SIGNS : List D := [.tup (n0_SIGNS.map D.int), .tup (n1_SIGNS.map D.int)]
def zb__wall (zE : ZW) : ZS := (zWhile (zB (zC (.bl true))) zNext)
def z__wall : ZSp := fun ds M Q E => match ds with
  | [a0] => zFn false zb__wall [some a0] M Q E
  | _ => False
def zb_is_whole (zE : ZW) : ZS := (zRet (zAndV (z1 (dIsi "int") (zVar 0)) (zAndV (zNotV (z1 (dIsi "bool") (zVar 0))) (zChain (dCmp pLe) (dCmp pLe) (zVar 1) (zVar 0) (zVar 2)))))
def z_is_whole : ZSp := fun ds M Q E => match ds with
  | [a0, a1, a2] => zFn false zb_is_whole [some a0, some a1, some a2] M Q E
  | _ => False
def zb_look_word (zE : ZW) : ZS := (zIf (zNot (zB (zCall z_is_whole zE (zCons (zVar 0) (zCons (zC (.int 0)) (zCons (zC (.int 1023)) zNil)))))) (zRaise zE "BadWord")
  zNext)
def z_look_word : ZSp := fun ds M Q E => match ds with
  | [a0] => zFn false zb_look_word [some a0] M Q E
  | _ => False
def zb_look_bits (zE : ZW) : ZS := (zIf (zOr (zNot (zB (z1 (dIsi "list") (zVar 0)))) (zNot (zB (zCB dAll (zCons (zLc false (ziList (zVar 0)) (zgName 1) zYes (zCall z_is_whole zNoX (zCons (zVar 1) (zCons (zC (.int 0)) (zCons (zC (.int 1)) zNil)))) [1]) zNil))))) (zRaise zE "BadBits")
  zNext)
def z_look_bits : ZSp := fun ds M Q E => match ds with
  | [a0] => zFn false zb_look_bits [some a0, none] M Q E
  | _ => False
def zb_bits_of (zE : ZW) : ZS := (zSeq (zDrop (zCall z_look_word zE (zCons (zVar 0) zNil)))
  (zRet (zLc true (ziRange (zCons (zC (.int 10)) zNil)) (zgName 1) zYes (z2 dAnd (z2 dShr (zVar 0) (z2 dSub (z2 dSub (zC (.int 10)) (zC (.int 1))) (zVar 1))) (zC (.int 1))) [1])))
def z_bits_of : ZSp := fun ds M Q E => match ds with
  | [a0] => zFn true zb_bits_of [some a0, none] M Q E
  | _ => False
def zb_word_of (zE : ZW) : ZS := (zSeq (zDrop (zCall z_look_bits zE (zCons (zVar 0) zNil)))
  (zSeq (zIf (zB (z2 dNe (zCB dLen (zCons (zVar 0) zNil)) (zC (.int 10)))) (zRaise zE "BadBits")
  zNext)
  (zSeq (zAsg (zC (.int 0)) (zgName 1))
  (zSeq (zFor (ziList (zVar 0)) (zgName 2) (zAsg (z2 (dAdd false) (z2 (dMul false) (zC (.int 2)) (zVar 1)) (zVar 2)) (zgName 1)))
  (zRet (zVar 1))))))
def z_word_of : ZSp := fun ds M Q E => match ds with
  | [a0] => zFn false zb_word_of [some a0, none, none] M Q E
  | _ => False
def zb_is_item (zE : ZW) : ZS := (zSeq (zIf (zB (z1 (dIsi "str") (zVar 0))) (zRet (zOrV (z2 dEq (zVar 0) (zC (.str "begin"))) (z2 (dIn false) (zVar 0) (zC (.tup c_CONTROLS)))))
  zNext)
  (zRet (zCall z_is_whole zE (zCons (zVar 0) (zCons (zC (.int 0)) (zCons (zC (.int 255)) zNil))))))
def z_is_item : ZSp := fun ds M Q E => match ds with
  | [a0] => zFn false zb_is_item [some a0] M Q E
  | _ => False
def zb_look_item (zE : ZW) : ZS := (zIf (zNot (zB (zCall z_is_item zE (zCons (zVar 0) zNil)))) (zRaise zE "BadItem")
  zNext)
def z_look_item : ZSp := fun ds M Q E => match ds with
  | [a0] => zFn false zb_look_item [some a0] M Q E
  | _ => False
def zb_look_poise (zE : ZW) : ZS := (zIf (zOr (zNot (zB (zCall z_is_whole zE (zCons (zVar 0) (zCons (z2 dSub (zC (.int 0)) (zC (.int 1))) (zCons (zC (.int 1)) zNil)))))) (zB (z2 dEq (zVar 0) (zC (.int 0))))) (zRaise zE "BadPoise")
  zNext)
def z_look_poise : ZSp := fun ds M Q E => match ds with
  | [a0] => zFn false zb_look_poise [some a0] M Q E
  | _ => False
def zb_heavy_word (zE : ZW) : ZS := (zSeq (zIf (zB (z2 dEq (zVar 0) (zC (.str "begin")))) (zRet (zC (.int 250)))
  zNext)
  (zSeq (zIf (zB (z2 (dIn false) (zVar 0) (zC (.tup c_CONTROLS)))) (zRet (z2 dIx (zC (.tup c_HEAVY)) (z2 (dAdd false) (zC (.int 76)) (zTIx c_CONTROLS (zCons (zVar 0) zNil)))))
  zNext)
  (zRet (z2 dIx (zC (.tup c_HEAVY)) (z2 dSub (zVar 0) (zCB dLen (zCons (zC (.tup c_EVEN)) zNil)))))))
def z_heavy_word : ZSp := fun ds M Q E => match ds with
  | [a0] => zFn false zb_heavy_word [some a0] M Q E
  | _ => False
def zb_put_item (zE : ZW) : ZS := (zSeq (zDrop (zCall z_look_item zE (zCons (zVar 0) zNil)))
  (zSeq (zDrop (zCall z_look_poise zE (zCons (zVar 1) zNil)))
  (zSeq (zIf (zAnd (zNot (zB (z1 (dIsi "str") (zVar 0)))) (zB (z2 (dCmp pLt) (zVar 0) (zCB dLen (zCons (zC (.tup c_EVEN)) zNil))))) (zRet (zTup (zCons (z2 dIx (zC (.tup c_EVEN)) (zVar 0)) (zCons (zVar 1) zNil))))
  zNext)
  (zSeq (zAsg (zCall z_heavy_word zE (zCons (zVar 0) zNil)) (zgName 2))
  (zRet (zTup (zCons (zIfE (zB (z2 (dCmp pLt) (zVar 1) (zC (.int 0)))) (zVar 2) (z2 dSub (zC (.int 1023)) (zVar 2))) (zCons (z2 dSub (zC (.int 0)) (zVar 1)) zNil))))))))
def z_put_item : ZSp := fun ds M Q E => match ds with
  | [a0, a1] => zFn false zb_put_item [some a0, some a1, none] M Q E
  | _ => False
def zb_pair_item (zE : ZW) : ZS := (zSeq (zIf (zB (z2 dEq (zVar 0) (zC (.int 250)))) (zRet (zC (.str "begin")))
  zNext)
  (zSeq (zIf (zB (z2 (dIn true) (zVar 0) (zC (.tup c_HEAVY)))) (zRet (zC .non))
  zNext)
  (zSeq (zAsg (zTIx c_HEAVY (zCons (zVar 0) zNil)) (zgName 1))
  (zSeq (zIf (zB (z2 (dCmp pLt) (zVar 1) (zC (.int 76)))) (zRet (z2 (dAdd false) (zCB dLen (zCons (zC (.tup c_EVEN)) zNil)) (zVar 1)))
  zNext)
  (zRet (zIfE (zB (z2 (dCmp pLt) (zVar 1) (z2 (dAdd false) (zC (.int 76)) (zCB dLen (zCons (zC (.tup c_CONTROLS)) zNil))))) (z2 dIx (zC (.tup c_CONTROLS)) (z2 dSub (zVar 1) (zC (.int 76)))) (zC .non)))))))
def z_pair_item : ZSp := fun ds M Q E => match ds with
  | [a0] => zFn false zb_pair_item [some a0, none] M Q E
  | _ => False
def zb_item_at (zE : ZW) : ZS := (zSeq (zIf (zB (z2 (dIn false) (zVar 0) (zC (.tup c_EVEN)))) (zRet (zTup (zCons (zTIx c_EVEN (zCons (zVar 0) zNil)) (zCons (zC (.int 0)) zNil))))
  zNext)
  (zSeq (zIf (zB (z2 dIsNot (zCall z_pair_item zE (zCons (zVar 0) zNil)) (zC .non))) (zRet (zTup (zCons (zCall z_pair_item zE (zCons (zVar 0) zNil)) (zCons (zC (.int 2)) zNil))))
  zNext)
  (zSeq (zIf (zB (z2 dIsNot (zCall z_pair_item zE (zCons (z2 dSub (zC (.int 1023)) (zVar 0)) zNil)) (zC .non))) (zRet (zTup (zCons (zCall z_pair_item zE (zCons (z2 dSub (zC (.int 1023)) (zVar 0)) zNil)) (zCons (z2 dSub (zC (.int 0)) (zC (.int 2))) zNil))))
  zNext)
  (zRet (zC .non)))))
def z_item_at : ZSp := fun ds M Q E => match ds with
  | [a0] => zFn false zb_item_at [some a0] M Q E
  | _ => False
def zb_look_items (zE : ZW) : ZS := (zIf (zOr (zNot (zB (z1 (dIsi "list") (zVar 0)))) (zNot (zB (zCB dAll (zCons (zLc false (ziList (zVar 0)) (zgName 1) zYes (zCall z_is_item zNoX (zCons (zVar 1) zNil)) [1]) zNil))))) (zRaise zE "BadItem")
  zNext)
def z_look_items : ZSp := fun ds M Q E => match ds with
  | [a0] => zFn false zb_look_items [some a0, none] M Q E
  | _ => False
def zb_sent_from (zE : ZW) : ZS := (zSeq (zDrop (zCall z_look_items zE (zCons (zVar 0) zNil)))
  (zSeq (zDrop (zCall z_look_poise zE (zCons (zVar 1) zNil)))
  (zSeq (zAsg (zLst true zNil) (zgName 2))
  (zSeq (zFor (ziList (zVar 0)) (zgName 3) (zSeq (zAsg (zCall z_put_item zE (zCons (zVar 3) (zCons (zVar 1) zNil))) (zgTup 2 (zgCons (zgName 4) (zgCons (zgName 1) zgNil))))
  (zDrop (zM "list" dExt (zVar 2) (zCons (zCall z_bits_of zE (zCons (zVar 4) zNil)) zNil)))))
  (zRet (zTup (zCons (zVar 2) (zCons (zVar 1) zNil))))))))
def z_sent_from : ZSp := fun ds M Q E => match ds with
  | [a0, a1] => zFn true zb_sent_from [some a0, some a1, none, none, none] M Q E
  | _ => False
def zb_is_row (zE : ZW) : ZS := (zSeq (zIf (zOr (zNot (zB (z1 (dIsi "list") (zVar 0)))) (zB (z2 (dCmp pGt) (zCB dLen (zCons (zVar 0) zNil)) (zVar 1)))) (zRet (zC (.bl false)))
  zNext)
  (zRet (zCB dAll (zCons (zLc false (ziList (zVar 0)) (zgName 2) zYes (zCall z_is_whole zNoX (zCons (zVar 2) (zCons (zC (.int 0)) (zCons (zC (.int 255)) zNil)))) [2]) zNil))))
def z_is_row : ZSp := fun ds M Q E => match ds with
  | [a0, a1] => zFn false zb_is_row [some a0, some a1, none] M Q E
  | _ => False
def zb_look_row (zE : ZW) : ZS := (zIf (zNot (zB (zCall z_is_row zE (zCons (zVar 0) (zCons (zVar 1) zNil))))) (zRaise zE "BadRow")
  zNext)
def z_look_row : ZSp := fun ds M Q E => match ds with
  | [a0, a1] => zFn false zb_look_row [some a0, some a1] M Q E
  | _ => False
def zb_sum_of (zE : ZW) : ZS := (zRet (z2 dMod (zCB dSum (zCons (zLc false (ziEnum (zCons (zVar 0) zNil)) (zgPair 1 2) zYes (z2 (dMul false) (z2 (dAdd false) (zVar 1) (zC (.int 1))) (z2 (dAdd false) (zVar 2) (zC (.int 1)))) [1, 2]) zNil)) (zC (.int 65521))))
def z_sum_of : ZSp := fun ds M Q E => match ds with
  | [a0] => zFn false zb_sum_of [some a0, none, none] M Q E
  | _ => False
def zb_check_of (zE : ZW) : ZS := (zSeq (zDrop (zCall z_look_row zE (zCons (zVar 0) (zCons (zC (.int 64)) zNil))))
  (zRet (zCB (dList true) (zCons (zCB dDivmod (zCons (zCall z_sum_of zE (zCons (zVar 0) zNil)) (zCons (zC (.int 256)) zNil))) zNil))))
def z_check_of : ZSp := fun ds M Q E => match ds with
  | [a0] => zFn true zb_check_of [some a0] M Q E
  | _ => False
def zb_framed (zE : ZW) : ZS := (zSeq (zAsg (zCall z_check_of zE (zCons (zVar 0) zNil)) (zgName 1))
  (zRet (z2 (dAdd true) (z2 (dAdd false) (z2 (dAdd false) (zLst false (zCons (zC (.str "begin")) (zCons (zCB dLen (zCons (zVar 0) zNil)) zNil))) (zVar 0)) (zVar 1)) (zLst false (zCons (zC (.str "end")) zNil)))))
def z_framed : ZSp := fun ds M Q E => match ds with
  | [a0] => zFn true zb_framed [some a0, none] M Q E
  | _ => False
def zb_row_within (zE : ZW) : ZS := (zSeq (zIf (zOr (zB (z2 dEq (zVar 0) (zLst false zNil))) (zOr (zB (z2 (dCmp pGt) (z2 dIx (zVar 0) (zC (.int 0))) (zC (.int 64)))) (zB (z2 dNe (zCB dLen (zCons (zVar 0) zNil)) (z2 (dAdd false) (z2 dIx (zVar 0) (zC (.int 0))) (zC (.int 3))))))) (zRet (zC .non))
  zNext)
  (zSeq (zAsg (zSl false (zVar 0) (zPart (zC (.int 1))) (zPart (z1 dNeg (zC (.int 2))))) (zgName 1))
  (zRet (zIfE (zB (z2 dEq (zCall z_check_of zE (zCons (zVar 1) zNil)) (zSl false (zVar 0) (zPart (z1 dNeg (zC (.int 2)))) zNoPart))) (zVar 1) (zC .non)))))
def z_row_within : ZSp := fun ds M Q E => match ds with
  | [a0] => zFn false zb_row_within [some a0, none] M Q E
  | _ => False
def zb_Reader___init__ (zE : ZW) : ZS := (zSeq (zSetA "Reader" "last" (zVar 0) (zLst false zNil))
  (zSeq (zSetA "Reader" "part" (zVar 0) (zC .non))
  (zSetA "Reader" "poise" (zVar 0) (zC .non))))
def z_Reader___init__ : ZSp := fun ds M Q E => match ds with
  | [a0] => zFn false zb_Reader___init__ [some a0] M Q E
  | _ => False
def zb_Reader_heard (zE : ZW) : ZS := (zSeq (zIf (zB (z2 (dIn false) (zVar 1) (zTup (zCons (zC (.int 250)) (zCons (z2 dSub (zC (.int 1023)) (zC (.int 250))) zNil))))) (zSeq (zAsg (zIfE (zB (z2 dEq (zVar 1) (zC (.int 250)))) (z2 dSub (zC (.int 0)) (zC (.int 1))) (zC (.int 1))) (zgName 2))
  (zSeq (zAsg (zIfE (zAnd (zB (z2 dIsNot (zFld "Reader" "poise" (zVar 0)) (zC .non))) (zB (z2 dNe (zFld "Reader" "poise" (zVar 0)) (zVar 2)))) (zLst false (zCons (zC (.str "lost")) zNil)) (zLst false zNil)) (zgName 3))
  (zSeq (zSetA "Reader" "poise" (zVar 0) (z2 dSub (zC (.int 0)) (zVar 2)))
  (zRet (z2 (dAdd true) (zVar 3) (zLst false (zCons (zC (.str "begin")) zNil)))))))
  zNext)
  (zSeq (zAsg (zIfE (zB (z2 dIs (zFld "Reader" "poise" (zVar 0)) (zC .non))) (zC .non) (zCall z_item_at zE (zCons (zVar 1) zNil))) (zgName 4))
  (zSeq (zIf (zOr (zB (z2 dIs (zVar 4) (zC .non))) (zNot (zB (zChain (dCmp pLe) (dCmp pLe) (z2 dSub (zC (.int 0)) (zC (.int 1))) (z2 (dAdd false) (zFld "Reader" "poise" (zVar 0)) (z2 dIx (zVar 4) (zC (.int 1)))) (zC (.int 1)))))) (zSeq (zSetA "Reader" "part" (zVar 0) (zC .non))
  (zSeq (zSetA "Reader" "poise" (zVar 0) (zC .non))
  (zRet (zLst true (zCons (zC (.str "lost")) zNil)))))
  zNext)
  (zSeq (zSetA "Reader" "poise" (zVar 0) (z2 (dAdd false) (zFld "Reader" "poise" (zVar 0)) (z2 dIx (zVar 4) (zC (.int 1)))))
  (zRet (zLst true (zCons (z2 dIx (zVar 4) (zC (.int 0))) zNil)))))))
def z_Reader_heard : ZSp := fun ds M Q E => match ds with
  | [a0, a1] => zFn true zb_Reader_heard [some a0, some a1, none, none, none] M Q E
  | _ => False
def zb_Reader_in_step (zE : ZW) : ZS := (zDrop (zCall z__wall zE (zCons (zC (.int 0)) zNil)))
def z_Reader_in_step : ZSp := fun ds M Q E => match ds with
  | [a0] => zFn false zb_Reader_in_step [some a0] M Q E
  | _ => False
def zb_Reader_poise_now (zE : ZW) : ZS := (zDrop (zCall z__wall zE (zCons (zC (.int 1)) zNil)))
def z_Reader_poise_now : ZSp := fun ds M Q E => match ds with
  | [a0] => zFn false zb_Reader_poise_now [some a0] M Q E
  | _ => False
def zb_Reader_waiting (zE : ZW) : ZS := (zRet (zIfE (zB (z2 dIs (zFld "Reader" "part" (zVar 0)) (zC .non))) (zC .non) (zCB dLen (zCons (zFld "Reader" "part" (zVar 0)) zNil))))
def z_Reader_waiting : ZSp := fun ds M Q E => match ds with
  | [a0] => zFn false zb_Reader_waiting [some a0] M Q E
  | _ => False
def zb_Taker___init__ (zE : ZW) : ZS := (zSetA "Taker" "some" (zVar 0) (zC .non))
def z_Taker___init__ : ZSp := fun ds M Q E => match ds with
  | [a0] => zFn false zb_Taker___init__ [some a0] M Q E
  | _ => False
def zb_Taker_took (zE : ZW) : ZS := (zSeq (zIf (zB (z2 dEq (zVar 1) (zC (.str "begin")))) (zSeq (zAsg (zIfE (zB (z2 dIs (zFld "Taker" "some" (zVar 0)) (zC .non))) (zLst false zNil) (zLst false (zCons (zTup (zCons (zC (.str "spoilt")) (zCons (zLst false zNil) zNil))) zNil))) (zgName 2))
  (zSeq (zSetA "Taker" "some" (zVar 0) (zLst true zNil))
  (zRet (zVar 2))))
  zNext)
  (zSeq (zIf (zOr (zB (z2 dIs (zFld "Taker" "some" (zVar 0)) (zC .non))) (zB (z2 dEq (zVar 1) (zC (.str "skip"))))) (zRet (zLst true zNil))
  zNext)
  (zSeq (zIf (zAnd (zNot (zB (z1 (dIsi "str") (zVar 1)))) (zB (z2 (dCmp pLt) (zCB dLen (zCons (zFld "Taker" "some" (zVar 0)) zNil)) (z2 (dAdd false) (zC (.int 64)) (zC (.int 3)))))) (zSeq (zDrop (zM "list" dApp (zFld "Taker" "some" (zVar 0)) (zCons (zVar 1) zNil)))
  (zRet (zLst true zNil)))
  zNext)
  (zSeq (zAsg (zIfE (zB (z2 dEq (zVar 1) (zC (.str "end")))) (zCall z_row_within zE (zCons (zFld "Taker" "some" (zVar 0)) zNil)) (zC .non)) (zgName 3))
  (zSeq (zSetA "Taker" "some" (zVar 0) (zC .non))
  (zRet (zIfE (zB (z2 dIs (zVar 3) (zC .non))) (zLst true (zCons (zTup (zCons (zC (.str "spoilt")) (zCons (zLst false zNil) zNil))) zNil)) (zLst true (zCons (zTup (zCons (zC (.str "frame")) (zCons (zVar 3) zNil))) zNil)))))))))
def z_Taker_took : ZSp := fun ds M Q E => match ds with
  | [a0, a1] => zFn true zb_Taker_took [some a0, some a1, none, none] M Q E
  | _ => False
def zb_Taker_within (zE : ZW) : ZS := (zRet (z2 dIsNot (zFld "Taker" "some" (zVar 0)) (zC .non)))
def z_Taker_within : ZSp := fun ds M Q E => match ds with
  | [a0] => zFn false zb_Taker_within [some a0] M Q E
  | _ => False
def zb_Ear___init__ (zE : ZW) : ZS := (zSeq (zSetA "Ear" "reader" (zVar 0) (zMake "Reader" z_Reader___init__ zE zNil))
  (zSetA "Ear" "taker" (zVar 0) (zMake "Taker" z_Taker___init__ zE zNil)))
def z_Ear___init__ : ZSp := fun ds M Q E => match ds with
  | [a0] => zFn false zb_Ear___init__ [some a0] M Q E
  | _ => False
def zb_Ear_in_step (zE : ZW) : ZS := (zDrop (zCall z__wall zE (zCons (zC (.int 2)) zNil)))
def z_Ear_in_step : ZSp := fun ds M Q E => match ds with
  | [a0] => zFn false zb_Ear_in_step [some a0] M Q E
  | _ => False
def zb_Sender___init__ (zE : ZW) : ZS := (zSeq (zSetA "Sender" "poise" (zVar 0) (z2 dSub (zC (.int 0)) (zC (.int 1))))
  (zSetA "Sender" "count" (zVar 0) (zC (.int 0))))
def z_Sender___init__ : ZSp := fun ds M Q E => match ds with
  | [a0] => zFn false zb_Sender___init__ [some a0] M Q E
  | _ => False
def zb_Sender_say (zE : ZW) : ZS := (zSeq (zDrop (zCall z_look_items zE (zCons (zVar 1) zNil)))
  (zSeq (zAsg (zCall z_sent_from zE (zCons (zVar 1) (zCons (zFld "Sender" "poise" (zVar 0)) zNil))) (zgTup 2 (zgCons (zgName 2) (zgCons (zgName 3) zgNil))))
  (zSeq (zSetA "Sender" "poise" (zVar 0) (zVar 3))
  (zSeq (zSetA "Sender" "count" (zVar 0) (z2 (dAdd false) (zFld "Sender" "count" (zVar 0)) (zCB dLen (zCons (zVar 1) zNil))))
  (zRet (zVar 2))))))
def z_Sender_say : ZSp := fun ds M Q E => match ds with
  | [a0, a1] => zFn false zb_Sender_say [some a0, some a1, none, none] M Q E
  | _ => False
def zb_Sender_say_row (zE : ZW) : ZS := (zRet (zMeth "Sender" "say" z_Sender_say zE (zVar 0) (zCons (zCall z_framed zE (zCons (zVar 1) zNil)) zNil)))
def z_Sender_say_row : ZSp := fun ds M Q E => match ds with
  | [a0, a1] => zFn false zb_Sender_say_row [some a0, some a1] M Q E
  | _ => False
def zb_Sender_poise_now (zE : ZW) : ZS := (zDrop (zCall z__wall zE (zCons (zC (.int 3)) zNil)))
def z_Sender_poise_now : ZSp := fun ds M Q E => match ds with
  | [a0] => zFn false zb_Sender_poise_now [some a0] M Q E
  | _ => False
def zb_Sender_said (zE : ZW) : ZS := (zDrop (zCall z__wall zE (zCons (zC (.int 4)) zNil)))
def z_Sender_said : ZSp := fun ds M Q E => match ds with
  | [a0] => zFn false zb_Sender_said [some a0] M Q E
  | _ => False
def zb_parted (zE : ZW) : ZS := (zSeq (zDrop (zCall z_look_row zE (zCons (zVar 0) (zCons (z2 (dMul false) (zC (.int 61)) (zC (.int 10))) zNil))))
  (zSeq (zIf (zNot (zB (zCall z_is_whole zE (zCons (zVar 1) (zCons (zC (.int 0)) (zCons (zC (.int 255)) zNil)))))) (zRaise zE "BadRow")
  zNext)
  (zSeq (zAsg (zCB dMaxL (zCons (zC (.int 1)) (zCons (z2 dDiv (z2 dSub (z2 (dAdd false) (zCB dLen (zCons (zVar 0) zNil)) (zC (.int 61))) (zC (.int 1))) (zC (.int 61))) zNil))) (zgName 2))
  (zRet (zLc true (ziRange (zCons (zVar 2) zNil)) (zgName 3) zYes (z2 (dAdd false) (zLst false (zCons (zVar 1) (zCons (zVar 3) (zCons (zVar 2) zNil)))) (zSl false (zVar 0) (zPart (z2 (dMul false) (zC (.int 61)) (zVar 3))) (zPart (z2 (dMul false) (zC (.int 61)) (z2 (dAdd false) (zVar 3) (zC (.int 1))))))) [3])))))
def z_parted : ZSp := fun ds M Q E => match ds with
  | [a0, a1] => zFn true zb_parted [some a0, some a1, none, none] M Q E
  | _ => False
def zb_is_part (zE : ZW) : ZS := (zSeq (zIf (zOr (zNot (zB (zCall z_is_row zE (zCons (zVar 0) (zCons (zC (.int 64)) zNil))))) (zB (z2 (dCmp pLt) (zCB dLen (zCons (zVar 0) zNil)) (zC (.int 3))))) (zRet (zC (.bl false)))
  zNext)
  (zRet (zChain (dCmp pLt) (dCmp pLe) (z2 dIx (zVar 0) (zC (.int 1))) (z2 dIx (zVar 0) (zC (.int 2))) (zC (.int 10)))))
def z_is_part : ZSp := fun ds M Q E => match ds with
  | [a0] => zFn false zb_is_part [some a0] M Q E
  | _ => False
def zb_Joiner___init__ (zE : ZW) : ZS := (zSetA "Joiner" "some" (zVar 0) (zLst true zNil))
def z_Joiner___init__ : ZSp := fun ds M Q E => match ds with
  | [a0] => zFn false zb_Joiner___init__ [some a0] M Q E
  | _ => False
def zb_Joiner_goes_on (zE : ZW) : ZS := (zSeq (zIf (zB (z2 dEq (zFld "Joiner" "some" (zVar 0)) (zLst false zNil))) (zRet (zC (.bl false)))
  zNext)
  (zSeq (zAsg (z2 dIx (zFld "Joiner" "some" (zVar 0)) (zC (.int 0))) (zgName 2))
  (zRet (zAndV (z2 dEq (z2 dIx (zVar 1) (zC (.int 1))) (zCB dLen (zCons (zFld "Joiner" "some" (zVar 0)) zNil))) (zAndV (z2 dEq (z2 dIx (zVar 1) (zC (.int 0))) (z2 dIx (zVar 2) (zC (.int 0)))) (z2 dEq (z2 dIx (zVar 1) (zC (.int 2))) (z2 dIx (zVar 2) (zC (.int 2)))))))))
def z_Joiner_goes_on : ZSp := fun ds M Q E => match ds with
  | [a0, a1] => zFn false zb_Joiner_goes_on [some a0, some a1, none] M Q E
  | _ => False
def zb_Joiner_begun (zE : ZW) : ZS := (zRet (zCB dLen (zCons (zFld "Joiner" "some" (zVar 0)) zNil)))
def z_Joiner_begun : ZSp := fun ds M Q E => match ds with
  | [a0] => zFn false zb_Joiner_begun [some a0] M Q E
  | _ => False
def zb_look_many (zE : ZW) : ZS := (zIf (zNot (zB (zCall z_is_whole zE (zCons (zVar 0) (zCons (zC (.int 2)) (zCons (zC (.int 4)) zNil)))))) (zRaise zE "BadLane")
  zNext)
def z_look_many : ZSp := fun ds M Q E => match ds with
  | [a0] => zFn false zb_look_many [some a0] M Q E
  | _ => False
def zb_dealt (zE : ZW) : ZS := (zSeq (zDrop (zCall z_look_many zE (zCons (zVar 1) zNil)))
  (zSeq (zDrop (zCall z_look_row zE (zCons (zVar 0) (zCons (z2 (dMul false) (z2 dSub (zC (.int 64)) (zC (.int 1))) (zVar 1)) zNil))))
  (zSeq (zIf (zNot (zB (zCall z_is_whole zE (zCons (zVar 2) (zCons (zC (.int 0)) (zCons (z2 dSub (zC (.int 256)) (zC (.int 1))) zNil)))))) (zRaise zE "BadRow")
  zNext)
  (zRet (zLc true (ziRange (zCons (zVar 1) zNil)) (zgName 3) zYes (zAny (z2 (dAdd false) (zLst false (zCons (zVar 2) zNil)) (zSlS false (zVar 0) (zPart (zVar 3)) zNoPart (zPart (zVar 1)))) (z2 (dAdd true) (zLst false (zCons (zVar 2) zNil)) (zSlS false (zVar 0) (zPart (zVar 3)) zNoPart (zPart (zVar 1))))) [3])))))
def z_dealt : ZSp := fun ds M Q E => match ds with
  | [a0, a1, a2] => zFn true zb_dealt [some a0, some a1, some a2, none] M Q E
  | _ => False
def zb_fits (zE : ZW) : ZS := (zSeq (zAsg (zLc false (ziList (zVar 0)) (zgName 2) zYes (zCB dLen (zCons (zVar 2) zNil)) [2]) (zgName 1))
  (zRet (zAndV (z2 dEq (zVar 1) (zCB (dSortedR false) (zCons (zVar 1) zNil))) (z2 (dCmp pLt) (z2 dSub (z2 dIx (zVar 1) (zC (.int 0))) (z2 dIx (zVar 1) (z1 dNeg (zC (.int 1))))) (zC (.int 2))))))
def z_fits : ZSp := fun ds M Q E => match ds with
  | [a0] => zFn false zb_fits [some a0, none, none] M Q E
  | _ => False
def zb_gathered (zE : ZW) : ZS := (zSeq (zIf (zOr (zNot (zB (z1 (dIsi "list") (zVar 0)))) (zNot (zB (zChain (dCmp pLe) (dCmp pLe) (zC (.int 2)) (zCB dLen (zCons (zVar 0) zNil)) (zC (.int 4)))))) (zRaise zE "BadLane")
  zNext)
  (zSeq (zIf (zNot (zB (zCB dAll (zCons (zLc false (ziList (zVar 0)) (zgName 2) zYes (zAndV (zCall z_is_row zNoX (zCons (zVar 2) (zCons (zC (.int 64)) zNil))) (z2 dNe (zVar 2) (zLst false zNil))) [2]) zNil)))) (zRaise zE "BadRow")
  zNext)
  (zSeq (zIf (zOr (zNot (zB (zCall z_fits zE (zCons (zVar 0) zNil)))) (zNot (zB (zCB dAll (zCons (zLc false (ziList (zVar 0)) (zgName 2) zYes (z2 dEq (z2 dIx (zVar 2) (zC (.int 0))) (z2 dIx (z2 dIx (zVar 0) (zC (.int 0))) (zC (.int 0)))) [2]) zNil))))) (zRaise zE "BadLane")
  zNext)
  (zSeq (zAsg (zCB dSum (zCons (zLc false (ziList (zVar 0)) (zgName 2) zYes (z2 dSub (zCB dLen (zCons (zVar 2) zNil)) (zC (.int 1))) [2]) zNil)) (zgName 1))
  (zRet (zTup (zCons (z2 dIx (z2 dIx (zVar 0) (zC (.int 0))) (zC (.int 0))) (zCons (zAny (zLc false (ziRange (zCons (zVar 1) zNil)) (zgName 3) zYes (z2 dIx (z2 dIx (zVar 0) (z2 dMod (zVar 3) (zCB dLen (zCons (zVar 0) zNil)))) (z2 (dAdd false) (zC (.int 1)) (z2 dDiv (zVar 3) (zCB dLen (zCons (zVar 0) zNil))))) [3]) (zLc true (ziRange (zCons (zVar 1) zNil)) (zgName 3) zYes (z2 dIx (z2 dIx (zVar 0) (z2 dMod (zVar 3) (zCB dLen (zCons (zVar 0) zNil)))) (z2 (dAdd false) (zC (.int 1)) (z2 dDiv (zVar 3) (zCB dLen (zCons (zVar 0) zNil))))) [3])) zNil))))))))
def z_gathered : ZSp := fun ds M Q E => match ds with
  | [a0] => zFn false zb_gathered [some a0, none, none, none] M Q E
  | _ => False
def zb_Lanes___init__ (zE : ZW) : ZS := (zSeq (zDrop (zCall z_look_many zE (zCons (zVar 1) zNil)))
  (zSeq (zSetA "Lanes" "rows" (zVar 0) (zLc false (ziRange (zCons (zVar 1) zNil)) (zgName 2) zYes (zLst true zNil) [2]))
  (zSetA "Lanes" "turn" (zVar 0) (zC (.int 0)))))
def z_Lanes___init__ : ZSp := fun ds M Q E => match ds with
  | [a0, a1] => zFn false zb_Lanes___init__ [some a0, some a1, none] M Q E
  | _ => False
def zb_Lanes_drop_late (zE : ZW) : ZS := (zFor (ziList (zFld "Lanes" "rows" (zVar 0))) (zgName 1) (zWhile (zAnd (zB (z2 dNe (zVar 1) (zLst false zNil))) (zB (z2 (dCmp pGe) (z2 dMod (z2 dSub (z2 dIx (z2 dIx (zVar 1) (zC (.int 0))) (zC (.int 0))) (zFld "Lanes" "turn" (zVar 0))) (zC (.int 256))) (zC (.int 128))))) (zDrop (zM "list" dPopAt (zVar 1) (zCons (zC (.int 0)) zNil)))))
def z_Lanes_drop_late : ZSp := fun ds M Q E => match ds with
  | [a0] => zFn true zb_Lanes_drop_late [some a0, none] M Q E
  | _ => False
def zb_Lanes_one (zE : ZW) : ZS := (zSeq (zAsg (zLc false (ziList (zFld "Lanes" "rows" (zVar 0))) (zgName 4) zYes (z2 dIx (zVar 4) (zC (.int 0))) [4]) (zgName 1))
  (zSeq (zAsg (zAndV (zCB dAll (zCons (zLc false (ziList (zVar 1)) (zgName 6) zYes (z2 dEq (z2 dIx (zVar 6) (zC (.int 0))) (zFld "Lanes" "turn" (zVar 0))) [6]) zNil)) (zCall z_fits zE (zCons (zVar 1) zNil))) (zgName 2))
  (zSeq (zAsg (zLst true zNil) (zgName 3))
  (zSeq (zFor (ziList (zFld "Lanes" "rows" (zVar 0))) (zgName 4) (zIf (zB (z2 dEq (z2 dIx (z2 dIx (zVar 4) (zC (.int 0))) (zC (.int 0))) (zFld "Lanes" "turn" (zVar 0)))) (zDrop (zM "list" dApp (zVar 3) (zCons (zM "list" dPopAt (zVar 4) (zCons (zC (.int 0)) zNil)) zNil)))
  zNext))
  (zSeq (zGh (zAsg (zFld "Lanes" "turn" (zVar 0)) (zgName 5)))
  (zSeq (zSetA "Lanes" "turn" (zVar 0) (z2 dMod (z2 (dAdd false) (zVar 5) (zC (.int 1))) (zC (.int 256))))
  (zRet (zIfE (zB (zVar 2)) (zLst true (zCons (zTup (zCons (zC (.str "row")) (zCons (zVar 5) (zCons (z2 dIx (zCall z_gathered zE (zCons (zVar 3) zNil)) (zC (.int 1))) zNil)))) zNil)) (zLst true (zCons (zTup (zCons (zC (.str "lost")) (zCons (zVar 5) (zCons (zLst false zNil) zNil)))) zNil))))))))))
def z_Lanes_one : ZSp := fun ds M Q E => match ds with
  | [a0] => zFn true zb_Lanes_one [some a0, none, none, none, none, none, none] M Q E
  | _ => False
def zb_Lanes_due (zE : ZW) : ZS := (zRet (zFld "Lanes" "turn" (zVar 0)))
def z_Lanes_due : ZSp := fun ds M Q E => match ds with
  | [a0] => zFn false zb_Lanes_due [some a0] M Q E
  | _ => False
def zb_Lanes_held (zE : ZW) : ZS := (zRet (zLc true (ziList (zFld "Lanes" "rows" (zVar 0))) (zgName 1) zYes (zCB dLen (zCons (zVar 1) zNil)) [1]))
def z_Lanes_held : ZSp := fun ds M Q E => match ds with
  | [a0] => zFn true zb_Lanes_held [some a0, none] M Q E
  | _ => False
def z__law_town : ZSp := fun ds M Q _ => match ds with
  | [.scr _] => (∀ t, M t ≠ some .town) ∧ ∀ t, M t = none → Q (.ref t) (mup M t .town)
  | _ => False
def zb__law_draw (zE : ZW) : ZS := (zSeq (zAsg (z2 dIx (zVar 0) (zC (.int 0))) (zgName 2))
  (zSeq (zAsg (z2 (dAdd false) (z2 dIx (zVar 0) (zC (.int 1))) (zC (.int 1))) (zgSub (zVar 0) (zC (.int 1))))
  (zSeq (zAsg (z2 dMod (z2 dIx (zVar 0) (zC (.int 1))) (zCB dLen (zCons (zVar 2) zNil))) (zgName 3))
  (zSeq (zAsg (z2 dIx (zVar 2) (zVar 3)) (zgName 4))
  (zSeq (zIf (zB (z2 (dCmp pGe) (zVar 4) (zC (.int 1000000000000000000)))) (zSeq (zAsg (z2 dDiv (zVar 4) (zVar 1)) (zgSub (zVar 2) (zVar 3)))
  (zRet (z2 dMod (zVar 4) (zVar 1))))
  zNext)
  (zSeq (zAsg (z2 dMod (z2 (dAdd false) (zVar 4) (z2 (dMul false) (zC (.int 104729)) (z2 dIx (zVar 0) (zC (.int 1))))) (zC (.int 4294967291))) (zgName 5))
  (zSeq (zAsg (z2 dMod (z2 dPow (zVar 5) (zC (.int 5))) (zC (.int 4294967279))) (zgName 5))
  (zRet (z2 dMod (z2 dDiv (z2 dMod (z2 (dAdd false) (z2 (dMul false) (z2 dDiv (zVar 5) (zC (.int 64))) (zC (.int 69621))) (zVar 5)) (zC (.int 4294967231))) (zC (.int 8))) (zVar 1))))))))))
def z0__law_draw : ZSp := fun ds M Q E => match ds with
  | [a0, a1] => zFn true zb__law_draw [some a0, some a1, none, none, none, none] M Q E
  | _ => False
def z__law_draw : ZSp := fun ds M Q _ => match ds with
  | [.ref t, .int n] => M t = some .town ∧ 0 < n ∧ n < 1073741824 ∧ ∀ k, 0 ≤ k → k < n → Q (.int k) M
  | _ => False
def zb__law_pick (zE : ZW) : ZS := (zRet (z2 dIx (zVar 1) (zCall z__law_draw zE (zCons (zVar 0) (zCons (zCB dLen (zCons (zVar 1) zNil)) zNil)))))
def z__law_pick : ZSp := fun ds M Q E => match ds with
  | [a0, a1] => zFn false zb__law_pick [some a0, some a1] M Q E
  | _ => False
def zb__law_ten (zE : ZW) : ZS := (zRet (zLc false (ziList (zLst false (zCons (zC (.int 512)) (zCons (zC (.int 256)) (zCons (zC (.int 128)) (zCons (zC (.int 64)) (zCons (zC (.int 32)) (zCons (zC (.int 16)) (zCons (zC (.int 8)) (zCons (zC (.int 4)) (zCons (zC (.int 2)) (zCons (zC (.int 1)) zNil)))))))))))) (zgName 1) zYes (z2 dMod (z2 dDiv (zVar 0) (zVar 1)) (zC (.int 2))) [1]))
def z__law_ten : ZSp := fun ds M Q E => match ds with
  | [a0] => zFn false zb__law_ten [some a0, none] M Q E
  | _ => False
def zb__law_some_bits (zE : ZW) : ZS := (zSeq (zAsg (zLst false zNil) (zgName 2))
  (zSeq (zAsg (zCall z__law_draw zE (zCons (zVar 0) (zCons (z2 (dAdd false) (zVar 1) (zC (.int 1))) zNil))) (zgName 3))
  (zSeq (zWhile (zB (z2 (dCmp pLt) (zCB dLen (zCons (zVar 2) zNil)) (zVar 3))) (zSeq (zAsg (zCall z__law_draw zE (zCons (zVar 0) (zCons (zC (.int 5)) zNil))) (zgName 4))
  (zIf (zB (z2 dEq (zVar 4) (zC (.int 0)))) (zAsg (z2 (dAdd false) (zVar 2) (zCall z__law_pick zE (zCons (zVar 0) (zCons (zLst false (zCons (zLst false (zCons (zC (.int 0)) (zCons (zC (.int 0)) (zCons (zC (.int 1)) (zCons (zC (.int 1)) (zCons (zC (.int 1)) (zCons (zC (.int 1)) (zCons (zC (.int 1)) zNil)))))))) (zCons (zLst false (zCons (zC (.int 1)) (zCons (zC (.int 1)) (zCons (zC (.int 0)) (zCons (zC (.int 0)) (zCons (zC (.int 0)) (zCons (zC (.int 0)) (zCons (zC (.int 0)) zNil)))))))) zNil))) zNil)))) (zgName 2))
  (zIf (zB (z2 dEq (zVar 4) (zC (.int 1)))) (zAsg (z2 (dAdd false) (zVar 2) (z2 (dMul false) (zLst false (zCons (zCall z__law_draw zE (zCons (zVar 0) (zCons (zC (.int 2)) zNil))) zNil)) (z2 (dAdd false) (zC (.int 1)) (zCall z__law_draw zE (zCons (zVar 0) (zCons (zC (.int 7)) zNil)))))) (zgName 2))
  (zIf (zB (z2 dEq (zVar 4) (zC (.int 2)))) (zAsg (z2 (dAdd false) (zVar 2) (zCall z__law_ten zE (zCons (zCall z__law_pick zE (zCons (zVar 0) (zCons (zLst false (zCons (zC (.int 250)) (zCons (zC (.int 773)) (zCons (zC (.int 250)) (zCons (zC (.int 773)) (zCons (zC (.int 715)) (zCons (zC (.int 308)) zNil))))))) zNil))) zNil))) (zgName 2))
  (zAsg (z2 (dAdd false) (zVar 2) (zSl false (zCall z__law_ten zE (zCons (zCall z__law_draw zE (zCons (zVar 0) (zCons (zC (.int 1024)) zNil))) zNil)) (zPart (zCall z__law_draw zE (zCons (zVar 0) (zCons (zC (.int 10)) zNil)))) zNoPart)) (zgName 2)))))))
  (zRet (zSl false (zVar 2) zNoPart (zPart (zVar 3)))))))
def z__law_some_bits : ZSp := fun ds M Q E => match ds with
  | [a0, a1] => zFn false zb__law_some_bits [some a0, some a1, none, none, none] M Q E
  | _ => False
def zb__law_byte (zE : ZW) : ZS := (zSeq (zAsg (zCall z__law_draw zE (zCons (zVar 0) (zCons (zC (.int 6)) zNil))) (zgName 1))
  (zSeq (zIf (zB (z2 dEq (zVar 1) (zC (.int 0)))) (zRet (zCall z__law_pick zE (zCons (zVar 0) (zCons (zLst false (zCons (zC (.int 0)) (zCons (zC (.int 1)) (zCons (zC (.int 178)) (zCons (zC (.int 179)) (zCons (zC (.int 180)) (zCons (zC (.int 181)) (zCons (zC (.int 254)) (zCons (zC (.int 255)) zNil))))))))) zNil))))
  zNext)
  (zRet (zIfE (zB (z2 (dCmp pLt) (zVar 1) (zC (.int 3)))) (z2 (dAdd false) (zC (.int 180)) (zCall z__law_draw zE (zCons (zVar 0) (zCons (zC (.int 76)) zNil)))) (zCall z__law_draw zE (zCons (zVar 0) (zCons (zC (.int 180)) zNil)))))))
def z__law_byte : ZSp := fun ds M Q E => match ds with
  | [a0] => zFn false zb__law_byte [some a0, none] M Q E
  | _ => False
def zb__law_gap (zE : ZW) : ZS := (zRet (zLc false (ziRange (zCons (zCall z__law_pick zE (zCons (zVar 0) (zCons (zLst false (zCons (zC (.int 0)) (zCons (zC (.int 0)) (zCons (zC (.int 1)) (zCons (zC (.int 2)) zNil))))) zNil))) zNil)) (zgName 1) zYes (zCall z__law_pick zNoX (zCons (zVar 0) (zCons (zLst false (zCons (zC (.str "rest")) (zCons (zC (.str "rest")) (zCons (zC (.str "skip")) zNil)))) zNil))) [1]))
def z__law_gap : ZSp := fun ds M Q E => match ds with
  | [a0] => zFn false zb__law_gap [some a0, none] M Q E
  | _ => False
def zb_Reader_found (zE : ZW) : ZS := (zSeq (zAsg (zLst true zNil) (zgName 1))
  (zSeq (zIf (zAnd (zB (z2 dInT (zCB dTuple (zCons (zFld "Reader" "last" (zVar 0)) zNil)) (zC (.tup c_SIGNS)))) (zOr (zB (z2 dIs (zFld "Reader" "part" (zVar 0)) (zC .non))) (zB (z2 dNe (zCB dLen (zCons (zFld "Reader" "part" (zVar 0)) zNil)) (zCB dLen (zCons (zFld "Reader" "last" (zVar 0)) zNil)))))) (zSeq (zIf (zB (z2 dIsNot (zFld "Reader" "part" (zVar 0)) (zC .non))) (zDrop (zM "list" dApp (zVar 1) (zCons (zC (.str "lost")) zNil)))
  zNext)
  (zSeq (zSetA "Reader" "part" (zVar 0) (zCB (dList true) (zCons (zFld "Reader" "last" (zVar 0)) zNil)))
  (zSetA "Reader" "poise" (zVar 0) (zC .non))))
  zNext)
  (zSeq (zIf (zAnd (zB (z2 dIsNot (zFld "Reader" "part" (zVar 0)) (zC .non))) (zB (z2 dEq (zCB dLen (zCons (zFld "Reader" "part" (zVar 0)) zNil)) (zC (.int 10))))) (zSeq (zAsg (zCall z_word_of zE (zCons (zFld "Reader" "part" (zVar 0)) zNil)) (zgName 2))
  (zSeq (zSetA "Reader" "part" (zVar 0) (zLst true zNil))
  (zDrop (zM "list" dExt (zVar 1) (zCons (zMeth "Reader" "heard" z_Reader_heard zE (zVar 0) (zCons (zVar 2) zNil)) zNil)))))
  zNext)
  (zRet (zVar 1)))))
def z_Reader_found : ZSp := fun ds M Q E => match ds with
  | [a0] => zFn true zb_Reader_found [some a0, none, none] M Q E
  | _ => False
def zb_Taker_take (zE : ZW) : ZS := (zSeq (zIf (zOr (zNot (zB (z1 (dIsi "list") (zVar 1)))) (zNot (zB (zCB dAll (zCons (zLc false (ziList (zVar 1)) (zgName 3) zYes (zOrV (z2 dEq (zVar 3) (zC (.str "lost"))) (zCall z_is_item zNoX (zCons (zVar 3) zNil))) [3]) zNil))))) (zRaise zE "BadItem")
  zNext)
  (zSeq (zAsg (zLst true zNil) (zgName 2))
  (zSeq (zFor (ziList (zVar 1)) (zgName 3) (zDrop (zM "list" dExt (zVar 2) (zCons (zMeth "Taker" "took" z_Taker_took zE (zVar 0) (zCons (zVar 3) zNil)) zNil))))
  (zRet (zVar 2)))))
def z_Taker_take : ZSp := fun ds M Q E => match ds with
  | [a0, a1] => zFn true zb_Taker_take [some a0, some a1, none, none] M Q E
  | _ => False
def zb_Joiner_take (zE : ZW) : ZS := (zSeq (zDrop (zCall z_look_row zE (zCons (zVar 1) (zCons (zC (.int 64)) zNil))))
  (zSeq (zIf (zNot (zB (zCall z_is_part zE (zCons (zVar 1) zNil)))) (zSeq (zSetA "Joiner" "some" (zVar 0) (zLst true zNil))
  (zRet (zC .non)))
  zNext)
  (zSeq (zIf (zB (z2 dEq (z2 dIx (zVar 1) (zC (.int 1))) (zC (.int 0)))) (zSetA "Joiner" "some" (zVar 0) (zLst true zNil))
  (zIf (zNot (zB (zMeth "Joiner" "goes_on" z_Joiner_goes_on zE (zVar 0) (zCons (zVar 1) zNil)))) (zSeq (zSetA "Joiner" "some" (zVar 0) (zLst true zNil))
  (zRet (zC .non)))
  zNext))
  (zSeq (zDrop (zM "list" dApp (zFld "Joiner" "some" (zVar 0)) (zCons (zCB (dList false) (zCons (zVar 1) zNil)) zNil)))
  (zSeq (zIf (zB (z2 (dCmp pLt) (zCB dLen (zCons (zFld "Joiner" "some" (zVar 0)) zNil)) (z2 dIx (zVar 1) (zC (.int 2))))) (zRet (zC .non))
  zNext)
  (zSeq (zAsg (zLst true zNil) (zgName 2))
  (zSeq (zFor (ziList (zFld "Joiner" "some" (zVar 0))) (zgName 3) (zDrop (zM "list" dExt (zVar 2) (zCons (zSl false (zVar 3) (zPart (zC (.int 3))) zNoPart) zNil))))
  (zSeq (zSetA "Joiner" "some" (zVar 0) (zLst true zNil))
  (zRet (zTup (zCons (z2 dIx (zVar 1) (zC (.int 0))) (zCons (zVar 2) zNil))))))))))))
def z_Joiner_take : ZSp := fun ds M Q E => match ds with
  | [a0, a1] => zFn true zb_Joiner_take [some a0, some a1, none, none] M Q E
  | _ => False
def zb_Lanes_come (zE : ZW) : ZS := (zSeq (zIf (zNot (zB (zCall z_is_whole zE (zCons (zVar 1) (zCons (zC (.int 0)) (zCons (z2 dSub (zCB dLen (zCons (zFld "Lanes" "rows" (zVar 0)) zNil)) (zC (.int 1))) zNil)))))) (zRaise zE "BadLane")
  zNext)
  (zSeq (zDrop (zCall z_look_row zE (zCons (zVar 2) (zCons (zC (.int 64)) zNil))))
  (zSeq (zIf (zB (z2 dEq (zVar 2) (zLst false zNil))) (zRaise zE "BadRow")
  zNext)
  (zSeq (zDrop (zM "list" dApp (z2 dIx (zFld "Lanes" "rows" (zVar 0)) (zVar 1)) (zCons (zCB (dList false) (zCons (zVar 2) zNil)) zNil)))
  (zSeq (zAsg (zLst true zNil) (zgName 3))
  (zSeq (zDrop (zMeth "Lanes" "drop_late" z_Lanes_drop_late zE (zVar 0) zNil))
  (zSeq (zWhile (zB (zCB dAll (zCons (zLc false (ziList (zFld "Lanes" "rows" (zVar 0))) (zgName 4) zYes (z2 dNe (zVar 4) (zLst false zNil)) [4]) zNil))) (zSeq (zDrop (zM "list" dExt (zVar 3) (zCons (zMeth "Lanes" "one" z_Lanes_one zE (zVar 0) zNil) zNil)))
  (zDrop (zMeth "Lanes" "drop_late" z_Lanes_drop_late zE (zVar 0) zNil))))
  (zRet (zVar 3)))))))))
def z_Lanes_come : ZSp := fun ds M Q E => match ds with
  | [a0, a1, a2] => zFn true zb_Lanes_come [some a0, some a1, some a2, none, none] M Q E
  | _ => False
def zb_Reader_hear (zE : ZW) : ZS := (zSeq (zDrop (zCall z_look_bits zE (zCons (zVar 1) zNil)))
  (zSeq (zAsg (zLst true zNil) (zgName 2))
  (zSeq (zFor (ziList (zVar 1)) (zgName 3) (zSeq (zSetA "Reader" "last" (zVar 0) (zSl false (z2 (dAdd false) (zFld "Reader" "last" (zVar 0)) (zLst false (zCons (zVar 3) zNil))) (zPart (z2 dSub (zC (.int 0)) (zCB dLen (zCons (z2 dIx (zC (.tup c_SIGNS)) (zC (.int 0))) zNil)))) zNoPart))
  (zSeq (zIf (zB (z2 dIsNot (zFld "Reader" "part" (zVar 0)) (zC .non))) (zDrop (zM "list" dApp (zFld "Reader" "part" (zVar 0)) (zCons (zVar 3) zNil)))
  zNext)
  (zDrop (zM "list" dExt (zVar 2) (zCons (zMeth "Reader" "found" z_Reader_found zE (zVar 0) zNil) zNil))))))
  (zRet (zVar 2)))))
def z_Reader_hear : ZSp := fun ds M Q E => match ds with
  | [a0, a1] => zFn true zb_Reader_hear [some a0, some a1, none, none] M Q E
  | _ => False
def zb_Ear_hear (zE : ZW) : ZS := (zRet (zMeth "Taker" "take" z_Taker_take zE (zFld "Ear" "taker" (zVar 0)) (zCons (zMeth "Reader" "hear" z_Reader_hear zE (zFld "Ear" "reader" (zVar 0)) (zCons (zVar 1) zNil)) zNil)))
def z_Ear_hear : ZSp := fun ds M Q E => match ds with
  | [a0, a1] => zFn false zb_Ear_hear [some a0, some a1] M Q E
  | _ => False
def zb_law (zE : ZW) : ZS := (zSeq (zAsg (zCall z__law_town zE (zCons (zVar 0) zNil)) (zgName 1))
  (zSeq (zAsg (z2 (dAdd false) (zC (.int 2)) (zCall z__law_draw zE (zCons (zVar 1) (zCons (zC (.int 2)) zNil)))) (zgName 2))
  (zSeq (zAsg (zCall z__law_draw zE (zCons (zVar 1) (zCons (zC (.int 256)) zNil))) (zgName 3))
  (zSeq (zAsg (zCall z__law_pick zE (zCons (zVar 1) (zCons (zLst false (zCons (zC (.int 0)) (zCons (zC (.int 1)) (zCons (zC (.int 5)) (zCons (zC (.int 20)) (zCons (zC (.int 62)) zNil)))))) zNil))) (zgName 4))
  (zSeq (zAsg (zSl false (z2 (dMul false) (zLc false (ziRange (zCons (zC (.int 5)) zNil)) (zgName 11) zYes (zCall z__law_byte zNoX (zCons (zVar 1) zNil)) [11]) (zC (.int 13))) zNoPart (zPart (zVar 4))) (zgName 5))
  (zSeq (zAsg (zCall z_parted zE (zCons (zVar 5) (zCons (zVar 3) zNil))) (zgName 6))
  (zSeq (zAsg (zLc false (ziRange (zCons (zVar 2) zNil)) (zgName 11) zYes (zMake "Sender" z_Sender___init__ zNoX zNil) [11]) (zgName 7))
  (zSeq (zAsg (zLc false (ziRange (zCons (zVar 2) zNil)) (zgName 11) zYes (zMake "Ear" z_Ear___init__ zNoX zNil) [11]) (zgName 8))
  (zSeq (zFor (ziList (zVar 8)) (zgName 9) (zDrop (zMeth "Ear" "hear" z_Ear_hear zE (zVar 9) (zCons (zCall z__law_some_bits zE (zCons (zVar 1) (zCons (zC (.int 12)) zNil))) zNil))))
  (zSeq (zAsg (zLc true (ziRange (zCons (zVar 2) zNil)) (zgName 11) zYes (zLst true zNil) [11]) (zgName 10))
  (zSeq (zFor (ziRange (zCons (zCB dLen (zCons (zVar 6) zNil)) zNil)) (zgName 11) (zSeq (zAsg (zCall z_dealt zE (zCons (z2 dIx (zVar 6) (zVar 11)) (zCons (zVar 2) (zCons (zVar 11) zNil)))) (zgName 12))
  (zFor (ziRange (zCons (zVar 2) zNil)) (zgName 13) (zSeq (zAsg (zMeth "Sender" "say_row" z_Sender_say_row zE (z2 dIx (zVar 7) (zVar 13)) (zCons (z2 dIx (zVar 12) (zVar 13)) zNil)) (zgName 14))
  (zDrop (zM "list" dExt (z2 dIx (zVar 10) (zVar 13)) (zCons (z2 (dAdd false) (zVar 14) (zMeth "Sender" "say" z_Sender_say zE (z2 dIx (zVar 7) (zVar 13)) (zCons (zCall z__law_gap zE (zCons (zVar 1) zNil)) zNil))) zNil)))))))
  (zSeq (zAsg (zMake "Lanes" z_Lanes___init__ zE (zCons (zVar 2) zNil)) (zgName 15))
  (zSeq (zAsg (zMake "Joiner" z_Joiner___init__ zE zNil) (zgName 16))
  (zSeq (zAsg (zLst true zNil) (zgName 17))
  (zSeq (zWhile (zB (z2 dNe (zLc false (ziList (zVar 10)) (zgName 24) (zB (z2 dNe (zVar 24) (zLst false zNil))) (zVar 24) [24]) (zLst false zNil))) (zSeq (zAsg (zCall z__law_pick zE (zCons (zVar 1) (zCons (zLc false (ziRange (zCons (zVar 2) zNil)) (zgName 11) (zB (z2 dNe (z2 dIx (zVar 10) (zVar 11)) (zLst false zNil))) (zVar 11) [11]) zNil))) (zgName 13))
  (zSeq (zAsg (zCall z__law_pick zE (zCons (zVar 1) (zCons (zLst false (zCons (zC (.int 30)) (zCons (zC (.int 45)) (zCons (zC (.int 100)) (zCons (zC (.int 300)) zNil))))) zNil))) (zgName 4))
  (zSeq (zFor (ziList (zMeth "Ear" "hear" z_Ear_hear zE (z2 dIx (zVar 8) (zVar 13)) (zCons (zSl false (z2 dIx (zVar 10) (zVar 13)) zNoPart (zPart (zVar 4))) zNil))) (zgTup 2 (zgCons (zgName 18) (zgCons (zgName 19) zgNil))) (zIf (zB (z2 dEq (zVar 18) (zC (.str "frame")))) (zFor (ziList (zMeth "Lanes" "come" z_Lanes_come zE (zVar 15) (zCons (zVar 13) (zCons (zVar 19) zNil)))) (zgTup 3 (zgCons (zgName 20) (zgCons (zgName 21) (zgCons (zgName 22) zgNil)))) (zDrop (zM "list" dApp (zVar 17) (zCons (zIfE (zB (z2 dEq (zVar 20) (zC (.str "row")))) (zMeth "Joiner" "take" z_Joiner_take zE (zVar 16) (zCons (zVar 22) zNil)) (zC (.str "lost"))) zNil))))
  zNext))
  (zAsg (zSl false (z2 dIx (zVar 10) (zVar 13)) (zPart (zVar 4)) zNoPart) (zgSub (zVar 10) (zVar 13)))))))
  (zSeq (zAsg (z2 (dAdd false) (z2 (dMul false) (zLst false (zCons (zC .non) zNil)) (z2 dSub (zCB dLen (zCons (zVar 6) zNil)) (zC (.int 1)))) (zLst false (zCons (zTup (zCons (zVar 3) (zCons (zVar 5) zNil))) zNil))) (zgName 23))
  (zRet (zAndV (z2 dEq (zVar 17) (zVar 23)) (z2 dEq (zMeth "Lanes" "held" z_Lanes_held zE (zVar 15) zNil) (z2 (dMul false) (zLst false (zCons (zC (.int 0)) zNil)) (zVar 2)))))))))))))))))))))
def z_law : ZSp := fun ds M Q E => match ds with
  | [a0] => zFn true zb_law [some a0, none, none, none, none, none, none, none, none, none, none, none, none, none, none, none, none, none, none, none, none, none, none, none, none] M Q E
  | _ => False
local macro_rules | `(tactic| walk_at "zs") => `(tactic| first | (with_reducible apply i_seq) | (with_reducible apply i_2) | (with_reducible apply i_1) | (with_reducible apply i_c) | (with_reducible apply i_asg) | (with_reducible apply i_cons) | (with_reducible apply i_nil) | (with_reducible apply i_if) | (with_reducible apply i_ret) | (with_reducible apply i_B) | (with_reducible apply i_onBl) | (with_reducible apply i_drop) | (with_reducible apply i_call) | (with_reducible apply i_cb) | (with_reducible apply i_sub) | (with_reducible apply i_addI) | (with_reducible apply i_andV) | (with_reducible apply i_orV) | (with_reducible apply i_notV) | (with_reducible apply i_and) | (with_reducible apply i_or) | (with_reducible apply i_not) | (with_reducible apply i_ifE) | (with_reducible apply i_chain) | (with_reducible apply i_bT) | (with_reducible apply i_bF) | (with_reducible apply i_lt) | (with_reducible apply i_le) | (with_reducible apply i_gt) | (with_reducible apply i_ge) | (with_reducible apply i_neg) | (with_reducible apply i_newF) | (with_reducible apply i_tup) | (with_reducible apply i_lst) | (with_reducible apply i_isN) | (with_reducible apply i_isNotN) | (with_reducible apply i_lenIs) | (with_reducible apply i_lenL) | (with_reducible apply i_lenT) | (with_reducible apply i_lenS) | (with_reducible apply i_sl) | (with_reducible apply i_part) | (with_reducible apply i_nopart) | (with_reducible apply i_onInt) | (with_reducible apply i_slL) | (with_reducible apply i_for) | (with_reducible apply i_m) | (with_reducible apply i_raise) | (with_reducible apply i_rt0) | (with_reducible apply i_nx0) | (with_reducible apply i_ex0) | (with_reducible apply i_next) | (with_reducible apply i_retN) | (with_reducible apply i_band) | (with_reducible apply i_bxor) | (with_reducible apply i_max2) | (with_reducible apply i_min2) | (with_reducible apply i_listL) | (with_reducible apply i_listT) | (with_reducible apply i_abs) | (with_reducible apply i_gcons) | (with_reducible apply i_gnil) | (with_reducible apply i_isB) | (with_reducible apply i_isNotB) | (with_reducible apply i_slS) | (with_reducible apply i_gsub) | (with_reducible apply i_lc) | (with_reducible apply i_lcS) | (with_reducible apply i_yes) | (with_reducible apply i_iLl) | (with_reducible apply i_onL) | (with_reducible apply i_range) | (with_reducible apply i_range2) | (with_reducible apply i_onI1) | (with_reducible apply i_onI2) | (with_reducible apply i_iT) | (with_reducible apply i_onT) | (with_reducible apply i_iS) | (with_reducible apply i_onS) | (with_reducible apply i_par2) | (with_reducible apply i_on2) | (with_reducible apply i_ck0) | (with_reducible apply i_step) | (with_reducible apply i_exG) | (with_reducible apply i_nxG) | (with_reducible apply i_sumL) | (with_reducible apply i_eqII) | (with_reducible apply i_neII) | (with_reducible apply i_eqSS) | (with_reducible apply i_neSS) | (with_reducible apply i_eqIS) | (with_reducible apply i_neIS) | (with_reducible apply i_bN) | (with_reducible apply i_fld) | (with_reducible apply i_setA) | (with_reducible apply i_meth) | (with_reducible apply i_make) | (with_reducible apply i_try) | (with_reducible apply i_dct) | (with_reducible apply i_rev) | (with_reducible apply i_zLl) | (with_reducible apply i_slStep) | (with_reducible apply i_lrg1) | (with_reducible apply i_lrg2) | (with_reducible apply i_callD) | (with_reducible apply i_lenO) | (with_reducible apply i_callK) | (with_reducible apply i_makeD0) | (with_reducible apply i_makeK0) | ((with_reducible apply i_name); (try dsimp only [st, zwipe])) | ((with_reducible apply i_pair); (try dsimp only [st, zwipe])) | ((with_reducible apply i_var); rfl) | ((with_reducible apply i_isi); (first | rfl | exact tyD_ref mup_same)) | ((with_reducible apply i_gtup); rfl) | ((with_reducible apply i_beT); rfl) | ((with_reducible apply i_beF); rfl) | ((with_reducible apply i_sz); exact Nat.le_of_ble_eq_true rfl) | ((with_reducible apply i_inT); rfl; rfl) | ((with_reducible apply i_rg); (first | decide | omega); (first | decide | omega)) | ((with_reducible apply i_ty); (first | rfl | exact tyD_ref mup_same | exact tyD_ref (by assumption))) | ((with_reducible apply i_onIns); walk_at "m") | ((with_reducible apply i_onFd); rfl) | ((with_reducible apply i_f1000); exact of_decide_eq_true rfl) | ((with_reducible apply i_lkN); rfl) | ((with_reducible apply i_isx); rfl) | ((with_reducible apply i_tryx); rfl; rfl) | ((with_reducible apply i_bdT); (first | omega | decide)) | ((with_reducible apply i_bdF); (first | omega | decide)) | ((with_reducible apply i_mod); (first | decide | omega)) | ((with_reducible apply i_div); exact ⟨by first | decide | omega, by first | decide | omega⟩) | ((with_reducible apply i_mulI); (first | exact .inl (by decide) | exact .inr (by decide) | exact .inl (by omega) | exact .inr (by omega))) | ((with_reducible apply i_shr); (first | decide | omega)) | ((with_reducible apply i_ixT); rfl) | ((with_reducible apply i_ixL); rfl) | ((with_reducible apply i_enum); rfl) | ((with_reducible apply i_divmod); exact ⟨by first | decide | omega, by first | decide | omega⟩))
local macro_rules | `(tactic| walk_at "m") => `(tactic| (first | exact mup_same | assumption | (refine mup_get (by assumption) ?_; walk_at "m") | (refine (mup_ne (by first | assumption | (apply Ne.symm; assumption))).trans ?_; walk_at "m")))
local macro_rules | `(tactic| walk_at "sz") => `(tactic| (rw [sizeLine_eq]; (try simp only [List.length_append, List.length_map, List.length_cons, List.length_nil, List.length_take, List.length_drop]); omega))
local macro_rules | `(tactic| walk_at "ys") => `(tactic| first | walk_at "zs" | ((with_reducible apply i_lenRs); walk_at "m") | ((with_reducible apply i_lenR); walk_at "m") | ((with_reducible apply i_listR); walk_at "m") | ((with_reducible apply i_slR); walk_at "m") | ((with_reducible apply i_onR); walk_at "m") | ((with_reducible apply i_app); (walk_at "m"); (walk_at "sz")) | ((with_reducible apply i_ext); (walk_at "m"); (walk_at "sz")) | ((with_reducible apply i_addL); walk_at "sz") | ((with_reducible apply i_addLR); (walk_at "m"); (walk_at "sz")) | ((with_reducible apply i_addRL); (walk_at "m"); (walk_at "sz")) | ((with_reducible apply i_sz); walk_at "sz") | ((with_reducible apply i_ixR); (walk_at "m"); rfl) | ((with_reducible apply i_ty); exact tyD_ref (by walk_at "m")) | ((with_reducible apply i_isi); exact tyD_ref (by walk_at "m")))
local macro_rules | `(tactic| walk_at "y") => `(tactic| repeat walk_at "ys")
local macro_rules | `(tactic| walk_at "z") => `(tactic| repeat walk_at "zs")

-- needs: _law_draw
theorem div_log2 {c n : Int} (hc : 0 ≤ c) (hn : 0 < n) : (c / n).natAbs.log2 ≤ c.natAbs.log2 := by
  have h1 : (c / n).natAbs ≤ c.natAbs := by
    have a := Int.ediv_nonneg hc (by omega : 0 ≤ n)
    have b := Int.ediv_le_self n hc
    omega
  by_cases h0 : (c / n).natAbs = 0
  · rw [h0]; exact Nat.zero_le _
  · have h2 : c.natAbs ≠ 0 := by omega
    exact (Nat.le_log2 h2).mpr (Nat.le_trans (Nat.log2_self_le h0) h1)
theorem sum_set_le {l : List Int} {j : Nat} {x : Int} (f : Int → Nat) (hj : j < l.length) (h : f x ≤ f l[j]) : ((l.set j x).map f).sum ≤ (l.map f).sum := by
  induction l generalizing j with
  | nil => simp at hj
  | cons a l ih =>
    cases j with
    | zero => simp at h ⊢; exact h
    | succ j =>
      have := ih (j := j) (by simpa using hj) (by simpa using h)
      rw [List.set_cons_succ, List.map_cons, List.map_cons, List.sum_cons, List.sum_cons]; omega
theorem cellsOk_set {l : List Int} {j : Nat} {x : Int} (h : cellsOk l) (hj : j < l.length) (hx : x.natAbs.log2 ≤ (l[j]).natAbs.log2) : cellsOk (l.set j x) := ⟨by rw [List.length_set]; exact h.1, Nat.le_trans (sum_set_le (fun x : Int => x.natAbs.log2) hj hx) h.2⟩
theorem plains_ints : ∀ ns : List Int, plains (ns.map D.int) = true
  | [] => by simp [plains]
  | n :: r => by simp [plains, Zl.plain, plains_ints r]
theorem tOpen_t {M : Mh} {t c : Addr} {n : Int} {cells : List Int} : tOpen M t c n cells t = some (.lst [.ref c, .int n]) := mup_same
theorem tOpen_c {M : Mh} {t c : Addr} {n : Int} {cells : List Int} (h : c ≠ t) : tOpen M t c n cells c = some (.lst (cells.map D.int)) := by
  unfold tOpen; rw [mup_ne h]; exact mup_same
theorem tOpen_n {M : Mh} {t c : Addr} {n m : Int} {cells : List Int} : mup (tOpen M t c n cells) t (.lst [.ref c, .int m]) = tOpen M t c m cells := mup_mup
theorem tOpen_k {M : Mh} {t c : Addr} {n : Int} {cells cs : List Int} (h : c ≠ t) : mup (tOpen M t c n cells) c (.lst (cs.map D.int)) = tOpen M t c n cs := by
  funext b
  unfold tOpen mup
  by_cases e : b = c
  · subst e; simp [h]
  · simp [e]
theorem draw0 {M : Mh} {t c : Addr} {cells : List Int} {n m : Int} {Q : QZ} {E : ZX} (T : TownOk M t c cells) (h0 : 0 < n) (h1 : n < 1073741824)
    (k : ∀ (k m : Int) (cs : List Int), 0 ≤ k → k < n → cs ≠ [] → cellsOk cs → Q (.int k) (tOpen M t c m cs)) : z0__law_draw [.ref t, .int n] (tOpen M t c m cells) Q E := by
  have ct := T.ct
  have lp : 0 < cells.length := List.length_pos_iff.mpr T.ne
  obtain ⟨j, hj, ej⟩ : ∃ j : Nat, j < cells.length ∧ (m + 1) % (cells.length : Int) = (j : Int) := by
    have a := Int.emod_nonneg (m + 1) (show (cells.length : Int) ≠ 0 by omega)
    have b := Int.emod_lt_of_pos (m + 1) (show (0 : Int) < cells.length by omega)
    exact ⟨((m + 1) % (cells.length : Int)).toNat, by omega, by omega⟩
  show zFn true zb__law_draw _ _ _ _
  unfold zFn zb__law_draw
  walk_at "z"
  refine i_ixR tOpen_t (d := .ref c) (by rfl) ?_
  walk_at "z"
  refine i_ixR tOpen_t (d := .int m) (by rfl) ?_
  walk_at "z"
  refine i_set tOpen_t (j := 1) (by rfl) ?_
  dsimp only [List.set]
  rw [tOpen_n]
  walk_at "z"
  refine i_ixR tOpen_t (d := .int (m + 1)) (by rfl) ?_
  walk_at "z"
  refine i_lenR (tOpen_c ct) ?_
  rw [List.length_map]
  refine i_mod (by omega) ?_
  rw [ej]
  walk_at "z"
  have hat : atI (cells.map D.int) (j : Int) = some (.int cells[j]) := atI_nat (by rw [List.getElem?_map, List.getElem?_eq_getElem hj]; rfl)
  have hix : ixN (cells.map D.int).length (j : Int) = some j := by
    unfold ixN
    rw [List.length_map, if_pos (by omega), if_pos (by omega)]; simp
  refine i_ixR (tOpen_c ct) hat ?_
  walk_at "z"
  refine i_bd (fun hc => ?_) (fun hc => ?_)
  · walk_at "z"
    refine i_set (tOpen_c ct) hix ?_
    rw [show (cells.map D.int).set j (.int (cells[j] / n)) = (cells.set j (cells[j] / n)).map D.int by rw [List.map_set], tOpen_k ct]
    walk_at "z"
    exact i_rtG (k _ _ _ (Int.emod_nonneg _ (by omega)) (Int.emod_lt_of_pos _ h0) (fun z => by
      have := congrArg List.length z
      rw [List.length_set] at this
      exact absurd this (by simp; exact T.ne)) (cellsOk_set T.len hj (div_log2 (by omega) h0)))
  · walk_at "z"
    refine i_ixR tOpen_t (d := .int (m + 1)) (by rfl) ?_
    walk_at "z"
    have b1 := Int.emod_nonneg (cells[j] + 104729 * (m + 1)) (show (4294967291 : Int) ≠ 0 by decide)
    have b2 := Int.emod_lt_of_pos (cells[j] + 104729 * (m + 1)) (show (0 : Int) < 4294967291 by decide)
    refine i_pow ⟨by decide, by decide, ?_⟩ ?_
    · generalize (cells[j] + 104729 * (m + 1)) % 4294967291 = q at *
      omega
    walk_at "z"
    exact i_rtG (k _ _ _ (Int.emod_nonneg _ (by omega)) (Int.emod_lt_of_pos _ h0) T.ne T.len)

/-- is_whole's answer -/
def iw (d : D) (lo hi : Int) : Bool := match d with
  | .int i => decide (lo ≤ i) && decide (i ≤ hi)
  | _ => false
/-- a thing whose kind is known -/
def known (M : Mh) (d : D) : Prop := ∃ t, tyD M d = some t
theorem known_int {M : Mh} (i : Int) : known M (.int i) := ⟨_, rfl⟩
theorem known_str {M : Mh} (i : Str) : known M (.str i) := ⟨_, rfl⟩
theorem known_lst {M : Mh} (i : List D) : known M (.lst i) := ⟨_, rfl⟩
theorem i_eqT {M : Mh} {Q : QZ} {x y : D} (hx : Pl 64 x) (hy : Pl 64 y) (e : eqD x y = true) (q : Q (.bl true) M) : dEq x y M Q := i_eq hx hy (by rw [e]; exact q)
theorem i_neF {M : Mh} {Q : QZ} {x y : D} (hx : Pl 64 x) (hy : Pl 64 y) (e : eqD x y = true) (q : Q (.bl false) M) : dNe x y M Q := i_ne hx hy (by rw [e]; exact q)
theorem i_eqF {M : Mh} {Q : QZ} {x y : D} (hx : Pl 64 x) (hy : Pl 64 y) (e : eqD x y = false) (q : Q (.bl false) M) : dEq x y M Q := i_eq hx hy (by rw [e]; exact q)
theorem i_neT {M : Mh} {Q : QZ} {x y : D} (hx : Pl 64 x) (hy : Pl 64 y) (e : eqD x y = false) (q : Q (.bl true) M) : dNe x y M Q := i_ne hx hy (by rw [e]; exact q)
theorem i_neFR {M : Mh} {Q : QZ} {y : D} {xs : List D} {p : Addr} (e : M p = some (.lst xs)) (hx : Pl 64 (.lst xs)) (hy : Pl 64 y) (e2 : eqD (.lst xs) y = true) (q : Q (.bl false) M) : dNe (.ref p) y M Q := i_neR e hx hy (by rw [e2]; exact q)
theorem eqDs_refl_ints : ∀ ns : List Int, eqDs (ns.map D.int) (ns.map D.int) = true
  | [] => rfl
  | n :: r => by simp [eqDs_refl_ints r]
theorem eqD_int_of {i j : Int} (h : i = j) : eqD (.int i) (.int j) = true := by simp [h]
theorem eqD_ints_of {ns ms : List Int} (h : ns = ms) : eqD (.lst (ns.map D.int)) (.lst (ms.map D.int)) = true := by subst h; exact eqDs_refl_ints ns
theorem i_neI {M : Mh} {Q : QZ} {i j : Int} (e : i = j) (q : Q (.bl false) M) : dNe (.int i) (.int j) M Q := i_neF (.int _ _) (.int _ _) (eqD_int_of e) q
theorem i_eqI {M : Mh} {Q : QZ} {i j : Int} (e : i = j) (q : Q (.bl true) M) : dEq (.int i) (.int j) M Q := i_eqT (.int _ _) (.int _ _) (eqD_int_of e) q
theorem i_neIs {M : Mh} {Q : QZ} {ns ms : List Int} (e : ns = ms) (q : Q (.bl false) M) : dNe (.lst (ns.map D.int)) (.lst (ms.map D.int)) M Q := i_neF (.ints _) (.ints _) (eqD_ints_of e) q
theorem i_eqIs {M : Mh} {Q : QZ} {ns ms : List Int} (e : ns = ms) (q : Q (.bl true) M) : dEq (.lst (ns.map D.int)) (.lst (ms.map D.int)) M Q := i_eqT (.ints _) (.ints _) (eqD_ints_of e) q
theorem i_idx {M : Mh} {Q : QZ} {y : D} {l : List D} {j : Nat} (h1 : flatD y = true) (h2 : l.all flatD = true) (h3 : idxD y l = some j) (q : Q (.int (j : Nat)) M) : dIndex (.lst l) [y] M Q := by
  show flatD y = true ∧ l.all flatD = true ∧ (match idxD y l with | some j => Q (.int (j : Nat)) M | none => False)
  rw [h3]; exact ⟨h1, h2, q⟩
theorem i_tixV {r : Zl.Env} {M : Mh} {Q : QZ} {y : D} {ds : List D} {n j : Nat} (h : gt r n = some y) (h1 : flatD y = true) (h3 : idxD y ds = some j) (q : Q (.int (j : Nat)) M) : zTIx ds (zCons (zVar n) zNil) r M Q := by
  refine i_tix (i_cons (i_var h (i_nil ?_)))
  show flatD y = true ∧ (match idxD y ds with | some j => Q (.int (j : Nat)) M | none => False)
  rw [h3]; exact ⟨h1, q⟩
def knowns (M : Mh) (ds : List D) : Prop := ∀ d ∈ ds, known M d
theorem knowns_ints {M : Mh} (ns : List Int) : knowns M (ns.map D.int) := fun d hd => by
  obtain ⟨i, _, rfl⟩ := List.mem_map.mp hd
  exact known_int i
/-- the ten bits of a word -/
def ten (w : Int) : List Int := [512, 256, 128, 64, 32, 16, 8, 4, 2, 1].map fun b => w / b % 2
theorem iw_int {i lo hi : Int} : iw (.int i) lo hi = (decide (lo ≤ i) && decide (i ≤ hi)) := rfl
theorem iw_true {i lo hi : Int} (h1 : lo ≤ i) (h2 : i ≤ hi) : iw (.int i) lo hi = true := by simp [iw, h1, h2]
def wordOf (ns : List Int) : Int := ns.foldl (fun a b => 2 * a + b) 0
def bitL (ns : List Int) : Prop := ∀ n ∈ ns, n = 0 ∨ n = 1
theorem ten_bits (w : Int) : bitL (ten w) := fun n hn => by
  obtain ⟨b, _, rfl⟩ := List.mem_map.mp hn
  omega
theorem ten_len (w : Int) : (ten w).length = 10 := rfl
/-! loops and comprehensions over what is known -/
theorem zLoop_map {α : Type} {f : α → D} {c : Ck} {step : D → (Zl.Env → Mh → Prop) → Zl.Env → Mh → Prop} {nx : Zl.Env → Mh → Prop} (P : List α → Zl.Env → Mh → Prop) (hd : ∀ r M, P [] r M → zck c M (nx r M))
    (hs : ∀ a l r M (k : Zl.Env → Mh → Prop), P (a :: l) r M → (∀ r' M', P l r' M' → k r' M') → zck c M (step (f a) k r M)) :
    ∀ {as : List α} {r : Zl.Env} {M : Mh}, P as r M → zLoop c step nx (as.map f) r M
  | [], r, M, h => hd r M h
  | a :: l, r, M, h => hs a l r M _ h fun r' M' h' => zLoop_map P hd hs h'
theorem rangeD_succ (lo : Int) (n : Nat) : rangeD lo 1 (n + 1) = .int lo :: rangeD (lo + 1) 1 n := rfl
theorem zLoop_range0 {step : D → (Zl.Env → Mh → Prop) → Zl.Env → Mh → Prop} {nx : Zl.Env → Mh → Prop} {lo : Int} (P : Nat → Zl.Env → Mh → Prop) (m : Nat) (hd : ∀ r M, P m r M → nx r M)
    (hs : ∀ j r M (k : Zl.Env → Mh → Prop), j < m → P j r M → (∀ r' M', P (j + 1) r' M' → k r' M') → step (.int (lo + (j : Nat))) k r M) :
    ∀ (n i : Nat) {r : Zl.Env} {M : Mh}, i + n = m → P i r M → zLoop none step nx (rangeD (lo + (i : Nat)) 1 n) r M
  | 0, i, r, M, e, h => by
    have e' : i = m := by omega
    subst e'; exact hd r M h
  | n + 1, i, r, M, e, h => by
    rw [rangeD_succ]
    refine hs i r M _ (by omega) h fun r' M' h' => ?_
    have := zLoop_range0 P m hd hs n (i + 1) (by omega) h'
    rw [show (lo + ((i + 1 : Nat) : Int)) = lo + (i : Nat) + 1 by omega] at this
    exact this
/-- a loop over a range, by its index -/
theorem zLoop_range {step : D → (Zl.Env → Mh → Prop) → Zl.Env → Mh → Prop} {nx : Zl.Env → Mh → Prop} {lo : Int} {m : Nat} (P : Nat → Zl.Env → Mh → Prop) (hd : ∀ r M, P m r M → nx r M)
    (hs : ∀ j r M (k : Zl.Env → Mh → Prop), j < m → P j r M → (∀ r' M', P (j + 1) r' M' → k r' M') → step (.int (lo + (j : Nat))) k r M) {r : Zl.Env} {M : Mh} (h : P 0 r M) : zLoop none step nx (rangeD lo 1 m) r M := by
  have := zLoop_range0 P m hd hs m 0 (by omega) h
  rw [show lo + ((0 : Nat) : Int) = lo by omega] at this; exact this
theorem zLcL_mapm {α : Type} {f g : α → D} {step : D → Mh → (Option D → Mh → Prop) → Prop} {k : List D → Mh → Prop} {M : Mh} : ∀ {as : List α} {acc : List D}, (∀ a, a ∈ as → ∀ Q : Option D → Mh → Prop, Q (some (g a)) M → step (f a) M Q) → k (acc ++ as.map g) M → zLcL none step k (as.map f) acc M
  | [], acc, _, h => by
    show k acc M
    simpa using h
  | a :: l, acc, hs, h => by
    show step (f a) M _
    refine hs a List.mem_cons_self _ ?_
    show zLcL none step k (l.map f) (acc ++ [g a]) M
    exact zLcL_mapm (fun e he => hs e (List.mem_cons_of_mem _ he)) (by simpa using h)
theorem zLcL_filterm {α : Type} {f g : α → D} {p : α → Bool} {step : D → Mh → (Option D → Mh → Prop) → Prop} {k : List D → Mh → Prop} {M : Mh} : ∀ {as : List α} {acc : List D}, (∀ a, a ∈ as → ∀ Q : Option D → Mh → Prop, (p a = true → Q (some (g a)) M) → (p a = false → Q none M) → step (f a) M Q) → k (acc ++ (as.filter p).map g) M → zLcL none step k (as.map f) acc M
  | [], acc, _, h => by
    show k acc M
    simpa using h
  | a :: l, acc, hs, h => by
    show step (f a) M _
    refine hs a List.mem_cons_self _ (fun hp => ?_) (fun hp => ?_)
    · show zLcL none step k (l.map f) (acc ++ [g a]) M
      exact zLcL_filterm (fun e he => hs e (List.mem_cons_of_mem _ he)) (by simpa [List.filter_cons, hp] using h)
    · show zLcL none step k (l.map f) acc M
      exact zLcL_filterm (fun e he => hs e (List.mem_cons_of_mem _ he)) (by simpa [List.filter_cons, hp] using h)
theorem rangeD_mapI (n : Nat) : rangeD 0 1 n = (List.range n).map fun (k : Nat) => D.int (k : Nat) := by
  rw [rangeD_map]; apply List.map_congr_left; intro k _; rw [Int.zero_add]
theorem atI_ints {ns : List Int} {k : Nat} (h : k < ns.length) : atI (ns.map D.int) (k : Int) = some (.int ns[k]) := atI_nat (by rw [List.getElem?_map, List.getElem?_eq_getElem h]; rfl)
/-- a while, by a measure that falls -/
theorem zWhile_ind {t : ZT} {tb : ZS} {E : ZEnds} (P : Nat → Zl.Env → Mh → Prop) (hs : ∀ n r M (k : Zl.Env → Mh → Prop), P n r M → (∀ m r' M', m < n → P m r' M' → k r' M') → t r M fun b M1 => bsel b (tb { nx := k, rt := E.rt, bk := E.nx, ct := k } r M1) (E.nx r M1)) {r : Zl.Env} {M : Mh} (n : Nat) (h : P n r M) : zWhile t tb E r M := by
  have up : ∀ (f n : Nat) (r : Zl.Env) (M : Mh), n < f → P n r M → zWhileN t tb E f r M := by
    intro f
    induction f with
    | zero => intro n r M h; omega
    | succ f ih =>
      intro n r M h hp
      exact hs n r M (zWhileN t tb E f) hp fun m r' M' hm h' => ih m r' M' (by omega) h'
  exact ⟨n + 1, up (n + 1) n r M (by omega) h⟩
theorem cutD_to (ds : List D) (k : Nat) : cutD ds none (some (k : Int)) = ds.take k := by
  unfold cutD
  rw [HT.sIx_none, HT.sIx_nat, List.drop_zero, Nat.sub_zero]
  by_cases h : k ≤ ds.length
  · rw [Nat.min_eq_left h]
  · rw [Nat.min_eq_right (by omega), List.take_of_length_le (Nat.le_refl _), List.take_of_length_le (by omega)]
theorem cutD_from (ds : List D) (k : Nat) : cutD ds (some (k : Int)) none = ds.drop k := by
  unfold cutD
  rw [HT.sIx_none, HT.sIx_nat, List.take_of_length_le (by rw [List.length_drop]; omega)]
  by_cases h : k ≤ ds.length
  · rw [Nat.min_eq_left h]
  · rw [Nat.min_eq_right (by omega), List.drop_of_length_le (Nat.le_refl _), List.drop_of_length_le (by omega)]
theorem cutD_mid (ds : List D) (i j : Nat) : cutD ds (some (i : Int)) (some (j : Int)) = (ds.drop i).take (j - i) := by
  unfold cutD
  rw [HT.sIx_nat, HT.sIx_nat]
  by_cases h : i ≤ ds.length
  · rw [Nat.min_eq_left h]
    by_cases h2 : j ≤ ds.length
    · rw [Nat.min_eq_left h2]
    · rw [Nat.min_eq_right (by omega), List.take_of_length_le (by rw [List.length_drop]; omega), List.take_of_length_le (by rw [List.length_drop]; omega)]
  · rw [show min i ds.length = ds.length by omega, List.drop_of_length_le (Nat.le_refl _), List.drop_of_length_le (show ds.length ≤ i by omega), List.take_nil, List.take_nil]
theorem bitL_app {a b : List Int} (h : bitL a) (h' : bitL b) : bitL (a ++ b) := fun n hn => (List.mem_append.mp hn).elim (h n) (h' n)
theorem bitL_take {a : List Int} (h : bitL a) (k : Nat) : bitL (a.take k) := fun n hn => h n (List.mem_of_mem_take hn)
theorem bitL_drop {a : List Int} (h : bitL a) (k : Nat) : bitL (a.drop k) := fun n hn => h n (List.mem_of_mem_drop hn)
theorem ixN_last {acc : List Int} (h : acc ≠ []) : ixN (acc.map D.int).length (-1) = some (acc.length - 1) := by
  have : 0 < acc.length := List.length_pos_iff.mpr h
  unfold ixN
  rw [List.length_map, if_neg (by decide), if_pos (by omega)]
  congr 1; omega
theorem atI_last {acc : List Int} (h : acc ≠ []) : atI (acc.map D.int) (-1) = some (.int (acc.getLastD 0)) := by
  have : 0 < acc.length := List.length_pos_iff.mpr h
  unfold atI
  rw [ixN_last h]
  show (acc.map D.int)[acc.length - 1]? = _
  rw [List.getElem?_map, ← List.getLast?_eq_getElem?, List.getLastD_eq_getLast?]
  cases e : acc.getLast? with
  | none => rw [List.getLast?_eq_none_iff] at e; exact absurd e h
  | some x => rfl
theorem set_last {acc : List Int} {x : Int} (h : acc ≠ []) : (acc.map D.int).set (acc.length - 1) (.int x) = (acc.dropLast ++ [x]).map D.int := by
  have : 0 < acc.length := List.length_pos_iff.mpr h
  rw [← List.map_set]
  congr 1
  obtain ⟨l, y, rfl⟩ : ∃ l y, acc = l ++ [y] := ⟨acc.dropLast, acc.getLast h, (List.dropLast_concat_getLast h).symm⟩
  simp
/-- a statement, by what holds behind it -/
theorem i_seqP {t u : ZS} {E : ZEnds} {r : Zl.Env} {M : Mh} (P : Zl.Env → Mh → Prop) (h1 : ∀ r M, P r M → u E r M) (h2 : ∀ k : Zl.Env → Mh → Prop, (∀ r M, P r M → k r M) → t { nx := k, rt := E.rt, bk := E.bk, ct := E.ct } r M) : zSeq t u E r M := h2 _ h1
theorem rep_ints (x : Int) (n : Nat) : (List.replicate n [D.int x]).flatten = (List.replicate n x).map D.int := by
  induction n with
  | zero => rfl
  | succ n ih => rw [List.replicate_succ, List.flatten_cons, ih]; rfl
theorem i_addIs {M : Mh} {Q : QZ} {a b : List Int} {n : Bool} (h : a.length + b.length ≤ 16777216) (q : zNew n ((a ++ b).map D.int) M Q) : dAdd n (.lst (a.map D.int)) (.lst (b.map D.int)) M Q := i_addL (by rw [List.length_map, List.length_map]; exact h) (by rw [← List.map_append]; exact q)
theorem i_addI1 {M : Mh} {Q : QZ} {a : List Int} {b : Int} {n : Bool} (h : a.length + 1 ≤ 16777216) (q : zNew n ((a ++ [b]).map D.int) M Q) : dAdd n (.lst (a.map D.int)) (.lst [.int b]) M Q := i_addIs (b := [b]) h q
theorem i_mulI1 {M : Mh} {Q : QZ} {x k : Int} {n : Bool} (h0 : 0 ≤ k) (h : k ≤ 16777216) (q : zNew n ((List.replicate k.toNat x).map D.int) M Q) : dMul n (.lst [.int x]) (.int k) M Q := i_mulL (by omega) (by omega) (by show 1 * _ ≤ 2 ^ 24; omega) (by rw [rep_ints]; exact q)
theorem i_rtN2 {R : QZ} {M : Mh} {p : Addr} {ds : List D} {x : Int} (hp : M p = none) (h : R (.tup [.lst ds, .int x]) M) : (enB true R).rt (.tup [.ref p, .int x]) (mup M p (.lst ds)) :=
  ⟨_, _, .frz (p := p) mup_same, by rw [mdel_mup hp]; simpa [frzD, frzDs] using h⟩
theorem zck_at {M : Mh} {p : Addr} {ds : List D} (e : M p = some (.lst ds)) : ∀ P : Prop, P → zck (some (p, ds)) M P := fun _ h => ⟨e, h⟩
/-- a comprehension over what may change, but doesn't here -/
theorem zLcL_filterc {c : Ck} {step : D → Mh → (Option D → Mh → Prop) → Prop} {k : List D → Mh → Prop} {M : Mh} (hc : ∀ P : Prop, P → zck c M P) (p : D → Bool) (f : D → D) : ∀ {ds acc : List D}, (∀ d, d ∈ ds → ∀ Q : Option D → Mh → Prop, (p d = true → Q (some (f d)) M) → (p d = false → Q none M) → step d M Q) → k (acc ++ (ds.filter p).map f) M → zLcL c step k ds acc M
  | [], acc, _, h => by
    refine hc _ ?_
    simpa using h
  | d :: l, acc, hs, h => by
    refine hc _ (hs d List.mem_cons_self _ (fun hp => ?_) (fun hp => ?_))
    · show zLcL c step k l (acc ++ [f d]) M
      exact zLcL_filterc hc p f (fun e he => hs e (List.mem_cons_of_mem _ he)) (by simpa [List.filter_cons, hp] using h)
    · show zLcL c step k l acc M
      exact zLcL_filterc hc p f (fun e he => hs e (List.mem_cons_of_mem _ he)) (by simpa [List.filter_cons, hp] using h)
/-- a changing list is left as it stands -/
theorem i_ghF {t : ZS} {E : ZEnds} {r : Zl.Env} {M : Mh} {p : Addr} {ds : List D} (e : M p = some (.lst ds)) (h : t E (r.map fun o => o.map (frzD p ds)) (mdel M p)) : zGh t E r M := ⟨_, _, .frz e, h⟩
theorem i_gh0 {t : ZS} {E : ZEnds} {r : Zl.Env} {M : Mh} (h : t E r M) : zGh t E r M := ⟨_, _, .refl, h⟩
mutual
/-- no changing thing inside -/
def noRef : D → Bool
  | .lst ds => noRefs ds
  | .tup ds => noRefs ds
  | .ref _ => false
  | _ => true
def noRefs : List D → Bool
  | [] => true
  | d :: r => noRef d && noRefs r
end
mutual
theorem frzD_no {p : Addr} {es : List D} : ∀ {d : D}, noRef d = true → frzD p es d = d
  | .lst ds, h => by unfold frzD; rw [frzDs_no (by simpa [noRef] using h)]
  | .tup ds, h => by unfold frzD; rw [frzDs_no (by simpa [noRef] using h)]
  | .ref a, h => by simp [noRef] at h
  | .non, _ => by simp [frzD]
  | .bl b, _ => by simp [frzD]
  | .int i, _ => by simp [frzD]
  | .str x, _ => by simp [frzD]
  | .dct, _ => by simp [frzD]
  | .exc c, _ => by simp [frzD]
  | .scr ns, _ => by simp [frzD]
theorem frzDs_no {p : Addr} {es : List D} : ∀ {ds : List D}, noRefs ds = true → frzDs p es ds = ds
  | [], _ => by simp [frzDs]
  | d :: r, h => by
    have q := Bool.and_eq_true_iff.mp (show (noRef d && noRefs r) = true by simpa [noRefs] using h)
    unfold frzDs; rw [frzD_no q.1, frzDs_no q.2]
end
theorem noRefs_ints : ∀ ns : List Int, noRefs (ns.map D.int) = true
  | [] => by simp [noRefs]
  | n :: r => by simp [noRefs, noRef, noRefs_ints r]
theorem frz_ints {p : Addr} {es : List D} (ns : List Int) : frzD p es (.lst (ns.map D.int)) = .lst (ns.map D.int) := frzD_no (by unfold noRef; exact noRefs_ints ns)
theorem frz_at {p : Addr} {es : List D} : frzD p es (.ref p) = .lst es := by unfold frzD; rw [if_pos rfl]
theorem frz_other {p a : Addr} {es : List D} (h : a ≠ p) : frzD p es (.ref a) = .ref a := by unfold frzD; rw [if_neg h]
theorem frz_int {p : Addr} {es : List D} (i : Int) : frzD p es (.int i) = .int i := by simp [frzD]
theorem frz_scr {p : Addr} {es : List D} (i : List Int) : frzD p es (.scr i) = .scr i := by simp [frzD]
theorem atI_snoc {ds : List D} {d : D} : atI (ds ++ [d]) (-1) = some d := by
  unfold atI ixN
  rw [List.length_append, if_neg (by decide), if_pos (by simp only [List.length_cons, List.length_nil]; omega)]
  show (ds ++ [d])[_]? = _
  rw [show ((-1 : Int) + ((ds.length + [d].length : Nat) : Int)).toNat = ds.length by simp only [List.length_cons, List.length_nil]; omega]
  simp
theorem ixN_snoc {ds : List D} {d : D} : ixN (ds ++ [d]).length (-1) = some ds.length := by
  unfold ixN
  rw [List.length_append, if_neg (by decide), if_pos (by simp only [List.length_cons, List.length_nil]; omega)]
  congr 1; simp only [List.length_cons, List.length_nil]; omega
theorem set_snoc {ds : List D} {d e : D} : (ds ++ [d]).set ds.length e = ds ++ [e] := by simp
theorem all_flat_ints (ns : List Int) : (ns.map D.int).all flatD = true := by rw [List.all_map]; exact List.all_eq_true.mpr fun _ _ => rfl

theorem l_is_whole {d : D} {lo hi : Int} {M : Mh} {Q : QZ} {E : ZX} (h : known M d) (q : Q (.bl (iw d lo hi)) M) : z_is_whole [d, .int lo, .int hi] M Q E := by
  show zFn false zb_is_whole _ _ _ _
  unfold zFn zb_is_whole
  obtain ⟨t, ht⟩ := h
  cases d with
  | int i =>
    walk_at "z"
    refine i_bd (fun h1 => ?_) (fun h1 => ?_)
    · walk_at "z"
      have e : iw (.int i) lo hi = decide (i ≤ hi) := by simp [iw, h1]
      rw [e] at q; exact q
    · walk_at "z"
      have e : iw (.int i) lo hi = false := by simp [iw, h1]
      rw [e] at q; exact q
  | bl b => walk_at "z"; exact q
  | non => walk_at "z"; exact q
  | str s => walk_at "z"; exact q
  | lst l => walk_at "z"; exact q
  | tup l => walk_at "z"; exact q
  | dct => walk_at "z"; exact q
  | exc c => cases ht
  | scr c => cases ht
  | ref p =>
    have ht' : tyD M (.ref p) = some "list" := by
      have z : (match M p with | some (.lst _) => some "list" | _ => none) = some t := ht
      split at z
      · cases z; exact ht
      · cases z
    walk_at "z"
    refine i_isi ht' ?_
    walk_at "z"
    exact q

theorem l_look_word {d : D} {M : Mh} {Q : QZ} {E : ZX} (h : known M d) (q1 : iw d 0 1023 = true → Q .non M) (q2 : iw d 0 1023 = false → E "BadWord" [] M) : z_look_word [d] M Q E := by
  show zFn false zb_look_word _ _ _ _
  unfold zFn zb_look_word
  walk_at "z"
  refine l_is_whole h ?_
  walk_at "z"
  refine i_b (fun e => ?_) (fun e => ?_)
  · walk_at "z"; exact q1 (by simpa using e)
  · walk_at "z"; exact q2 (by simpa using e)

/-- whether a thing is a list of bits -/
def isBits (M : Mh) (d : D) : Bool := match d with
  | .lst ds => ds.all fun x => iw x 0 1
  | .ref p => (match M p with | some (.lst ds) => ds.all fun x => iw x 0 1 | _ => false)
  | _ => false
theorem l_look_bits {d : D} {M : Mh} {Q : QZ} {E : ZX} (h : known M d) (hk : ∀ ds, d = .lst ds → knowns M ds) (hr : ∀ p, d ≠ .ref p) (q1 : isBits M d = true → Q .non M) (q2 : isBits M d = false → E "BadBits" [] M) : z_look_bits [d] M Q E := by
  show zFn false zb_look_bits _ _ _ _
  unfold zFn zb_look_bits
  obtain ⟨t, ht⟩ := h
  cases d with
  | lst ds =>
    walk_at "z"
    refine zLcL_map (fun x => .bl (iw x 0 1)) (fun x hx Q hq => ?_) ?_
    · walk_at "z"
      refine l_is_whole (hk ds rfl x hx) ?_
      exact hq
    · walk_at "z"
      refine i_allE (bs := ds.map fun x => iw x 0 1) (by simp [Function.comp_def]) ?_
      walk_at "z"
      have e : (ds.map fun x => iw x 0 1).all id = isBits M (.lst ds) := by
        simp [isBits, List.all_map, Function.comp_def]
      rw [e]
      refine i_b (fun e => ?_) (fun e => ?_)
      · walk_at "z"; exact q1 (by simpa using e)
      · walk_at "z"; exact q2 (by simpa using e)
  | bl b => walk_at "z"; exact q2 rfl
  | non => walk_at "z"; exact q2 rfl
  | int i => walk_at "z"; exact q2 rfl
  | str s => walk_at "z"; exact q2 rfl
  | tup l => walk_at "z"; exact q2 rfl
  | dct => walk_at "z"; exact q2 rfl
  | exc c => cases ht
  | scr c => cases ht
  | ref p => exact absurd rfl (hr p)
theorem isBits_ints {M : Mh} {ns : List Int} (h : bitL ns) : isBits M (.lst (ns.map D.int)) = true := by
  show (ns.map D.int).all _ = true
  rw [List.all_map, List.all_eq_true]
  intro n hn
  rcases h n hn with e | e <;> subst e <;> rfl
/-- look_bits of bits -/
theorem l_look_bits_ok {ns : List Int} {M : Mh} {Q : QZ} {E : ZX} (h : bitL ns) (q : Q .non M) : z_look_bits [.lst (ns.map D.int)] M Q E :=
  l_look_bits (known_lst _) (fun ds e => by cases e; exact knowns_ints ns) (fun p e => by cases e) (fun _ => q) fun e => by rw [isBits_ints h] at e; cases e
def badBits (M : Mh) (d : D) : Prop := known M d ∧ (∀ ds, d = .lst ds → knowns M ds) ∧ (∀ p, d ≠ .ref p) ∧ isBits M d = false
theorem l_look_bits_bad {d : D} {M : Mh} {Q : QZ} {E : ZX} (h : badBits M d) (q : E "BadBits" [] M) : z_look_bits [d] M Q E := by
  obtain ⟨h1, h2, h3, h4⟩ := h
  exact l_look_bits h1 h2 h3 (fun e => by rw [h4] at e; cases e) fun _ => q
theorem badBits_of {M : Mh} {d : D} {t : String} (h1 : tyD M d = some t) (h2 : ∀ ds, d ≠ .lst ds) (h3 : ∀ p, d ≠ .ref p) : badBits M d := by
  refine ⟨⟨_, h1⟩, (fun ds e => absurd e (h2 ds)), h3, ?_⟩
  cases d with
  | lst ds => exact absurd rfl (h2 ds)
  | ref p => exact absurd rfl (h3 p)
  | _ => rfl
theorem l_look_bitsR {p : Addr} {ns : List Int} {M : Mh} {Q : QZ} {E : ZX} (e : M p = some (.lst (ns.map D.int))) (h : bitL ns) (q : Q .non M) : z_look_bits [.ref p] M Q E := by
  show zFn _ zb_look_bits _ _ _ _
  unfold zFn zb_look_bits
  walk_at "y"
  refine zLcL_filterc (zck_at e) (fun _ => true) (fun x => .bl (iw x 0 1)) (fun d hd Q h1 _ => ?_) ?_
  · walk_at "y"
    obtain ⟨i, _, rfl⟩ := List.mem_map.mp hd
    exact l_is_whole (known_int i) (h1 rfl)
  · walk_at "y"
    refine i_allE (bs := ns.map fun x => iw (.int x) 0 1) (by rw [List.filter_eq_self.mpr (fun _ _ => rfl)]; simp [Function.comp_def]) ?_
    walk_at "y"
    rw [show (ns.map fun x => iw (.int x) 0 1).all id = true by
      rw [List.all_map, List.all_eq_true]
      intro n hn
      rcases h n hn with e | e <;> subst e <;> rfl]
    walk_at "y"
    exact q
theorem known_up {M : Mh} {x : Addr} {o : MO} {d : D} (hx : M x = none) (h : known M d) : known (mup M x o) d := by
  obtain ⟨t, ht⟩ := h
  cases d with
  | ref p =>
    have ht : (match M p with | some (.lst _) => some "list" | _ => none) = some t := ht
    cases e : M p with
    | none => rw [e] at ht; cases ht
    | some m =>
      cases m with
      | lst ds => exact ⟨"list", by show (match mup M x o p with | some (.lst _) => some "list" | _ => none) = _; rw [mup_get hx e]⟩
      | ins c fs => rw [e] at ht; cases ht
      | town => rw [e] at ht; cases ht
  | _ => exact ⟨t, ht⟩
theorem badBits.up {M : Mh} {x : Addr} {o : MO} {d : D} (hx : M x = none) (h : badBits M d) : badBits (mup M x o) d := by
  obtain ⟨h1, h2, h3, h4⟩ := h
  refine ⟨known_up hx h1, (fun ds e y hy => known_up hx (h2 ds e y hy)), h3, ?_⟩
  cases d with
  | ref p => exact absurd rfl (h3 p)
  | lst ds => exact h4
  | _ => rfl

theorem bits_ten : ∀ n : Nat, n < 1024 → (List.range 10).map (fun k : Nat => Builtin.bitAnd ((n : Int) / 2 ^ (10 - 1 - (0 + (k : Int))).toNat) 1) = ten n := by decide +kernel
/-- .. a new list that may change -/
theorem l_bits_ofM {w : Int} {M : Mh} {Q : QZ} {E : ZX} (h0 : 0 ≤ w) (h1 : w < 1024) (q : ∀ p, M p = none → (enB true Q).rt (.ref p) (mup M p (.lst ((ten w).map D.int)))) : z_bits_of [.int w] M Q E := by
  show zFn true zb_bits_of _ _ _ _
  unfold zFn zb_bits_of
  walk_at "z"
  refine l_look_word (known_int w) (fun _ => ?_) (fun e => by rw [iw_true h0 (by omega)] at e; cases e)
  walk_at "z"
  rw [rangeD_map]
  refine zLcL_map (fun d => match d with | .int k => .int (Builtin.bitAnd (w / 2 ^ (10 - 1 - k).toNat) 1) | d => d) (fun d hd Q hq => ?_) ?_
  · obtain ⟨k, hk, rfl⟩ := List.mem_map.mp hd
    have hk' : k < 10 := by simpa using hk
    walk_at "z"
    exact hq
  · obtain ⟨n, rfl⟩ : ∃ n : Nat, w = n := ⟨w.toNat, by omega⟩
    have e := bits_ten n (by omega)
    have e2 : ((List.range 10).map fun k : Nat => D.int (0 + (k : Int))).map (fun d => match d with | .int k => .int (Builtin.bitAnd ((n : Int) / 2 ^ (10 - 1 - k).toNat) 1) | d => d) = (ten n).map D.int := by
      rw [← e, List.map_map, List.map_map]; rfl
    rw [List.nil_append]
    show zNew true (((List.range 10).map fun k : Nat => D.int (0 + (k : Int))).map _) M _
    rw [e2]
    exact i_newT q
theorem l_bits_of {w : Int} {M : Mh} {Q : QZ} {E : ZX} (h0 : 0 ≤ w) (h1 : w < 1024) (q : Q (.lst ((ten w).map D.int)) M) : z_bits_of [.int w] M Q E := l_bits_ofM h0 h1 fun p hp => i_rtN hp q
theorem l_bits_of_bad {d : D} {M : Mh} {Q : QZ} {E : ZX} (h : known M d) (hb : iw d 0 1023 = false) (q : E "BadWord" [] M) : z_bits_of [d] M Q E := by
  show zFn _ zb_bits_of _ _ _ _
  unfold zFn zb_bits_of
  walk_at "z"
  refine l_look_word h (fun e => by rw [hb] at e; cases e) fun _ => ?_
  walk_at "z"
  exact q

theorem l_word_of {ns : List Int} {M : Mh} {Q : QZ} {E : ZX} (h : bitL ns) (hl : ns.length = 10) (q : Q (.int (wordOf ns)) M) : z_word_of [.lst (ns.map D.int)] M Q E := by
  show zFn false zb_word_of _ _ _ _
  unfold zFn zb_word_of
  walk_at "z"
  refine l_look_bits_ok h ?_
  walk_at "z"
  refine zLoop_ind (fun l r M' => M' = M ∧ ∃ (a : Int) (x : Option D) (ms : List Int), l = ms.map D.int ∧ r = [some (.lst (ns.map D.int)), some (.int a), x] ∧ ms.foldl (fun a b => 2 * a + b) a = wordOf ns) ?_ ?_ ⟨rfl, 0, none, ns, rfl, rfl, rfl⟩
  · rintro r M' ⟨rfl, a, x, ms, e, rfl, e2⟩
    have : ms = [] := by simpa using e.symm
    subst this
    walk_at "z"
    rw [show a = wordOf ns from e2]; exact q
  · rintro d l r M' k ⟨rfl, a, x, ms, e, rfl, e2⟩ hk
    cases ms with
    | nil => cases e
    | cons m ms =>
      injection e with e1 e3
      subst e1
      walk_at "z"
      exact hk _ _ ⟨rfl, _, _, ms, e3, rfl, e2⟩
theorem l_word_of_bad {d : D} {M : Mh} {Q : QZ} {E : ZX} (h : badBits M d) (q : E "BadBits" [] M) : z_word_of [d] M Q E := by
  show zFn _ zb_word_of _ _ _ _
  unfold zFn zb_word_of
  walk_at "z"
  refine l_look_bits_bad h ?_
  walk_at "z"
  exact q
theorem l_word_of_len {ns : List Int} {M : Mh} {Q : QZ} {E : ZX} (h : bitL ns) (hl : ns.length ≠ 10) (q : E "BadBits" [] M) : z_word_of [.lst (ns.map D.int)] M Q E := by
  show zFn _ zb_word_of _ _ _ _
  unfold zFn zb_word_of
  walk_at "z"
  refine l_look_bits_ok h ?_
  walk_at "z"
  exact q
theorem l_word_ofR {p : Addr} {ns : List Int} {M : Mh} {Q : QZ} {E : ZX} (e : M p = some (.lst (ns.map D.int))) (h : bitL ns) (hl : ns.length = 10) (q : Q (.int (wordOf ns)) M) : z_word_of [.ref p] M Q E := by
  show zFn false zb_word_of _ _ _ _
  unfold zFn zb_word_of
  walk_at "y"
  refine l_look_bitsR e h ?_
  walk_at "y"
  refine zLoop_ind (fun l r M' => M' = M ∧ ∃ (a : Int) (x : Option D) (ms : List Int), l = ms.map D.int ∧ r = [some (.ref p), some (.int a), x] ∧ ms.foldl (fun a b => 2 * a + b) a = wordOf ns) ?_ ?_ ⟨rfl, 0, none, ns, rfl, rfl, rfl⟩
  · rintro r M' ⟨rfl, a, x, ms, e1, rfl, e2⟩
    have : ms = [] := by simpa using e1.symm
    subst this
    refine zck_at e _ ?_
    walk_at "y"
    rw [show a = wordOf ns from e2]; exact q
  · rintro d l r M' k ⟨rfl, a, x, ms, e1, rfl, e2⟩ hk
    cases ms with
    | nil => cases e1
    | cons m ms =>
      injection e1 with e1 e3
      subst e1
      refine zck_at e _ ?_
      walk_at "y"
      exact hk _ _ ⟨rfl, _, _, ms, e3, rfl, e2⟩

/-! the 260 items by number: 0 to 255 bytes, then begin, end, rest, skip -/
def itD (n : Nat) : D := if n < 256 then .int n else if n = 256 then .str "begin" else if n = 257 then .str "end" else if n = 258 then .str "rest" else .str "skip"
theorem itD_int {n : Nat} (h : n < 256) : itD n = .int n := if_pos h
theorem it_cases {n : Nat} (h : n < 260) : n < 180 ∨ (180 ≤ n ∧ n < 256) ∨ n = 256 ∨ n = 257 ∨ n = 258 ∨ n = 259 := by omega
def evW (n : Nat) : Int := tE.getD n 0
def hvW (n : Nat) : Int := if n = 256 then 250 else if n < 256 then tH.getD (n - 180) 0 else tH.getD (n - 181) 0
def putW (n : Nat) (p : Int) : Int := if n < 180 then evW n else if p < 0 then hvW n else 1023 - hvW n
theorem putW_e {n : Nat} {p : Int} (h : n < 180) : putW n p = evW n := if_pos h
theorem putW_h {n : Nat} {p : Int} (h : ¬ n < 180) (hp : p < 0) : putW n p = hvW n := by unfold putW; rw [if_neg h, if_pos hp]
theorem putW_l {n : Nat} {p : Int} (h : ¬ n < 180) (hp : ¬ p < 0) : putW n p = 1023 - hvW n := by unfold putW; rw [if_neg h, if_neg hp]
theorem hvW_b {n : Nat} (h : n < 256) : hvW n = tH.getD (n - 180) 0 := by unfold hvW; rw [if_neg (by omega), if_pos h]
def putP (n : Nat) (p : Int) : Int := if n < 180 then p else 0 - p
theorem tE_at : ∀ n : Nat, n < 180 → (tE.map D.int)[n]? = some (.int (evW n)) := fun n h => by
  have h' : n < tE.length := h
  rw [List.getElem?_map, List.getElem?_eq_getElem h']
  unfold evW
  rw [List.getD_eq_getElem?_getD, List.getElem?_eq_getElem h']; rfl
theorem tH_at : ∀ n : Nat, n < 124 → (tH.map D.int)[n]? = some (.int (tH.getD n 0)) := fun n h => by
  have h' : n < tH.length := h
  rw [List.getElem?_map, List.getElem?_eq_getElem h', List.getD_eq_getElem?_getD, List.getElem?_eq_getElem h']; rfl
theorem itD_flat (n : Nat) : flatD (itD n) = true := by
  unfold itD; repeat' split
  all_goals rfl
theorem itD_known {M : Mh} (n : Nat) : known M (itD n) := by
  unfold itD; repeat' split
  all_goals exact ⟨_, rfl⟩
theorem itD_Pl (n k : Nat) : Pl k (itD n) := .flat (itD_flat n)
theorem putP_e {n : Nat} {p : Int} (h : n < 180) : putP n p = p := if_pos h
theorem putP_h {n : Nat} {p : Int} (h : ¬ n < 180) : putP n p = 0 - p := if_neg h
def pm (p : Int) : Prop := p = 1 ∨ p = -1
theorem putP_pm {n : Nat} {p : Int} (h : pm p) : pm (putP n p) := by
  unfold putP pm at *; split <;> omega
theorem putW_rng {n : Nat} {p : Int} (h : n < 260) : 0 ≤ putW n p ∧ putW n p < 1024 := by
  have a : ∀ n : Nat, n < 260 → 0 ≤ hvW n ∧ hvW n < 1024 := by decide +kernel
  have b : ∀ n : Nat, n < 180 → 0 ≤ evW n ∧ evW n < 1024 := by decide +kernel
  have a' := a n h
  unfold putW
  split
  · exact b n (by assumption)
  · split <;> omega
theorem it256 : itD 256 = .str "begin" := rfl
theorem it257 : itD 257 = .str "end" := rfl
theorem it258 : itD 258 = .str "rest" := rfl
theorem it259 : itD 259 = .str "skip" := rfl
theorem itD_str {n : Nat} (h : ¬ n < 256) : ∃ s, itD n = .str s := by
  unfold itD; rw [if_neg h]; repeat' split
  all_goals exact ⟨_, rfl⟩
theorem itD_inj {n m : Nat} (hn : n < 260) (hm : m < 260) : eqD (itD n) (itD m) = decide (n = m) := by
  by_cases hn' : n < 256 <;> by_cases hm' : m < 256
  · rw [itD_int hn', itD_int hm']
    show decide ((n : Int) = m) = _
    by_cases e : n = m
    · rw [decide_eq_true e, decide_eq_true (by omega)]
    · rw [decide_eq_false e, decide_eq_false (by omega)]
  · obtain ⟨s, e⟩ := itD_str hm'
    rw [itD_int hn', e, decide_eq_false (by omega)]; rfl
  · obtain ⟨s, e⟩ := itD_str hn'
    rw [itD_int hm', e, decide_eq_false (by omega)]; rfl
  · have a : ∀ i : Nat, i < 4 → ∀ j : Nat, j < 4 → eqD (itD (256 + i)) (itD (256 + j)) = decide (256 + i = 256 + j) := by decide +kernel
    have := a (n - 256) (by omega) (m - 256) (by omega)
    rw [show 256 + (n - 256) = n by omega, show 256 + (m - 256) = m by omega] at this
    exact this
theorem itD_begin {n : Nat} (hn : n < 260) : eqD (itD n) (.str "begin") = decide (n = 256) := itD_inj (m := 256) hn (by decide)
theorem eqDs_refl : ∀ {ds : List D}, (∀ d ∈ ds, eqD d d = true) → eqDs ds ds = true
  | [], _ => rfl
  | d :: r, h => by rw [eqDs_cons, h d List.mem_cons_self, eqDs_refl fun x hx => h x (List.mem_cons_of_mem _ hx)]; rfl
theorem eqD_itD {n : Nat} (h : n < 260) : eqD (itD n) (itD n) = true := by rw [itD_inj h h, decide_eq_true rfl]
theorem eqD_items {is : List Nat} (h : ∀ n ∈ is, n < 260) : eqD (.lst (is.map itD)) (.lst (is.map itD)) = true := eqDs_refl fun d hd => by
  obtain ⟨n, hn, rfl⟩ := List.mem_map.mp hd
  exact eqD_itD (h n hn)
theorem Pl_items {k : Nat} (is : List Nat) : Pl (k + 1) (.lst (is.map itD)) := .lst fun x hx => by
  obtain ⟨n, hn, rfl⟩ := List.mem_map.mp hx
  exact itD_Pl n k

-- needs: items
def isIt (d : D) : Bool := match d with
  | .str s => (eqD (.str s) (.str "begin")) || inD (.str s) [.str "end", .str "rest", .str "skip"]
  | d => iw d 0 255
theorem l_is_item {d : D} {M : Mh} {Q : QZ} {E : ZX} (h : known M d) (q : Q (.bl (isIt d)) M) : z_is_item [d] M Q E := by
  show zFn false zb_is_item _ _ _ _
  unfold zFn zb_is_item
  obtain ⟨t, ht⟩ := h
  cases d with
  | str s =>
    walk_at "z"
    refine i_b (fun e => ?_) (fun e => ?_)
    · walk_at "z"
      rw [show isIt (.str s) = true by show (eqD (.str s) (.str "begin") || _) = true; rw [show eqD (.str s) (.str "begin") = true from e]; rfl] at q; exact q
    · walk_at "z"
      rw [show isIt (.str s) = inD (.str s) c_CONTROLS by show (eqD (.str s) (.str "begin") || _) = _; rw [show eqD (.str s) (.str "begin") = false from e]; rfl] at q; exact q
  | exc c => cases ht
  | scr c => cases ht
  | ref p =>
    have ht' : tyD M (.ref p) = some "list" := by
      have z : (match M p with | some (.lst _) => some "list" | _ => none) = some t := ht
      split at z
      · cases z; exact ht
      · cases z
    walk_at "z"
    refine i_isi ht' ?_
    walk_at "z"
    exact l_is_whole ⟨_, ht'⟩ q
  | _ => walk_at "z"; exact l_is_whole ⟨_, rfl⟩ q
theorem isIt_itD : ∀ n : Nat, n < 260 → isIt (itD n) = true := by decide +kernel

theorem l_look_item {d : D} {M : Mh} {Q : QZ} {E : ZX} (h : known M d) (q1 : isIt d = true → Q .non M) (q2 : isIt d = false → E "BadItem" [] M) : z_look_item [d] M Q E := by
  show zFn false zb_look_item _ _ _ _
  unfold zFn zb_look_item
  walk_at "z"
  refine l_is_item h ?_
  walk_at "z"
  cases e : isIt d with
  | true => walk_at "z"; exact q1 e
  | false => walk_at "z"; exact q2 e

-- needs: items
def isPo (d : D) : Bool := iw d (-1) 1 && !(eqD d (.int 0))
theorem l_look_poise {d : D} {M : Mh} {Q : QZ} {E : ZX} (h : known M d) (q1 : isPo d = true → Q .non M) (q2 : isPo d = false → E "BadPoise" [] M) : z_look_poise [d] M Q E := by
  show zFn false zb_look_poise _ _ _ _
  unfold zFn zb_look_poise
  walk_at "z"
  refine l_is_whole h ?_
  walk_at "z"
  cases e : iw d (0 - 1) 1 with
  | false => walk_at "z"; exact q2 (by unfold isPo; rw [show (-1 : Int) = 0 - 1 from rfl, e]; rfl)
  | true =>
    walk_at "z"
    cases d with
    | int i =>
      refine i_eq (.int _ _) (.int _ _) ?_
      walk_at "z"
      cases e2 : eqD (.int i) (.int 0) with
      | true => walk_at "z"; exact q2 (by unfold isPo; rw [e2, Bool.not_true, Bool.and_false])
      | false => walk_at "z"; exact q1 (by unfold isPo; rw [show (-1 : Int) = 0 - 1 from rfl, e, e2]; rfl)
    | _ => cases e
theorem isPo_pm {p : Int} (h : pm p) : isPo (.int p) = true := by
  rcases h with e | e <;> subst e <;> rfl

-- needs: items
theorem l_heavy_word {n : Nat} {M : Mh} {Q : QZ} {E : ZX} (h0 : 180 ≤ n) (h1 : n < 260) (q : Q (.int (hvW n)) M) : z_heavy_word [itD n] M Q E := by
  show zFn false zb_heavy_word _ _ _ _
  unfold zFn zb_heavy_word
  have eH : c_HEAVY = tH.map D.int := rfl
  rcases it_cases h1 with h | h | h | h | h | h
  · omega
  · rw [itD_int h.2]
    walk_at "z"
    rw [eH, show ((n : Int) - ((c_EVEN.length : Nat) : Int)) = ((n - 180 : Nat) : Int) by show (n : Int) - ((180 : Nat) : Int) = _; omega]
    refine i_ixT (atI_nat (tH_at (n - 180) (by omega))) ?_
    walk_at "z"
    unfold hvW at q
    rw [if_neg (by omega), if_pos h.2] at q; exact q
  · subst h
    rw [it256]
    walk_at "z"
    exact q
  all_goals
    subst h
    first | rw [it257] | rw [it258] | rw [it259]
    walk_at "z"
    refine i_tixV  rfl rfl rfl ?_
    walk_at "z"
    exact q

theorem l_put_item {n : Nat} {p : Int} {M : Mh} {Q : QZ} {E : ZX} (hn : n < 260) (hp : pm p) (q : Q (.tup [.int (putW n p), .int (putP n p)]) M) : z_put_item [itD n, .int p] M Q E := by
  show zFn false zb_put_item _ _ _ _
  unfold zFn zb_put_item
  walk_at "z"
  refine l_look_item (itD_known n) (fun _ => ?_) (fun e => by rw [isIt_itD n hn] at e; cases e)
  walk_at "z"
  refine l_look_poise (known_int p) (fun _ => ?_) (fun e => by rw [isPo_pm hp] at e; cases e)
  walk_at "z"
  have eE : c_EVEN = tE.map D.int := rfl
  have rest : ∀ E' : ZEnds, 180 ≤ n → E'.rt (.tup [.int (putW n p), .int (putP n p)]) M → zSeq (zAsg (zCall z_heavy_word (exB false E) (zCons (zVar 0) zNil)) (zgName 2)) (zRet (zTup (zCons (zIfE (zB (z2 (dCmp pLt) (zVar 1) (zC (.int 0)))) (zVar 2) (z2 dSub (zC (.int 1023)) (zVar 2))) (zCons (z2 dSub (zC (.int 0)) (zVar 1)) zNil)))) E' [some (itD n), some (.int p), none] M := by
    intro E' h q
    walk_at "z"
    refine l_heavy_word h hn ?_
    walk_at "z"
    have hn' : ¬ n < 180 := by omega
    rw [putP_h hn'] at q
    refine i_bd (fun h => ?_) (fun h => ?_)
    · rw [putW_h hn' h] at q
      walk_at "z"
      exact q
    · rw [putW_l hn' h] at q
      walk_at "z"
      exact q
  by_cases hs : n < 256
  · have e : itD n = .int n := itD_int hs
    rw [e] at rest ⊢
    walk_at "z"
    refine i_bd (fun h => ?_) (fun h => ?_)
    · have h' : n < 180 := by
        have : (n : Int) < ((180 : Nat) : Int) := h
        omega
      walk_at "z"
      rw [eE]
      refine i_ixT (atI_nat (tE_at n h')) ?_
      walk_at "z"
      rw [putW_e h', putP_e h'] at q
      exact q
    · have h' : ¬ n < 180 := by
        intro z
        apply h
        show (n : Int) < ((180 : Nat) : Int)
        omega
      walk_at "z"
      exact rest _ (by omega) q
  · have e : ∃ s, itD n = .str s := by
      unfold itD; rw [if_neg hs]; repeat' split
      all_goals exact ⟨_, rfl⟩
    obtain ⟨s, e⟩ := e
    rw [e] at rest ⊢
    walk_at "z"
    exact rest _ (by omega) q

-- needs: items
theorem inD_ints (w : Int) : ∀ t : List Int, inD (.int w) (t.map D.int) = decide (w ∈ t)
  | [] => rfl
  | x :: r => by
    show (eqD (.int x) (.int w) || inD (.int w) (r.map D.int)) = _
    rw [inD_ints w r, eqD_int]
    by_cases h : x = w
    · subst h; simp
    · have h' : ¬ w = x := fun z => h z.symm
      simp [h, h']
theorem idxD_ints (w : Int) : ∀ t : List Int, idxD (.int w) (t.map D.int) = t.idxOf? w
  | [] => rfl
  | x :: r => by
    show (if eqD (.int x) (.int w) = true then some 0 else (idxD (.int w) (r.map D.int)).map (· + 1)) = _
    rw [idxD_ints w r, List.idxOf?_cons, eqD_int]
theorem idxOf?_none {w : Int} {t : List Int} (h : ¬ w ∈ t) : t.idxOf? w = none := List.idxOf?_eq_none_iff.mpr h
theorem idxOf?_some {w : Int} : ∀ {t : List Int}, w ∈ t → ∃ k, t.idxOf? w = some k ∧ k < t.length
  | x :: r, h => by
    rw [List.idxOf?_cons]
    by_cases e : x = w
    · rw [if_pos (by simpa using e)]; exact ⟨0, rfl, by simp⟩
    · rw [if_neg (by simpa using e)]
      obtain ⟨k, h1, h2⟩ := idxOf?_some (t := r) ((List.mem_cons.mp h).resolve_left (fun z => e z.symm))
      exact ⟨k + 1, by rw [h1]; rfl, by simpa using h2⟩
def itO : Option Nat → D
  | none => .non
  | some n => itD n

-- needs: items
/-! what a word stands for -/
def pairI (h : Int) : Option Nat := if h = 250 then some 256 else match tH.idxOf? h with
  | none => none
  | some k => if k < 76 then some (180 + k) else if k < 79 then some (181 + k) else none
def itemAt (w : Int) : Option (Nat × Int) := match tE.idxOf? w with
  | some k => some (k, 0)
  | none => match pairI w with
    | some n => some (n, 2)
    | none => match pairI (1023 - w) with
      | some n => some (n, -2)
      | none => none
theorem itemAt_put : ∀ n : Nat, n < 260 → itemAt (putW n 1) = some (n, putP n 1 - 1) ∧ itemAt (putW n (-1)) = some (n, putP n (-1) + 1) := by decide +kernel
theorem itemAt_putP {n : Nat} {p : Int} (h : n < 260) (hp : pm p) : itemAt (putW n p) = some (n, putP n p - p) := by
  have := itemAt_put n h
  rcases hp with e | e <;> subst e
  · exact this.1
  · exact this.2
theorem putW_inj {n m : Nat} {p s : Int} (hn : n < 260) (hm : m < 260) (hp : pm p) (hs : pm s) (e : putW m s = putW n p) : m = n ∧ (180 ≤ n → s = p) := by
  have h1 := itemAt_putP hn hp
  have h2 := itemAt_putP hm hs
  rw [e, h1] at h2
  injection h2 with h3
  injection h3 with h4 h5
  subst h4
  refine ⟨rfl, fun h => ?_⟩
  rw [putP_h (by omega), putP_h (by omega)] at h5
  omega

-- needs: tabs codes
theorem pairI_lt {h : Int} {n : Nat} (e : pairI h = some n) : n < 260 := by
  unfold pairI at e
  split at e
  · cases e; decide
  · split at e
    · cases e
    · split at e
      · cases e; omega
      · split at e
        · cases e; omega
        · cases e
theorem l_pair_item {h : Int} {M : Mh} {Q : QZ} {E : ZX} (q : Q (itO (pairI h)) M) : z_pair_item [.int h] M Q E := by
  have eH : c_HEAVY = tH.map D.int := rfl
  show zFn _ zb_pair_item _ _ _ _
  unfold zFn zb_pair_item
  unfold pairI at q
  walk_at "z"
  refine i_bd (fun e => ?_) fun e => ?_
  · rw [if_pos e] at q
    walk_at "z"
    exact q
  · rw [if_neg e] at q
    walk_at "z"
    rw [if_pos rfl, eH, inD_ints]
    walk_at "z"
    refine i_bd (fun hm => ?_) fun hm => ?_
    · obtain ⟨k, hk, hkl⟩ := idxOf?_some hm
      have hkl : k < 124 := hkl
      rw [hk] at q
      walk_at "z"
      refine i_tixV rfl rfl (by rw [idxD_ints]; exact hk) ?_
      walk_at "z"
      dsimp only at q
      refine i_bd (fun e2 => ?_) fun e2 => ?_
      · rw [if_pos (by omega)] at q
        walk_at "z"
        have e3 : itO (some (180 + k)) = .int (((180 : Nat) : Int) + (k : Nat)) := by
          show itD (180 + k) = _
          rw [itD_int (by omega)]; congr 1
        rw [e3] at q
        exact q
      · rw [if_neg (by omega)] at q
        walk_at "z"
        refine i_bd (fun e3 => ?_) fun e3 => ?_
        · rw [if_pos (by have : (k : Int) < 76 + ((3 : Nat) : Int) := e3; omega)] at q
          have e3 : (k : Int) < 79 := e3
          obtain e4 | e4 | e4 : k = 76 ∨ k = 77 ∨ k = 78 := by omega
          all_goals
            subst e4
            walk_at "z"
            exact q
        · rw [if_neg (by have : ¬ (k : Int) < 76 + ((3 : Nat) : Int) := e3; omega)] at q
          walk_at "z"
          exact q
    · rw [idxOf?_none hm] at q
      walk_at "z"
      exact q

-- needs: tabs codes
def itA : Option (Nat × Int) → D
  | none => .non
  | some x => .tup [itD x.1, .int x.2]
theorem isN_itO (o : Option Nat) : isN (itO o) = decide (o = none) := by
  cases o with
  | none => rfl
  | some n =>
    show isN (itD n) = _
    unfold itD
    split
    · rfl
    · split
      · rfl
      · split
        · rfl
        · split <;> rfl
theorem l_item_at {w : Int} {M : Mh} {Q : QZ} {E : ZX} (q : Q (itA (itemAt w)) M) : z_item_at [.int w] M Q E := by
  have eE : c_EVEN = tE.map D.int := rfl
  show zFn _ zb_item_at _ _ _ _
  unfold zFn zb_item_at
  unfold itemAt at q
  walk_at "z"
  rw [if_neg (by decide), eE, inD_ints]
  refine i_bd (fun hm => ?_) fun hm => ?_
  · obtain ⟨k, hk, hkl⟩ := idxOf?_some hm
    have hkl : k < 180 := hkl
    rw [hk] at q
    walk_at "z"
    refine i_tixV rfl rfl (by rw [idxD_ints]; exact hk) ?_
    walk_at "z"
    have e3 : itA (some (k, 0)) = .tup [.int (k : Nat), .int 0] := by
      show D.tup [itD k, .int 0] = _
      rw [itD_int (by omega)]
    dsimp only at q
    rw [e3] at q
    exact q
  · rw [idxOf?_none hm] at q
    dsimp only at q
    walk_at "z"
    refine l_pair_item ?_
    walk_at "z"
    rw [isN_itO]
    cases e1 : pairI w with
    | some n =>
      rw [e1] at q
      walk_at "z"
      refine l_pair_item ?_
      rw [e1]
      walk_at "z"
      exact q
    | none =>
      rw [e1] at q
      dsimp only at q
      walk_at "z"
      refine l_pair_item ?_
      walk_at "z"
      rw [isN_itO]
      cases e2 : pairI (1023 - w) with
      | some n =>
        rw [e2] at q
        walk_at "z"
        refine l_pair_item ?_
        rw [e2]
        walk_at "z"
        exact q
      | none =>
        rw [e2] at q
        walk_at "z"
        exact q

-- needs: items
theorem l_look_items_ok {is : List Nat} {M : Mh} {Q : QZ} {E : ZX} (h : ∀ n ∈ is, n < 260) (q : Q .non M) : z_look_items [.lst (is.map itD)] M Q E := by
  show zFn false zb_look_items _ _ _ _
  unfold zFn zb_look_items
  walk_at "z"
  refine zLcL_mapm (g := fun _ => .bl true) (fun n hn Q hq => ?_) ?_
  · walk_at "z"
    refine l_is_item (itD_known n) ?_
    walk_at "z"
    rw [isIt_itD n (h n hn)]; exact hq
  · walk_at "z"
    refine i_allE (bs := is.map fun _ => true) (by simp [Function.comp_def]) ?_
    walk_at "z"
    rw [show (is.map fun _ => true).all id = true by simp]
    walk_at "z"
    exact q
def badItems (M : Mh) (d : D) : Prop := known M d ∧ (∀ ds, d = .lst ds → knowns M ds) ∧ (∀ p, d ≠ .ref p) ∧ (∀ ds, d = .lst ds → ds.all isIt = false)
theorem badItems_of {M : Mh} {d : D} {t : String} (h1 : tyD M d = some t) (h2 : ∀ ds, d ≠ .lst ds) (h3 : ∀ p, d ≠ .ref p) : badItems M d := ⟨⟨_, h1⟩, (fun ds e => absurd e (h2 ds)), h3, (fun ds e => absurd e (h2 ds))⟩
/-- items with one odd thing put in -/
theorem badItems_odd {M : Mh} {is : List Nat} {b : D} {i j : Nat} (h1 : known M b) (h2 : isIt b = false) : badItems M (.lst ((is.map itD).take i ++ [b] ++ (is.map itD).drop j)) := by
  have hi : ∀ x ∈ is.map itD, known M x := fun x hx => by
    obtain ⟨n, _, rfl⟩ := List.mem_map.mp hx
    exact itD_known n
  refine ⟨known_lst _, (fun ds e => by
    cases e
    intro x hx
    rcases List.mem_append.mp hx with hx | hx
    · rcases List.mem_append.mp hx with hx | hx
      · exact hi x (List.mem_of_mem_take hx)
      · rw [List.mem_singleton.mp hx]; exact h1
    · exact hi x (List.mem_of_mem_drop hx)), (fun p e => by cases e), fun ds e => ?_⟩
  cases e
  rw [List.all_append, List.all_append, show List.all [b] isIt = false by simp [h2]]
  simp
theorem l_look_items_bad {d : D} {M : Mh} {Q : QZ} {E : ZX} (h : badItems M d) (q : E "BadItem" [] M) : z_look_items [d] M Q E := by
  obtain ⟨⟨t, ht⟩, hk, hr, hb⟩ := h
  show zFn _ zb_look_items _ _ _ _
  unfold zFn zb_look_items
  cases d with
  | lst ds =>
    walk_at "z"
    refine zLcL_map (fun x => .bl (isIt x)) (fun x hx Q hq => ?_) ?_
    · walk_at "z"
      refine l_is_item (hk ds rfl x hx) ?_
      exact hq
    · walk_at "z"
      refine i_allE (bs := ds.map isIt) (by simp [Function.comp_def]) ?_
      walk_at "z"
      rw [show (ds.map isIt).all id = false by rw [List.all_map]; exact hb ds rfl]
      walk_at "z"
      exact q
  | exc c => cases ht
  | scr c => cases ht
  | ref p => exact absurd rfl (hr p)
  | _ => walk_at "z"; exact q

-- needs: items
/-! items sent from a poise -/
def sentB : List Nat → Int → List Int
  | [], _ => []
  | n :: r, p => ten (putW n p) ++ sentB r (putP n p)
def sentP : List Nat → Int → Int
  | [], p => p
  | n :: r, p => sentP r (putP n p)
theorem sentB_len : ∀ (is : List Nat) (p : Int), (sentB is p).length = 10 * is.length
  | [], _ => rfl
  | n :: r, p => by
    show (ten _ ++ sentB r _).length = _
    rw [List.length_append, ten_len, sentB_len r, List.length_cons]; omega
theorem sentB_bits : ∀ (is : List Nat) (p : Int), bitL (sentB is p)
  | [], _ => fun _ h => nomatch h
  | n :: r, p => bitL_app (ten_bits _) (sentB_bits r _)
theorem sentP_pm : ∀ (is : List Nat) {p : Int}, pm p → pm (sentP is p)
  | [], _, h => h
  | n :: r, _, h => sentP_pm r (putP_pm h)
theorem sentB_app : ∀ (a b : List Nat) (p : Int), sentB (a ++ b) p = sentB a p ++ sentB b (sentP a p)
  | [], _, _ => rfl
  | n :: r, b, p => by
    show ten _ ++ sentB (r ++ b) _ = ten _ ++ sentB r _ ++ _
    rw [sentB_app r b, List.append_assoc]; rfl
theorem sentP_app : ∀ (a b : List Nat) (p : Int), sentP (a ++ b) p = sentP b (sentP a p)
  | [], _, _ => rfl
  | n :: r, b, p => sentP_app r b (putP n p)

-- needs: sent
theorem l_sent_fromM {is : List Nat} {p : Int} {M : Mh} {Q : QZ} {E : ZX} (h : ∀ n ∈ is, n < 260) (hp : pm p) (hl : is.length ≤ 1000000) (q : ∀ a, M a = none → (enB true Q).rt (.tup [.ref a, .int (sentP is p)]) (mup M a (.lst ((sentB is p).map D.int)))) : z_sent_from [.lst (is.map itD), .int p] M Q E := by
  show zFn true zb_sent_from _ _ _ _
  unfold zFn zb_sent_from
  walk_at "z"
  refine l_look_items_ok h ?_
  walk_at "z"
  refine l_look_poise (known_int p) (fun _ => ?_) (fun e => by rw [isPo_pm hp] at e; cases e)
  walk_at "z"
  refine fun a ha => ?_
  walk_at "z"
  refine zLoop_map (fun l r M' => ∃ (acc : List Int) (u : Int) (x y : Option D), M' = mup M a (.lst (acc.map D.int)) ∧ r = [some (.lst (is.map itD)), some (.int u), some (.ref a), x, y] ∧ pm u ∧ (∀ n ∈ l, n < 260) ∧ acc ++ sentB l u = sentB is p ∧ sentP l u = sentP is p) ?_ ?_ ⟨[], p, _, _, rfl, rfl, hp, h, rfl, rfl⟩
  · rintro r M' ⟨acc, u, x, y, rfl, rfl, hu, _, e1, e2⟩
    walk_at "z"
    rw [← e1, ← e2] at q
    rw [show sentB [] u = [] from rfl, List.append_nil] at q
    exact q a ha
  · rintro n l r M' k ⟨acc, u, x, y, rfl, rfl, hu, hb, e1, e2⟩ hk
    have hn := hb n List.mem_cons_self
    have hr := putW_rng (p := u) hn
    walk_at "z"
    refine l_put_item hn hu ?_
    walk_at "z"
    refine l_bits_of hr.1 hr.2 ?_
    walk_at "z"
    have hlen : acc.length + 10 ≤ 10000000 := by
      have := congrArg List.length e1
      rw [List.length_append, sentB_len, sentB_len, List.length_cons] at this
      omega
    refine i_ext mup_same (by rw [List.length_map, List.length_map, ten_len]; show _ ≤ 2 ^ 24; omega) ?_
    rw [mup_mup, ← List.map_append]
    exact hk _ _ ⟨acc ++ ten (putW n u), putP n u, _, _, rfl, rfl, putP_pm hu, fun m hm => hb m (List.mem_cons_of_mem _ hm), by rw [List.append_assoc]; exact e1, e2⟩
theorem l_sent_from {is : List Nat} {p : Int} {M : Mh} {Q : QZ} {E : ZX} (h : ∀ n ∈ is, n < 260) (hp : pm p) (hl : is.length ≤ 1000000) (q : Q (.tup [.lst ((sentB is p).map D.int), .int (sentP is p)]) M) : z_sent_from [.lst (is.map itD), .int p] M Q E :=
  l_sent_fromM h hp hl fun a ha => i_rtN2 ha q

/-! rows of bytes -/
def byteL (ns : List Int) : Prop := ∀ n ∈ ns, 0 ≤ n ∧ n ≤ 255
/-- the sum that a check tells -/
def wsum : Nat → List Int → Int
  | _, [] => 0
  | k, b :: r => ((k : Int) + 1) * (b + 1) + wsum (k + 1) r
def sumOf (ns : List Int) : Int := wsum 0 ns % 65521
def checkL (ns : List Int) : List Int := [sumOf ns / 256, sumOf ns % 256]
theorem byteL_app {a b : List Int} (h : byteL a) (h' : byteL b) : byteL (a ++ b) := fun n hn => (List.mem_append.mp hn).elim (h n) (h' n)
theorem byteL_take {a : List Int} (h : byteL a) (k : Nat) : byteL (a.take k) := fun n hn => h n (List.mem_of_mem_take hn)
theorem byteL_drop {a : List Int} (h : byteL a) (k : Nat) : byteL (a.drop k) := fun n hn => h n (List.mem_of_mem_drop hn)
theorem wsum_idx : ∀ (ns : List Int) (k : Nat), ((ns.zipIdx k).map fun x => ((x.2 : Int) + 1) * (x.1 + 1)).sum = wsum k ns
  | [], _ => rfl
  | b :: r, k => by
    rw [List.zipIdx_cons, List.map_cons, List.sum_cons, wsum_idx r (k + 1)]; rfl
theorem wsum_app : ∀ (a b : List Int) (k : Nat), wsum k (a ++ b) = wsum k a + wsum (k + a.length) b
  | [], b, k => by show wsum k b = 0 + wsum (k + 0) b; rw [Int.zero_add]; rfl
  | x :: r, b, k => by
    show _ + wsum (k + 1) (r ++ b) = _ + wsum (k + 1) r + wsum (k + (r.length + 1)) b
    rw [wsum_app r b (k + 1), show k + 1 + r.length = k + (r.length + 1) by omega, Int.add_assoc]
theorem sumOf_rng (ns : List Int) : 0 ≤ sumOf ns ∧ sumOf ns < 65521 := ⟨Int.emod_nonneg _ (by decide), Int.emod_lt_of_pos _ (by decide)⟩
theorem checkL_eq {a b : List Int} : checkL a = checkL b ↔ sumOf a = sumOf b := by
  constructor
  · intro h
    injection h with h1 h2
    injection h2 with h2
    have e1 := Int.mul_ediv_add_emod (sumOf a) 256
    have e2 := Int.mul_ediv_add_emod (sumOf b) 256
    rw [h1, h2] at e1
    omega
  · intro h; unfold checkL; rw [h]
theorem sumOf_ne {a b : List Int} (h : ¬ (wsum 0 a - wsum 0 b) % 65521 = 0) : sumOf a ≠ sumOf b := by
  unfold sumOf; omega
theorem checkL_ne {a b : List Int} (h : ¬ (wsum 0 a - wsum 0 b) % 65521 = 0) : eqD (.lst ((checkL a).map D.int)) (.lst ((checkL b).map D.int)) = false := by
  have hs : sumOf a ≠ sumOf b := sumOf_ne h
  cases e : eqD (.lst ((checkL a).map D.int)) (.lst ((checkL b).map D.int)) with
  | false => rfl
  | true =>
    exfalso
    apply hs
    apply checkL_eq.mp
    simp [checkL] at e ⊢
    exact e
theorem wsum_set : ∀ (ns : List Int) (k j : Nat) (x : Int) (h : j < ns.length), wsum k (ns.set j x) = wsum k ns + ((k + j : Nat) + 1) * (x - ns[j])
  | b :: r, k, 0, x, _ => by
    show ((k : Int) + 1) * (x + 1) + wsum (k + 1) r = ((k : Int) + 1) * (b + 1) + wsum (k + 1) r + ((k + 0 : Nat) + 1) * (x - b)
    have e : ((k + 0 : Nat) : Int) = k := by omega
    rw [e, Int.mul_add, Int.mul_add, Int.mul_sub]; omega
  | b :: r, k, j + 1, x, h => by
    show ((k : Int) + 1) * (b + 1) + wsum (k + 1) (r.set j x) = ((k : Int) + 1) * (b + 1) + wsum (k + 1) r + ((k + (j + 1) : Nat) + 1) * (x - r[j]'(by simpa using h))
    rw [wsum_set r (k + 1) j x (by simpa using h), show k + 1 + j = k + (j + 1) by omega]; omega

-- needs: rows
/-- whether a thing is a row -/
def isRow (M : Mh) (d : D) (most : Int) : Bool := match d with
  | .lst ds => decide ((ds.length : Int) ≤ most) && ds.all fun x => iw x 0 255
  | _ => false
theorem isRow_ok {M : Mh} {ns : List Int} {most : Int} (h : byteL ns) (hl : (ns.length : Int) ≤ most) : isRow M (.lst (ns.map D.int)) most = true := by
  show (decide (((ns.map D.int).length : Int) ≤ most) && (ns.map D.int).all fun x => iw x 0 255) = true
  rw [List.length_map, decide_eq_true hl, List.all_map, Bool.true_and, List.all_eq_true]
  intro n hn
  exact iw_true (h n hn).1 (h n hn).2
theorem l_is_row {d : D} {most : Int} {M : Mh} {Q : QZ} {E : ZX} (h : known M d) (hk : ∀ ds, d = .lst ds → knowns M ds) (hr : ∀ p, d ≠ .ref p) (q : Q (.bl (isRow M d most)) M) : z_is_row [d, .int most] M Q E := by
  show zFn _ zb_is_row _ _ _ _
  unfold zFn zb_is_row
  obtain ⟨t, ht⟩ := h
  cases d with
  | lst ds =>
    walk_at "z"
    refine i_bd (fun h => ?_) (fun h => ?_)
    · walk_at "z"
      rw [show isRow M (.lst ds) most = false by show (decide _ && _) = false; rw [decide_eq_false (by omega)]; rfl] at q
      exact q
    · walk_at "z"
      refine zLcL_map (fun x => .bl (iw x 0 255)) (fun x hx Q hq => ?_) ?_
      · walk_at "z"
        refine l_is_whole (hk ds rfl x hx) ?_
        exact hq
      · walk_at "z"
        refine i_allE (bs := ds.map fun x => iw x 0 255) (by simp [Function.comp_def]) ?_
        walk_at "z"
        rw [show isRow M (.lst ds) most = (ds.map fun x => iw x 0 255).all id by show (decide _ && _) = _; rw [decide_eq_true (by omega), List.all_map]; rfl] at q
        exact q
  | exc c => cases ht
  | scr c => cases ht
  | ref p => exact absurd rfl (hr p)
  | _ => walk_at "z"; exact q
/-- .. of a list that may change -/
theorem l_is_rowR {p : Addr} {ns : List Int} {most : Int} {M : Mh} {Q : QZ} {E : ZX} (e : M p = some (.lst (ns.map D.int))) (h : byteL ns) (hl : (ns.length : Int) ≤ most) (q : Q (.bl true) M) : z_is_row [.ref p, .int most] M Q E := by
  show zFn _ zb_is_row _ _ _ _
  unfold zFn zb_is_row
  walk_at "y"
  refine zLcL_filterc (zck_at e) (fun _ => true) (fun x => .bl (iw x 0 255)) (fun d hd Q h1 _ => ?_) ?_
  · walk_at "y"
    obtain ⟨i, _, rfl⟩ := List.mem_map.mp hd
    exact l_is_whole (known_int i) (h1 rfl)
  · walk_at "y"
    refine i_allE (bs := ns.map fun x => iw (.int x) 0 255) (by rw [List.filter_eq_self.mpr (fun _ _ => rfl)]; simp [Function.comp_def]) ?_
    walk_at "y"
    rw [show (ns.map fun x => iw (.int x) 0 255).all id = true by
      rw [List.all_map, List.all_eq_true]
      intro n hn
      exact iw_true (h n hn).1 (h n hn).2]
    exact q

theorem l_look_row {d : D} {most : Int} {M : Mh} {Q : QZ} {E : ZX} (h : known M d) (hk : ∀ ds, d = .lst ds → knowns M ds) (hr : ∀ p, d ≠ .ref p) (q1 : isRow M d most = true → Q .non M) (q2 : isRow M d most = false → E "BadRow" [] M) : z_look_row [d, .int most] M Q E := by
  show zFn _ zb_look_row _ _ _ _
  unfold zFn zb_look_row
  walk_at "z"
  refine l_is_row h hk hr ?_
  walk_at "z"
  cases e : isRow M d most with
  | true => walk_at "z"; exact q1 e
  | false => walk_at "z"; exact q2 e
theorem l_look_row_ok {ns : List Int} {most : Int} {M : Mh} {Q : QZ} {E : ZX} (h : byteL ns) (hl : (ns.length : Int) ≤ most) (q : Q .non M) : z_look_row [.lst (ns.map D.int), .int most] M Q E :=
  l_look_row (known_lst _) (fun ds e => by cases e; exact knowns_ints ns) (fun p e => by cases e) (fun _ => q) fun e => by rw [isRow_ok h hl] at e; cases e
theorem l_look_rowR {p : Addr} {ns : List Int} {most : Int} {M : Mh} {Q : QZ} {E : ZX} (e : M p = some (.lst (ns.map D.int))) (h : byteL ns) (hl : (ns.length : Int) ≤ most) (q : Q .non M) : z_look_row [.ref p, .int most] M Q E := by
  show zFn _ zb_look_row _ _ _ _
  unfold zFn zb_look_row
  walk_at "z"
  refine l_is_rowR e h hl ?_
  walk_at "z"
  exact q

-- needs: rows
theorem l_sum_of {ns : List Int} {M : Mh} {Q : QZ} {E : ZX} (hl : ns.length ≤ 1000) (q : Q (.int (sumOf ns)) M) : z_sum_of [.lst (ns.map D.int)] M Q E := by
  show zFn _ zb_sum_of _ _ _ _
  unfold zFn zb_sum_of
  walk_at "z"
  rw [enumD_map]
  refine zLcL_mapm (g := fun x => .int (((x.2 : Int) + 1) * (x.1 + 1))) (fun x hx Q hq => ?_) ?_
  · obtain ⟨v, i⟩ := x
    have : i < ns.length := (List.mem_zipIdx' hx).1
    walk_at "z"
    exact hq
  · walk_at "z"
    refine i_sumE (ns := (ns.zipIdx.map fun x => ((x.2 : Int) + 1) * (x.1 + 1))) (by rw [List.map_map]; rfl) ?_
    rw [wsum_idx]
    walk_at "z"
    exact q

theorem l_check_ofM {ns : List Int} {M : Mh} {Q : QZ} {E : ZX} (h : byteL ns) (hl : ns.length ≤ 64) (q : ∀ p, M p = none → (enB true Q).rt (.ref p) (mup M p (.lst ((checkL ns).map D.int)))) : z_check_of [.lst (ns.map D.int)] M Q E := by
  show zFn _ zb_check_of _ _ _ _
  unfold zFn zb_check_of
  walk_at "z"
  refine l_look_row_ok h (by omega) ?_
  walk_at "z"
  refine l_sum_of (by omega) ?_
  walk_at "z"
  exact q
theorem l_check_of {ns : List Int} {M : Mh} {Q : QZ} {E : ZX} (h : byteL ns) (hl : ns.length ≤ 64) (q : Q (.lst ((checkL ns).map D.int)) M) : z_check_of [.lst (ns.map D.int)] M Q E :=
  l_check_ofM h hl fun p hp => i_rtN hp q
theorem l_check_of_bad {d : D} {M : Mh} {Q : QZ} {E : ZX} (h : known M d) (hk : ∀ ds, d = .lst ds → knowns M ds) (hr : ∀ p, d ≠ .ref p) (hb : isRow M d 64 = false) (q : E "BadRow" [] M) : z_check_of [d] M Q E := by
  show zFn _ zb_check_of _ _ _ _
  unfold zFn zb_check_of
  walk_at "z"
  refine l_look_row h hk hr (fun e => by rw [hb] at e; cases e) fun _ => ?_
  walk_at "z"
  exact q

-- needs: items rows
def frameD (ns : List Int) : List D := [.str "begin", .int ns.length] ++ ns.map D.int ++ (checkL ns).map D.int ++ [.str "end"]
theorem frameD_len (ns : List Int) : (frameD ns).length = ns.length + 5 := by
  unfold frameD; simp only [List.length_append, List.length_map, List.length_cons, List.length_nil, checkL]; omega

-- needs: items rows framedef
theorem l_framedM {ns : List Int} {M : Mh} {Q : QZ} {E : ZX} (h : byteL ns) (hl : ns.length ≤ 64) (q : ∀ p, M p = none → (enB true Q).rt (.ref p) (mup M p (.lst (frameD ns)))) : z_framed [.lst (ns.map D.int)] M Q E := by
  show zFn _ zb_framed _ _ _ _
  unfold zFn zb_framed
  walk_at "z"
  refine l_check_of h hl ?_
  walk_at "z"
  refine i_addL (by rw [List.length_map]; show 2 + _ ≤ 2 ^ 24; omega) ?_
  walk_at "z"
  refine i_addL (by rw [List.length_append, List.length_map, List.length_map]; show 2 + _ + 2 ≤ 2 ^ 24; omega) ?_
  walk_at "z"
  refine i_addL (by rw [List.length_append, List.length_append, List.length_map, List.length_map]; show 2 + _ + 2 + 1 ≤ 2 ^ 24; omega) ?_
  exact i_newT q
theorem l_framed {ns : List Int} {M : Mh} {Q : QZ} {E : ZX} (h : byteL ns) (hl : ns.length ≤ 64) (q : Q (.lst (frameD ns)) M) : z_framed [.lst (ns.map D.int)] M Q E :=
  l_framedM h hl fun p hp => i_rtN hp q
theorem l_framed_bad {d : D} {M : Mh} {Q : QZ} {E : ZX} (h : known M d) (hk : ∀ ds, d = .lst ds → knowns M ds) (hr : ∀ p, d ≠ .ref p) (hb : isRow M d 64 = false) (q : E "BadRow" [] M) : z_framed [d] M Q E := by
  show zFn _ zb_framed _ _ _ _
  unfold zFn zb_framed
  walk_at "z"
  refine l_check_of_bad h hk hr hb ?_
  walk_at "z"
  exact q

-- needs: codes tabs
/-! a reader, as a machine -/
structure RS where
  last : List Int
  part : Option (List Int)
  poise : Option Int
def hdD : Option Int → D
  | none => .non
  | some p => .int p
/-- what is told: an item, by number, or lost (260) -/
def tkD (n : Nat) : D := if n = 260 then .str "lost" else itD n
theorem tkD_it {n : Nat} (h : n < 260) : tkD n = itD n := if_neg (by omega)
theorem tkD_flat (n : Nat) : flatD (tkD n) = true := by
  unfold tkD; split
  · rfl
  · exact itD_flat n
/-- a word judged: told, whether in step behind it, the poise -/
def judge (o : Option Int) (w : Int) : List Nat × Bool × Option Int :=
  if w = 250 ∨ w = 773 then
    ((match o with | none => [] | some p => if p = (if w = 250 then -1 else 1) then [] else [260]) ++ [256], true, some (if w = 250 then 1 else -1))
  else match o with
    | none => ([260], false, none)
    | some p => match itemAt w with
      | none => ([260], false, none)
      | some (n, d) => if -1 ≤ p + d ∧ p + d ≤ 1 then ([n], true, some (p + d)) else ([260], false, none)
def sign (l : List Int) : Bool := decide (l = [0, 0, 1, 1, 1, 1, 1]) || decide (l = [1, 1, 0, 0, 0, 0, 0])
/-- behind a bit that was put to last and part: what is found -/
def findR (s : RS) : List Nat × RS :=
  let (t1, s1) := if sign s.last && decide (s.part.map List.length ≠ some 7) then ((if s.part.isSome then [260] else []), RS.mk s.last (some s.last) none) else ([], s)
  match s1.part with
  | none => (t1, s1)
  | some ps => if ps.length = 10 then
      let j := judge s1.poise (wordOf ps)
      (t1 ++ j.1, RS.mk s1.last (if j.2.1 then some [] else none) j.2.2)
    else (t1, s1)
def putR (s : RS) (b : Int) : RS := ⟨(s.last ++ [b]).drop ((s.last ++ [b]).length - 7), s.part.map (· ++ [b]), s.poise⟩
def stepR (s : RS) (b : Int) : List Nat × RS := findR (putR s b)
def runR : RS → List Int → List Nat × RS
  | s, [] => ([], s)
  | s, b :: r => let x := stepR s b; let y := runR x.2 r; (x.1 ++ y.1, y.2)
theorem runR_app : ∀ (a b : List Int) (s : RS), runR s (a ++ b) = ((runR s a).1 ++ (runR (runR s a).2 b).1, (runR (runR s a).2 b).2)
  | [], b, s => by simp [runR]
  | x :: r, b, s => by
    show ((stepR s x).1 ++ (runR (stepR s x).2 (r ++ b)).1, (runR (stepR s x).2 (r ++ b)).2) = _
    rw [runR_app r b]
    show _ = ((stepR s x).1 ++ (runR (stepR s x).2 r).1 ++ _, _)
    rw [List.append_assoc]; rfl
/-- what holds of a reader's state -/
structure ROk (s : RS) : Prop where
  last : bitL s.last
  len : s.last.length ≤ 7
  part : ∀ ps, s.part = some ps → bitL ps ∧ ps.length < 10
  poise : ∀ p, s.poise = some p → pm p
theorem judge_ok {o : Option Int} {w : Int} (h : ∀ p, o = some p → pm p) : ∀ p, (judge o w).2.2 = some p → pm p := by
  intro p e
  unfold judge at e
  split at e
  · split at e
    all_goals
      injection e with e
      subst e
      split
      · exact .inl rfl
      · exact .inr rfl
  · cases o with
    | none => cases e
    | some p0 =>
      dsimp only at e
      have hp := h p0 rfl
      cases e1 : itemAt w with
      | none => rw [e1] at e; cases e
      | some x =>
        obtain ⟨n, d⟩ := x
        rw [e1] at e
        dsimp only at e
        split at e
        · rename_i hr
          injection e with e
          subst e
          -- the poise moves by 0, 2 or -2
          have hd : d = 0 ∨ d = 2 ∨ d = -2 := by
            unfold itemAt at e1
            split at e1
            · cases e1; exact .inl rfl
            · split at e1
              · cases e1; exact .inr (.inl rfl)
              · split at e1
                · cases e1; exact .inr (.inr rfl)
                · cases e1
          rcases hp with e | e <;> subst e <;> rcases hd with e | e | e <;> subst e <;> first | exact .inl rfl | exact .inr rfl | omega
        · cases e
theorem pairI_260 {h : Int} {k : Nat} (e : pairI h = some k) : k < 260 := by
  unfold pairI at e
  split at e
  · cases e; decide
  · split at e
    · cases e
    · split at e
      · cases e; omega
      · split at e
        · cases e; omega
        · cases e
theorem itemAt_lt {w : Int} {n : Nat} {d : Int} (e1 : itemAt w = some (n, d)) : n < 260 := by
  unfold itemAt at e1
  split at e1
  · rename_i k hk
    injection e1 with e1
    injection e1 with e1 _
    subst e1
    by_cases hm : w ∈ tE
    · obtain ⟨k', h1, h2⟩ := idxOf?_some hm
      rw [hk] at h1; cases h1
      have : tE.length = 180 := rfl
      omega
    · rw [idxOf?_none hm] at hk; cases hk
  · split at e1
    · rename_i k hk
      cases e1
      exact pairI_260 hk
    · split at e1
      · rename_i k hk
        cases e1
        exact pairI_260 hk
      · cases e1
theorem judge_lt {o : Option Int} {w : Int} : ∀ n ∈ (judge o w).1, n ≤ 260 := by
  intro n hn
  unfold judge at hn
  split at hn
  · rcases List.mem_append.mp hn with hn | hn
    · cases o with
      | none => cases hn
      | some p =>
        dsimp only at hn
        by_cases hq : p = (if w = 250 then -1 else 1)
        · rw [if_pos hq] at hn; cases hn
        · rw [if_neg hq] at hn; rw [List.mem_singleton.mp hn]; exact Nat.le_refl _
    · rw [List.mem_singleton.mp hn]; decide
  · cases o with
    | none => rw [List.mem_singleton.mp hn]; exact Nat.le_refl _
    | some p0 =>
      dsimp only at hn
      cases e1 : itemAt w with
      | none => rw [e1] at hn; rw [List.mem_singleton.mp hn]; exact Nat.le_refl _
      | some x =>
        obtain ⟨m, d⟩ := x
        rw [e1] at hn
        dsimp only at hn
        split at hn
        · rw [List.mem_singleton.mp hn]; exact Nat.le_of_lt (itemAt_lt e1)
        · rw [List.mem_singleton.mp hn]; exact Nat.le_refl _
/-! a reader in the heap -/
def rdF (last : List Int) (pd : D) (o : Option Int) : MO := .ins "Reader" [("last", .lst (last.map D.int)), ("part", pd), ("poise", hdD o)]
def rfD : Option Addr → D
  | none => .non
  | some q => .ref q
def partAt (M : Mh) (a : Addr) : Option (List Int) → Option Addr → Prop
  | none, none => True
  | some ps, some q => q ≠ a ∧ M q = some (.lst (ps.map D.int))
  | _, _ => False
theorem partAt.keep {M M' : Mh} {a : Addr} {p : Option (List Int)} {fo : Option Addr} (h : partAt M a p fo) (k : ∀ q, fo = some q → M' q = M q) : partAt M' a p fo := by
  cases p with
  | none => cases fo with | none => trivial | some f => exact False.elim h
  | some ps => cases fo with | none => exact False.elim h | some f => exact ⟨h.1, (k f rfl).trans h.2⟩
structure RdAt (M : Mh) (a : Addr) (s : RS) (fo : Option Addr) : Prop where
  me : M a = some (.ins "Reader" [("last", .lst (s.last.map D.int)), ("part", rfD fo), ("poise", hdD s.poise)])
  part : partAt M a s.part fo
/-- nothing else is touched -/
def Fr (M : Mh) (a : Addr) (fo : Option Addr) (M' : Mh) (fo' : Option Addr) : Prop := ∀ y o, M y = some o → y ≠ a → fo ≠ some y → M' y = some o ∧ fo' ≠ some y
theorem Fr.refl (M : Mh) (a : Addr) (fo : Option Addr) : Fr M a fo M fo := fun _ _ h _ h2 => ⟨h, h2⟩
theorem Fr.trans {M M1 M2 : Mh} {a : Addr} {f f1 f2 : Option Addr} (h : Fr M a f M1 f1) (h' : Fr M1 a f1 M2 f2) : Fr M a f M2 f2 := fun y o e h1 h2 => by
  obtain ⟨q1, q2⟩ := h y o e h1 h2
  exact h' y o q1 h1 q2
theorem judge_len {o : Option Int} {w : Int} : (judge o w).1.length ≤ 2 := by
  unfold judge
  split
  · rw [List.length_append]
    cases o with
    | none => simp
    | some p =>
      dsimp only
      by_cases hq : p = (if w = 250 then -1 else 1)
      · rw [if_pos hq]; simp
      · rw [if_neg hq]; simp
  · cases o with
    | none => simp
    | some p =>
      dsimp only
      split
      · simp
      · split <;> simp

-- needs: rows
/-- rows as data -/
def rowD (ns : List Int) : D := .lst (ns.map D.int)
def rowsD (rs : List (List Int)) : List D := rs.map rowD
theorem Pl_row (n : Nat) (ns : List Int) : Pl (n + 1) (rowD ns) := .ints ns
theorem Pl_rows (n : Nat) (rs : List (List Int)) : Pl (n + 2) (.lst (rowsD rs)) := .lst fun x hx => by
  obtain ⟨r, _, rfl⟩ := List.mem_map.mp hx
  exact Pl_row n r
theorem eqDs_ints : ∀ {a b : List Int}, eqDs (a.map D.int) (b.map D.int) = decide (a = b)
  | [], [] => rfl
  | [], _ :: _ => rfl
  | _ :: _, [] => rfl
  | x :: a, y :: b => by
    show (eqD (.int x) (.int y) && eqDs (a.map D.int) (b.map D.int)) = _
    rw [eqDs_ints, eqD_int]
    by_cases h : x = y
    · subst h; simp
    · simp [h]
theorem eqD_rows {a b : List Int} : eqD (rowD a) (rowD b) = decide (a = b) := eqDs_ints
theorem eqD_nil {ds : List D} : eqD (.lst ds) (.lst []) = decide (ds = []) := by
  cases ds with
  | nil => rfl
  | cons d r => rfl
theorem atI_head {d : D} {l : List D} : atI (d :: l) (0 : Int) = some d := by
  unfold atI ixN
  rw [if_pos (by decide), if_pos (by rw [List.length_cons]; omega)]; rfl
theorem i_pop0 {M : Mh} {Q : QZ} {p : Addr} {d : D} {l : List D} (e : M p = some (.lst (d :: l))) (q : Q d (mup M p (.lst l))) : dPopAt (.ref p) [.int 0] M Q := by
  refine ⟨by decide, by decide, ?_⟩
  rw [zR_ref e]
  have e1 : ixN (d :: l).length (0 : Int) = some 0 := by
    unfold ixN
    rw [if_pos (by decide), if_pos (by rw [List.length_cons]; omega)]; rfl
  simp only [e1]
  exact q
def badRow (M : Mh) (most : Int) (d : D) : Prop := known M d ∧ (∀ ds, d = .lst ds → knowns M ds) ∧ (∀ p, d ≠ .ref p) ∧ (match d with | .lst ds => decide ((ds.length : Int) ≤ most) && ds.all fun x => iw x 0 255 | _ => false) = false
theorem badRow_of {M : Mh} {most : Int} {d : D} {t : String} (h1 : tyD M d = some t) (h2 : ∀ ds, d ≠ .lst ds) (h3 : ∀ p, d ≠ .ref p) : badRow M most d := by
  refine ⟨⟨_, h1⟩, (fun ds e => absurd e (h2 ds)), h3, ?_⟩
  cases d with
  | lst ds => exact absurd rfl (h2 ds)
  | ref p => exact absurd rfl (h3 p)
  | _ => rfl
theorem badRow_long {M : Mh} {most : Int} {ns : List Int} (h : most < ns.length) : badRow M most (.lst (ns.map D.int)) := by
  refine ⟨known_lst _, (fun ds e => by cases e; exact knowns_ints _), (fun p e => by cases e), ?_⟩
  show (decide (((ns.map D.int).length : Int) ≤ most) && _) = false
  rw [decide_eq_false (by rw [List.length_map]; omega), Bool.false_and]
/-- a row with one odd thing put in -/
theorem badRow_odd {M : Mh} {most : Int} {row : List Int} {b : D} {i j : Nat} (h1 : known M b) (h2 : iw b 0 255 = false) : badRow M most (.lst ((row.map D.int).take i ++ [b] ++ (row.map D.int).drop j)) := by
  have hi : ∀ x ∈ row.map D.int, known M x := fun x hx => by
    obtain ⟨i, _, rfl⟩ := List.mem_map.mp hx
    exact known_int i
  refine ⟨known_lst _, (fun ds e => by
    cases e
    intro x hx
    rcases List.mem_append.mp hx with hx | hx
    · rcases List.mem_append.mp hx with hx | hx
      · exact hi x (List.mem_of_mem_take hx)
      · rw [List.mem_singleton.mp hx]; exact h1
    · exact hi x (List.mem_of_mem_drop hx)), (fun p e => by cases e), ?_⟩
  show (decide _ && List.all _ _) = false
  rw [List.all_append, List.all_append, show List.all [b] (fun x => iw x 0 255) = false by simp [h2]]
  simp

-- needs: reader rows rowsD
/-! a taker, as a machine: events are frames (some row) and spoilt ones (none) -/
def evD : Option (List Int) → D
  | none => .tup [.str "spoilt", .lst []]
  | some r => .tup [.str "frame", rowD r]
def withinL : List Int → Option (List Int)
  | [] => none
  | n :: r => if 64 < n ∨ (r.length : Int) + 1 ≠ n + 3 then none else if checkL (r.take (r.length - 2)) = r.drop (r.length - 2) then some (r.take (r.length - 2)) else none
def tookB (s : Option (List Int)) (n : Nat) : List (Option (List Int)) × Option (List Int) := match s with
    | none => ([], none)
    | some l => if n = 259 then ([], some l) else if n < 256 ∧ l.length < 67 then ([], some (l ++ [(n : Int)])) else ([if n = 257 then withinL l else none], none)
def tookT (s : Option (List Int)) (n : Nat) : List (Option (List Int)) × Option (List Int) :=
  if n = 256 then ((if s.isSome then [none] else []), some []) else tookB s n
def runT : Option (List Int) → List Nat → List (Option (List Int)) × Option (List Int)
  | s, [] => ([], s)
  | s, n :: r => ((tookT s n).1 ++ (runT (tookT s n).2 r).1, (runT (tookT s n).2 r).2)
theorem runT_app : ∀ (a b : List Nat) (s : Option (List Int)), runT s (a ++ b) = ((runT s a).1 ++ (runT (runT s a).2 b).1, (runT (runT s a).2 b).2)
  | [], b, s => by simp [runT]
  | x :: r, b, s => by
    show ((tookT s x).1 ++ (runT (tookT s x).2 (r ++ b)).1, (runT (tookT s x).2 (r ++ b)).2) = _
    rw [runT_app r b]
    show _ = ((tookT s x).1 ++ (runT (tookT s x).2 r).1 ++ _, _)
    rw [List.append_assoc]; rfl
def TOk (s : Option (List Int)) : Prop := ∀ l, s = some l → byteL l ∧ l.length ≤ 67
theorem tookT_ok {s : Option (List Int)} {n : Nat} (h : TOk s) : TOk (tookT s n).2 ∧ (tookT s n).1.length ≤ 1 := by
  unfold tookT
  split
  · refine ⟨fun l e => ?_, by split <;> simp⟩
    cases e; exact ⟨(fun _ h => nomatch h), Nat.zero_le _⟩
  · unfold tookB
    cases s with
    | none => exact ⟨(fun _ e => nomatch e), by simp⟩
    | some l =>
      dsimp only
      obtain ⟨h1, h2⟩ := h l rfl
      split
      · exact ⟨h, by simp⟩
      · split
        · rename_i hn
          refine ⟨fun l' e => ?_, by simp⟩
          cases e
          exact ⟨byteL_app h1 (fun m hm => by rw [List.mem_singleton.mp hm]; omega), by rw [List.length_append]; simp only [List.length_cons, List.length_nil]; omega⟩
        · exact ⟨(fun _ e => nomatch e), by simp⟩
theorem runT_ok : ∀ {ts : List Nat} {s : Option (List Int)}, TOk s → TOk (runT s ts).2 ∧ (runT s ts).1.length ≤ ts.length
  | [], s, h => ⟨h, Nat.le_refl _⟩
  | n :: r, s, h => by
    obtain ⟨h1, h2⟩ := tookT_ok (n := n) h
    obtain ⟨h3, h4⟩ := runT_ok (ts := r) h1
    refine ⟨h3, ?_⟩
    show ((tookT s n).1 ++ (runT (tookT s n).2 r).1).length ≤ _
    rw [List.length_append, List.length_cons]; omega
theorem tkD_int {n : Nat} (h : n < 256) : tkD n = .int n := by rw [tkD_it (by omega), itD_int h]
theorem tkD_eqs {n : Nat} (h : n ≤ 260) : eqD (tkD n) (.str "begin") = decide (n = 256) ∧ eqD (tkD n) (.str "skip") = decide (n = 259) ∧ eqD (tkD n) (.str "end") = decide (n = 257) ∧ eqD (tkD n) (.str "lost") = decide (n = 260) := by
  by_cases hn : n < 256
  · rw [tkD_int hn, decide_eq_false (by omega), decide_eq_false (by omega), decide_eq_false (by omega), decide_eq_false (by omega)]
    exact ⟨rfl, rfl, rfl, rfl⟩
  · obtain e | e | e | e | e : n = 256 ∨ n = 257 ∨ n = 258 ∨ n = 259 ∨ n = 260 := by omega
    all_goals subst e; decide
theorem tkD_str {n : Nat} (h : ¬ n < 256) : ∃ s, tkD n = .str s := by
  unfold tkD
  split
  · exact ⟨_, rfl⟩
  · exact itD_str h
theorem tkD_Pl (n : Nat) : Pl 64 (tkD n) := .flat (tkD_flat n)
/-! a taker in the heap -/
structure TkAt (M : Mh) (a : Addr) (s : Option (List Int)) (fo : Option Addr) : Prop where
  me : M a = some (.ins "Taker" [("some", rfD fo)])
  part : partAt M a s fo
theorem cutD_1m2 {ds : List D} (h : 3 ≤ ds.length) : cutD ds (some 1) (some (-2)) = (ds.drop 1).take (ds.length - 3) := by
  unfold cutD
  have e1 : HT.sIx ds.length 0 (some (1 : Int)) = 1 := by
    unfold HT.sIx
    first | (simp; omega) | (dsimp only; split <;> omega)
  have e2 : HT.sIx ds.length ds.length (some (-2 : Int)) = ds.length - 2 := by
    unfold HT.sIx
    first | (simp; omega) | (dsimp only; split <;> omega)
  rw [e1, e2, show ds.length - 2 - 1 = ds.length - 3 by omega]
theorem cutD_m2 {ds : List D} (h : 3 ≤ ds.length) : cutD ds (some (-2)) none = ds.drop (ds.length - 2) := by
  unfold cutD
  have e1 : HT.sIx ds.length 0 (some (-2 : Int)) = ds.length - 2 := by
    unfold HT.sIx
    first | (simp; omega) | (dsimp only; split <;> omega)
  have e2 : HT.sIx ds.length ds.length none = ds.length := rfl
  rw [e1, e2, List.take_of_length_le (by rw [List.length_drop]; omega)]

-- needs: taker rows rowsD
def rowO : Option (List Int) → D
  | none => .non
  | some r => rowD r
theorem l_row_withinR {p : Addr} {l : List Int} {M : Mh} {Q : QZ} {E : ZX} (e : M p = some (.lst (l.map D.int))) (hb : byteL l) (hl : l.length ≤ 67) (q : Q (rowO (withinL l)) M) : z_row_within [.ref p] M Q E := by
  show zFn _ zb_row_within _ _ _ _
  unfold zFn zb_row_within
  walk_at "z"
  refine i_eqG (.at e) (.refl _) (.ints _) (.lflat rfl) ?_
  cases l with
  | nil =>
    walk_at "z"
    exact q
  | cons n r =>
    have hn := hb n List.mem_cons_self
    have hr : byteL r := fun m hm => hb m (List.mem_cons_of_mem _ hm)
    rw [List.length_cons] at hl
    unfold withinL at q
    dsimp only at q
    rw [show eqD (.lst ((n :: r).map D.int)) (.lst []) = false from rfl]
    walk_at "z"
    refine i_ixR e (d := .int n) atI_hd ?_
    walk_at "z"
    refine i_bd (fun h64 => ?_) fun h64 => ?_
    · rw [if_pos (.inl h64)] at q
      walk_at "z"
      exact q
    · walk_at "y"
      refine i_ixR e (d := .int n) atI_hd ?_
      walk_at "y"
      rw [List.length_cons]
      refine i_bd (fun h3 => ?_) fun h3 => ?_
      · have h3 : (r.length : Int) + 1 = n + 3 := h3
        rw [if_neg (by omega)] at q
        walk_at "y"
        have l3 : 3 ≤ ((n :: r).map D.int).length := by rw [List.length_map, List.length_cons]; omega
        rw [cutD_1m2 l3, show ((List.map D.int (n :: r)).drop 1).take ((List.map D.int (n :: r)).length - 3) = (r.take (r.length - 2)).map D.int by
          rw [List.length_map, List.length_cons, List.map_take]; rfl]
        walk_at "y"
        refine l_check_of (byteL_take hr _) (by rw [List.length_take]; omega) ?_
        walk_at "y"
        rw [cutD_m2 l3, show (List.map D.int (n :: r)).drop ((List.map D.int (n :: r)).length - 2) = (r.drop (r.length - 2)).map D.int by
          rw [List.length_map, List.length_cons, List.map_drop, show r.length + 1 - 2 = (r.length - 2) + 1 by omega]; rfl]
        refine i_eq (.ints _) (.ints _) ?_
        rw [show eqD (.lst ((checkL (r.take (r.length - 2))).map D.int)) (.lst ((r.drop (r.length - 2)).map D.int)) = decide (checkL (r.take (r.length - 2)) = r.drop (r.length - 2)) from eqDs_ints]
        walk_at "y"
        refine i_bd (fun h4 => ?_) fun h4 => ?_
        · rw [if_pos h4] at q
          walk_at "y"
          exact q
        · rw [if_neg h4] at q
          walk_at "y"
          exact q
      · have h3 : ¬ (r.length : Int) + 1 = n + 3 := h3
        rw [if_pos (.inr h3)] at q
        walk_at "y"
        exact q

-- needs: reader
theorem l_Reader___init__ {a : Addr} {M : Mh} {Q : QZ} {E : ZX} (h : M a = some (.ins "Reader" [])) (q : ∀ M', RdAt M' a ⟨[], none, none⟩ none → (∀ y, y ≠ a → M' y = M y) → Q .non M') : z_Reader___init__ [.ref a] M Q E := by
  show zFn _ zb_Reader___init__ _ _ _ _
  unfold zFn zb_Reader___init__
  walk_at "y"
  rw [mup_mup, mup_mup]
  exact q _ ⟨mup_same, trivial⟩ fun y hy => mup_ne hy

-- needs: reader
theorem l_Reader_heardJ {a : Addr} {s : RS} {fo : Option Addr} {w : Int} {M : Mh} {Q : QZ} {E : ZX} {J : List Nat × Bool × Option Int} (hJ : judge s.poise w = J) (h : RdAt M a s fo)
    (q : ∀ M' fo', RdAt M' a ⟨s.last, (if J.2.1 then s.part else none), J.2.2⟩ fo' → Fr M a fo M' fo' → Q (.lst (J.1.map tkD)) M') : z_Reader_heard [.ref a, .int w] M Q E := by
  have hm := h.me
  have hp := h.part
  have fr1 : ∀ {o : MO}, Fr M a fo (mup M a o) fo := fun {o} y o' e h1 h2 => ⟨(mup_ne h1).trans e, h2⟩
  have fr0 : ∀ {o : MO}, Fr M a fo (mup M a o) none := fun {o} y o' e h1 h2 => ⟨(mup_ne h1).trans e, (fun z => nomatch z)⟩
  have keep : ∀ {o : Option Int}, RdAt (mup M a (.ins "Reader" [("last", .lst (s.last.map D.int)), ("part", rfD fo), ("poise", hdD o)])) a ⟨s.last, s.part, o⟩ fo := fun {o} => ⟨mup_same, hp.keep fun f hf => mup_ne (fun z => by
    subst hf
    cases e : s.part with
    | none => rw [e] at hp; exact False.elim hp
    | some ps => rw [e] at hp; exact hp.1 z)⟩
  have gone : RdAt (mup M a (.ins "Reader" [("last", .lst (s.last.map D.int)), ("part", .non), ("poise", .non)])) a ⟨s.last, none, none⟩ none := ⟨mup_same, trivial⟩
  show zFn _ zb_Reader_heard _ _ _ _
  unfold zFn zb_Reader_heard
  walk_at "y"
  rw [if_neg (by decide), show inD (.int w) [.int 250, .int (1023 - 250)] = decide (w = 250 ∨ w = 773) by
    rw [show [D.int 250, .int (1023 - 250)] = ([250, 773] : List Int).map D.int from rfl, inD_ints]
    simp]
  walk_at "y"
  refine i_bd (fun e => ?_) fun e => ?_
  · -- a mark
    have eq : judge s.poise w = ((match s.poise with | none => [] | some p => if p = (if w = 250 then -1 else 1) then [] else [260]) ++ [256], true, some (if w = 250 then 1 else -1)) := if_pos e
    rw [eq] at hJ
    subst hJ
    refine i_seqP (P := fun r M' => M' = M ∧ r = [some (.ref a), some (.int w), some (.int (if w = 250 then -1 else 1)), none, none]) ?_ ?_
    · rintro r M' ⟨rfl, rfl⟩
      refine i_seqP (P := fun r M1 => M1 = M' ∧ r = [some (.ref a), some (.int w), some (.int (if w = 250 then -1 else 1)), some (.lst ((match s.poise with | none => [] | some p => if p = (if w = 250 then -1 else 1) then [] else [260]).map tkD)), none]) ?_ ?_
      · rintro r M1 ⟨rfl, rfl⟩
        have e2 : (0 : Int) - (if w = 250 then -1 else 1) = if w = 250 then 1 else -1 := by split <;> rfl
        walk_at "y"
        rw [e2]
        have hl1 : (match s.poise with | none => [] | some p => if p = (if w = 250 then -1 else 1) then [] else [260] : List Nat).length ≤ 1 := by
          cases s.poise with
          | none => exact Nat.zero_le _
          | some p =>
            dsimp only
            by_cases hq : p = (if w = 250 then -1 else 1)
            · rw [if_pos hq]; exact Nat.zero_le _
            · rw [if_neg hq]; exact Nat.le_refl _
        refine i_addL (by rw [List.length_map]; exact Nat.le_trans (Nat.add_le_add_right hl1 1) (by decide)) ?_
        refine i_newT fun p hp => ?_
        refine i_rtF mup_same ?_
        rw [mdel_mup hp]
        have := q _ fo (keep (o := some (if w = 250 then 1 else -1))) fr1
        rw [List.map_append] at this
        exact this
      · intro k hk
        generalize (if w = 250 then (-1 : Int) else 1) = due at hk ⊢
        cases e3 : s.poise with
        | none =>
          rw [e3] at hm hk
          have hm : M' a = some (.ins "Reader" [("last", .lst (s.last.map D.int)), ("part", rfD fo), ("poise", .non)]) := hm
          walk_at "y"
          exact hk _ _ ⟨rfl, rfl⟩
        | some p =>
          rw [e3] at hm hk
          have hm : M' a = some (.ins "Reader" [("last", .lst (s.last.map D.int)), ("part", rfD fo), ("poise", .int p)]) := hm
          dsimp only at hk
          walk_at "y"
          refine i_bd (fun e4 => ?_) fun e4 => ?_
          · rw [if_pos e4] at hk
            walk_at "y"
            exact hk _ _ ⟨rfl, rfl⟩
          · rw [if_neg e4] at hk
            walk_at "y"
            exact hk _ _ ⟨rfl, rfl⟩
    · intro k hk
      walk_at "y"
      refine i_bd (fun e4 => ?_) fun e4 => ?_
      · rw [if_pos e4] at hk
        walk_at "y"
        exact hk _ _ ⟨rfl, rfl⟩
      · rw [if_neg e4] at hk
        walk_at "y"
        exact hk _ _ ⟨rfl, rfl⟩
  · have eq : judge s.poise w = (match s.poise with
      | none => ([260], false, none)
      | some p => match itemAt w with
        | none => ([260], false, none)
        | some (n, d) => if -1 ≤ p + d ∧ p + d ≤ 1 then ([n], true, some (p + d)) else ([260], false, none)) := if_neg e
    rw [eq] at hJ
    cases e3 : s.poise with
    | none =>
      rw [e3] at hm hJ
      subst hJ
      have hm : M a = some (.ins "Reader" [("last", .lst (s.last.map D.int)), ("part", rfD fo), ("poise", .non)]) := hm
      walk_at "y"
      rw [mup_mup]
      refine i_newT fun p hp => ?_
      refine i_rtF mup_same ?_
      rw [mdel_mup hp]
      exact q _ none gone fr0
    | some p =>
      rw [e3] at hm hJ
      have hm : M a = some (.ins "Reader" [("last", .lst (s.last.map D.int)), ("part", rfD fo), ("poise", .int p)]) := hm
      dsimp only at hJ
      walk_at "y"
      refine l_item_at ?_
      walk_at "y"
      cases e5 : itemAt w with
      | none =>
        rw [e5] at hJ
        subst hJ
        walk_at "y"
        rw [mup_mup]
        refine i_newT fun p hp => ?_
        refine i_rtF mup_same ?_
        rw [mdel_mup hp]
        exact q _ none gone fr0
      | some x =>
        obtain ⟨n, d⟩ := x
        rw [e5] at hJ
        dsimp only at hJ
        rw [show itA (some (n, d)) = .tup [itD n, .int d] from rfl]
        walk_at "y"
        refine i_bd (fun h1 => ?_) fun h1 => ?_
        · walk_at "y"
          refine i_bd (fun h2 => ?_) fun h2 => ?_
          · rw [if_pos ⟨h1, h2⟩] at hJ; subst hJ
            walk_at "y"
            refine i_newT fun x hx => ?_
            refine i_rtF mup_same ?_
            rw [mdel_mup hx]
            have := q _ fo (keep (o := some (p + d))) fr1
            rw [show List.map tkD [n] = [itD n] by rw [List.map_cons, tkD_it (itemAt_lt e5)]; rfl] at this
            exact this
          · rw [if_neg (fun z => h2 z.2)] at hJ; subst hJ
            walk_at "y"
            rw [mup_mup]
            refine i_newT fun x hx => ?_
            refine i_rtF mup_same ?_
            rw [mdel_mup hx]
            exact q _ none gone fr0
        · rw [if_neg (fun z => h1 z.1)] at hJ; subst hJ
          walk_at "y"
          rw [mup_mup]
          refine i_newT fun x hx => ?_
          refine i_rtF mup_same ?_
          rw [mdel_mup hx]
          exact q _ none gone fr0
theorem l_Reader_heard {a : Addr} {s : RS} {fo : Option Addr} {w : Int} {M : Mh} {Q : QZ} {E : ZX} (h : RdAt M a s fo)
    (q : ∀ M' fo', RdAt M' a ⟨s.last, (if (judge s.poise w).2.1 then s.part else none), (judge s.poise w).2.2⟩ fo' → Fr M a fo M' fo' → Q (.lst ((judge s.poise w).1.map tkD)) M') : z_Reader_heard [.ref a, .int w] M Q E := l_Reader_heardJ rfl h q

-- needs: reader
theorem l_Reader_waiting {a : Addr} {s : RS} {fo : Option Addr} {M : Mh} {Q : QZ} {E : ZX} (h : RdAt M a s fo) (q : Q (hdD (s.part.map fun ps => (ps.length : Int))) M) : z_Reader_waiting [.ref a] M Q E := by
  have hm := h.me
  have hp := h.part
  show zFn _ zb_Reader_waiting _ _ _ _
  unfold zFn zb_Reader_waiting
  cases e : s.part with
  | none =>
    rw [e] at hp q
    cases fo with
    | none => walk_at "y"; exact q
    | some f => exact False.elim hp
  | some ps =>
    rw [e] at hp q
    cases fo with
    | none => exact False.elim hp
    | some f =>
      have hq := hp.2
      have hm : M a = some (.ins "Reader" [("last", .lst (s.last.map D.int)), ("part", .ref f), ("poise", hdD s.poise)]) := hm
      walk_at "y"
      exact q

-- needs: taker
theorem l_Taker___init__ {a : Addr} {M : Mh} {Q : QZ} {E : ZX} (h : M a = some (.ins "Taker" [])) (q : ∀ M', TkAt M' a none none → (∀ y, y ≠ a → M' y = M y) → Q .non M') : z_Taker___init__ [.ref a] M Q E := by
  show zFn _ zb_Taker___init__ _ _ _ _
  unfold zFn zb_Taker___init__
  walk_at "y"
  exact q _ ⟨mup_same, trivial⟩ fun y hy => mup_ne hy

-- needs: taker row_within
theorem l_Taker_took {a : Addr} {s : Option (List Int)} {fo : Option Addr} {n : Nat} {M : Mh} {Q : QZ} {E : ZX} (h : TkAt M a s fo) (ok : TOk s) (hn : n ≤ 260)
    (q : ∀ M' fo', TkAt M' a (tookT s n).2 fo' → Fr M a fo M' fo' → Q (.lst ((tookT s n).1.map evD)) M') : z_Taker_took [.ref a, tkD n] M Q E := by
  obtain ⟨k1, k2, k3, _⟩ := tkD_eqs hn
  have hm := h.me
  have hpt := h.part
  have fr0 : ∀ {o : MO} , Fr M a fo (mup M a o) none := fun {o} y o' e h1 h2 => ⟨(mup_ne h1).trans e, (fun z => nomatch z)⟩
  have gone : TkAt (mup M a (.ins "Taker" [("some", .non)])) a none none := ⟨mup_same, trivial⟩
  show zFn _ zb_Taker_took _ _ _ _
  unfold zFn zb_Taker_took
  walk_at "y"
  refine i_eq (tkD_Pl n) (.str _ _) ?_
  rw [k1]
  walk_at "y"
  refine i_bd (fun e => ?_) fun e => ?_
  · -- begin
    have et : tookT s n = ((if s.isSome then [none] else []), some []) := if_pos e
    rw [et] at q
    refine i_seqP (P := fun r M' => M' = M ∧ r = [some (.ref a), some (tkD n), some (.lst ((if s.isSome then [none] else [] : List (Option (List Int))).map evD)), none]) ?_ ?_
    · rintro r M' ⟨rfl, rfl⟩
      walk_at "y"
      refine i_newT fun g hg => ?_
      have ga : g ≠ a := fun z => by rw [z, hm] at hg; cases hg
      walk_at "y"
      refine i_rtG ?_
      refine q _ (some g) ⟨mup_same, ga, (mup_ne ga).trans mup_same⟩ fun y o e1 h1 h2 => ⟨(mup_ne h1).trans (mup_get hg e1), fun z => by cases z; rw [e1] at hg; cases hg⟩
    · intro k hk
      cases es : s with
      | none =>
        rw [es] at hpt hk
        cases fo with
        | some f => exact False.elim hpt
        | none =>
          have hm : M a = some (.ins "Taker" [("some", .non)]) := hm
          walk_at "y"
          exact hk _ _ ⟨rfl, rfl⟩
      | some l =>
        rw [es] at hpt hk
        cases fo with
        | none => exact False.elim hpt
        | some f =>
          have hm : M a = some (.ins "Taker" [("some", .ref f)]) := hm
          walk_at "y"
          exact hk _ _ ⟨rfl, rfl⟩
  · have et : tookT s n = tookB s n := if_neg e
    generalize hJ : tookT s n = J at et q
    cases es : s with
    | none =>
      rw [es] at hpt et
      have et : J = ([], none) := et
      subst et
      cases fo with
      | some f => exact False.elim hpt
      | none =>
        have hm : M a = some (.ins "Taker" [("some", .non)]) := hm
        walk_at "y"
        refine i_newT fun g hg => i_rtN hg ?_
        exact q M none ⟨hm, trivial⟩ (Fr.refl _ _ _)
    | some l =>
      rw [es] at hpt et
      have et : J = (if n = 259 then ([], some l) else if n < 256 ∧ l.length < 67 then ([], some (l ++ [(n : Int)])) else ([if n = 257 then withinL l else none], none)) := et
      obtain ⟨hbl, hll⟩ := ok l es
      cases fo with
      | none => exact False.elim hpt
      | some f =>
        have hm : M a = some (.ins "Taker" [("some", .ref f)]) := hm
        obtain ⟨fa, hF⟩ := hpt
        walk_at "y"
        refine i_eq (tkD_Pl n) (.str _ _) ?_
        rw [k2]
        walk_at "y"
        refine i_bd (fun e2 => ?_) fun e2 => ?_
        · rw [if_pos e2] at et
          subst et
          walk_at "y"
          refine i_newT fun g hg => i_rtN hg ?_
          exact q M (some f) ⟨hm, fa, hF⟩ (Fr.refl _ _ _)
        · rw [if_neg e2] at et
          by_cases hi : n < 256
          · rw [tkD_int hi]
            walk_at "y"
            refine i_bd (fun h67 => ?_) fun h67 => ?_
            · have h67 : (l.length : Int) < 67 := h67
              rw [if_pos ⟨hi, by omega⟩] at et
              subst et
              walk_at "y"
              refine i_newT fun g hg => i_rtN hg ?_
              refine q _ (some f) ⟨(mup_ne (Ne.symm fa)).trans hm, fa, by rw [mup_same]; simp⟩ fun y o e1 h1 h2 => ⟨(mup_ne (fun z => h2 (by rw [z]))).trans e1, h2⟩
            · have h67 : ¬ (l.length : Int) < 67 := h67
              rw [if_neg (by omega), if_neg (by omega)] at et
              subst et
              walk_at "y"
              refine i_newT fun g hg => i_rtN hg ?_
              exact q _ none gone fr0
          · obtain ⟨sx, hsx⟩ := tkD_str hi
            rw [if_neg (by omega)] at et
            rw [hsx] at k3 ⊢
            walk_at "y"
            have k3 : decide (sx = "end") = decide (n = 257) := k3
            rw [k3]
            refine i_bd (fun e3 => ?_) fun e3 => ?_
            · rw [if_pos e3] at et
              walk_at "y"
              refine l_row_withinR hF hbl hll ?_
              walk_at "y"
              cases ew : withinL l with
              | none =>
                rw [ew] at et
                subst et
                walk_at "y"
                refine i_newT fun g hg => i_rtN hg ?_
                exact q _ none gone fr0
              | some rw_ =>
                rw [ew] at et
                subst et
                walk_at "y"
                refine i_newT fun g hg => i_rtN hg ?_
                exact q _ none gone fr0
            · rw [if_neg e3] at et
              subst et
              walk_at "y"
              refine i_newT fun g hg => i_rtN hg ?_
              exact q _ none gone fr0

-- needs: taker
theorem l_Taker_within {a : Addr} {s : Option (List Int)} {fo : Option Addr} {M : Mh} {Q : QZ} {E : ZX} (h : TkAt M a s fo) (q : Q (.bl s.isSome) M) : z_Taker_within [.ref a] M Q E := by
  have hm := h.me
  have e : fo.isSome = s.isSome := by
    have := h.part
    cases s with
    | none => cases fo with | none => rfl | some f => exact False.elim this
    | some l => cases fo with | none => exact False.elim this | some f => rfl
  show zFn _ zb_Taker_within _ _ _ _
  unfold zFn zb_Taker_within
  walk_at "y"
  rw [show isN (rfD fo) = !fo.isSome by cases fo <;> rfl, Bool.not_not, e]
  exact q

-- needs: taker reader
/-- an ear: its reader at r, its taker at k -/
structure ErAt (M : Mh) (e r k : Addr) (sr : RS) (fr : Option Addr) (sk : Option (List Int)) (fk : Option Addr) : Prop where
  rk : r ≠ k
  er : e ≠ r
  ek : e ≠ k
  nre : fr ≠ some e
  nrk : fr ≠ some k
  nke : fk ≠ some e
  nkr : fk ≠ some r
  ff : ∀ q, fr = some q → fk ≠ some q
  me : M e = some (.ins "Ear" [("reader", .ref r), ("taker", .ref k)])
  R : RdAt M r sr fr
  T : TkAt M k sk fk
theorem l_Ear___init__ {e : Addr} {M : Mh} {Q : QZ} {E : ZX} (h : M e = some (.ins "Ear" [])) (q : ∀ M' r k, ErAt M' e r k ⟨[], none, none⟩ none none none → (∀ y o, M y = some o → y ≠ e → M' y = some o ∧ y ≠ r ∧ y ≠ k) → Q .non M') : z_Ear___init__ [.ref e] M Q E := by
  show zFn _ zb_Ear___init__ _ _ _ _
  unfold zFn zb_Ear___init__
  walk_at "y"
  intro r hr
  have er : e ≠ r := ne_of_m h hr
  refine l_Reader___init__ mup_same fun M1 hR h1 => ⟨rfl, ?_⟩
  have he1 : M1 e = some (.ins "Ear" []) := (h1 e er).trans (mup_get hr h)
  walk_at "y"
  intro k hk
  have hR2 : RdAt (mup M1 e (.ins "Ear" [("reader", .ref r)])) r ⟨[], none, none⟩ none := ⟨(mup_ne (Ne.symm er)).trans hR.me, trivial⟩
  have rk : r ≠ k := ne_of_m hR2.me hk
  have ek : e ≠ k := fun z => by
    have hk : mup M1 e (.ins "Ear" [("reader", .ref r)]) k = none := hk
    rw [← z, mup_same] at hk; cases hk
  have hk1 : M1 k = none := by
    have hk : mup M1 e (.ins "Ear" [("reader", .ref r)]) k = none := hk
    rwa [mup_ne (Ne.symm ek)] at hk
  refine l_Taker___init__ mup_same fun M2 hT h2 => ⟨rfl, ?_⟩
  have he2 : M2 e = some (.ins "Ear" [("reader", .ref r)]) := (h2 e ek).trans ((mup_ne ek).trans mup_same)
  have hr2 : M2 r = some (.ins "Reader" [("last", .lst []), ("part", .non), ("poise", .non)]) := (h2 r rk).trans ((mup_ne rk).trans hR2.me)
  walk_at "y"
  refine q _ r k ⟨rk, er, ek, (fun z => nomatch z), (fun z => nomatch z), (fun z => nomatch z), (fun z => nomatch z), (fun _ z => nomatch z), mup_same, ⟨(mup_ne (Ne.symm er)).trans hr2, trivial⟩, ⟨(mup_ne (Ne.symm ek)).trans hT.me, trivial⟩⟩ fun y o hy hye => ?_
  have hyr : y ≠ r := ne_of_m hy hr
  have h3 : M1 y = some o := (h1 y hyr).trans (mup_get hr hy)
  have hyk : y ≠ k := ne_of_m h3 hk1
  exact ⟨(mup_ne hye).trans ((h2 y hyk).trans ((mup_ne hyk).trans ((mup_ne hye).trans h3))), hyr, hyk⟩

def sndF (p c : Int) : MO := .ins "Sender" [("poise", .int p), ("count", .int c)]
theorem l_Sender___init__ {a : Addr} {M : Mh} {Q : QZ} {E : ZX} (h : M a = some (.ins "Sender" [])) (q : Q .non (mup M a (sndF (-1) 0))) : z_Sender___init__ [.ref a] M Q E := by
  show zFn _ zb_Sender___init__ _ _ _ _
  unfold zFn zb_Sender___init__
  walk_at "y"
  rw [mup_mup]
  exact q

-- needs: Sender___init__ sent items
theorem l_Sender_say {a : Addr} {p c : Int} {is : List Nat} {M : Mh} {Q : QZ} {E : ZX} (h : M a = some (sndF p c)) (hp : pm p) (hi : ∀ n ∈ is, n < 260) (hl : is.length ≤ 1000) (q : ∀ x M', M x = none → M' x = some (.lst ((sentB is p).map D.int)) → M' a = some (sndF (sentP is p) (c + is.length)) → (∀ y, y ≠ x → y ≠ a → M' y = M y) → Q (.ref x) M') : z_Sender_say [.ref a, .lst (is.map itD)] M Q E := by
  have h' : M a = some (.ins "Sender" [("poise", .int p), ("count", .int c)]) := h
  show zFn _ zb_Sender_say _ _ _ _
  unfold zFn zb_Sender_say
  walk_at "y"
  refine l_look_items_ok hi ?_
  walk_at "y"
  refine l_sent_fromM hi hp (by omega) fun x hx => i_rtG ?_
  have ne : x ≠ a := fun z => by rw [z, h] at hx; cases hx
  walk_at "y"
  rw [mup_mup]
  exact q x _ hx (by rw [mup_ne ne]; exact mup_same) mup_same fun y h1 h2 => by rw [mup_ne h2, mup_ne h1]
theorem l_Sender_say_bad {a : Addr} {d : D} {M : Mh} {Q : QZ} {E : ZX} (h : badItems M d) (q : E "BadItem" [] M) : z_Sender_say [.ref a, d] M Q E := by
  show zFn _ zb_Sender_say _ _ _ _
  unfold zFn zb_Sender_say
  walk_at "y"
  refine l_look_items_bad h ?_
  walk_at "y"
  exact q

-- needs: items rows framedef
/-- the frame's items, by number -/
def frameI (ns : List Int) : List Nat := [256, ns.length] ++ ns.map Int.toNat ++ (checkL ns).map Int.toNat ++ [257]
theorem itD_byte {n : Int} (h0 : 0 ≤ n) (h1 : n ≤ 255) : itD n.toNat = .int n := by
  rw [itD_int (by omega)]; congr 1; omega
theorem checkL_byte (ns : List Int) : byteL (checkL ns) := fun n hn => by
  have := sumOf_rng ns
  unfold checkL at hn
  simp only [List.mem_cons, List.not_mem_nil, or_false] at hn
  rcases hn with e | e <;> subst e <;> omega
theorem map_itD {ns : List Int} (h : byteL ns) : (ns.map Int.toNat).map itD = ns.map D.int := by
  rw [List.map_map]
  apply List.map_congr_left
  intro n hn
  exact itD_byte (h n hn).1 (h n hn).2
theorem frameD_it {ns : List Int} (h : byteL ns) (hl : ns.length ≤ 64) : frameD ns = (frameI ns).map itD := by
  unfold frameD frameI
  rw [List.map_append, List.map_append, List.map_append, map_itD h, map_itD (checkL_byte ns)]
  show _ = [itD 256, itD ns.length] ++ _ ++ _ ++ [itD 257]
  rw [itD_int (show ns.length < 256 by omega)]; rfl
theorem toNat_260 {ns : List Int} (h : byteL ns) : ∀ n ∈ ns.map Int.toNat, n < 260 := fun n hn => by
  obtain ⟨i, hi, rfl⟩ := List.mem_map.mp hn
  have := h i hi
  omega
theorem frameI_260 {ns : List Int} (h : byteL ns) (hl : ns.length ≤ 64) : ∀ n ∈ frameI ns, n < 260 := fun n hn => by
  unfold frameI at hn
  rcases List.mem_append.mp hn with hn | hn
  · rcases List.mem_append.mp hn with hn | hn
    · rcases List.mem_append.mp hn with hn | hn
      · simp only [List.mem_cons, List.not_mem_nil, or_false] at hn
        rcases hn with e | e <;> subst e <;> omega
      · exact toNat_260 h n hn
    · exact toNat_260 (checkL_byte ns) n hn
  · rw [List.mem_singleton.mp hn]; decide
theorem frameI_len (ns : List Int) : (frameI ns).length = ns.length + 5 := by
  unfold frameI; simp only [List.length_append, List.length_map, List.length_cons, List.length_nil, checkL]; omega

-- needs: Sender_say frameit
theorem l_Sender_say_row {a : Addr} {p c : Int} {ns : List Int} {M : Mh} {Q : QZ} {E : ZX} (h : M a = some (sndF p c)) (hp : pm p) (hb : byteL ns) (hl : ns.length ≤ 64) (q : ∀ x M', M x = none → M' x = some (.lst ((sentB (frameI ns) p).map D.int)) → M' a = some (sndF (sentP (frameI ns) p) (c + (frameI ns).length)) → (∀ y, y ≠ x → y ≠ a → M' y = M y) → Q (.ref x) M') : z_Sender_say_row [.ref a, .lst (ns.map D.int)] M Q E := by
  have h' : M a = some (.ins "Sender" [("poise", .int p), ("count", .int c)]) := h
  show zFn _ zb_Sender_say_row _ _ _ _
  unfold zFn zb_Sender_say_row
  walk_at "y"
  refine l_framed hb hl ?_
  rw [frameD_it hb hl]
  walk_at "y"
  refine l_Sender_say h hp (frameI_260 hb hl) (by rw [frameI_len]; omega) ?_
  exact q
theorem l_Sender_say_row_bad {a : Addr} {p c : Int} {d : D} {M : Mh} {Q : QZ} {E : ZX} (hA : M a = some (sndF p c)) (h : known M d) (hk : ∀ ds, d = .lst ds → knowns M ds) (hr : ∀ p, d ≠ .ref p) (hb : isRow M d 64 = false) (q : E "BadRow" [] M) : z_Sender_say_row [.ref a, d] M Q E := by
  have h' : M a = some (.ins "Sender" [("poise", .int p), ("count", .int c)]) := hA
  show zFn _ zb_Sender_say_row _ _ _ _
  unfold zFn zb_Sender_say_row
  walk_at "y"
  refine l_framed_bad h hk hr hb ?_
  walk_at "y"
  exact q

-- needs: rowsD is_row
theorem badRow.isRow {M : Mh} {m : Int} {d : D} (h : badRow M m d) : isRow M d m = false := by
  obtain ⟨h1, h2, h3, h4⟩ := h
  cases d with
  | lst ds => exact h4
  | _ => rfl

-- needs: rowsD badrow
/-- how many parts a long row has, and these -/
def manyP (ns : List Int) : Nat := if 1 < (ns.length + 60) / 61 then (ns.length + 60) / 61 else 1
def partL (ns : List Int) (n : Int) (k : Nat) : List Int := n :: (k : Int) :: (manyP ns : Int) :: (ns.drop (61 * k)).take 61
def partsL (ns : List Int) (n : Int) : List (List Int) := (List.range (manyP ns)).map (partL ns n)

-- needs: partdef
theorem l_parted_bad {d x : D} {M : Mh} {Q : QZ} {E : ZX} (h : badRow M 610 d) (q : E "BadRow" [] M) : z_parted [d, x] M Q E := by
  show zFn _ zb_parted _ _ _ _
  unfold zFn zb_parted
  walk_at "z"
  refine l_look_row h.1 h.2.1 h.2.2.1 (fun e => by rw [show isRow M d (61 * 10) = false from h.isRow] at e; cases e) fun _ => ?_
  walk_at "z"
  exact q
theorem l_parted_num {x : D} {ns : List Int} {M : Mh} {Q : QZ} {E : ZX} (hb : byteL ns) (hn : ns.length ≤ 610) (hx : known M x) (hi : iw x 0 255 = false) (q : E "BadRow" [] M) : z_parted [rowD ns, x] M Q E := by
  show zFn _ zb_parted _ _ _ _
  unfold zFn zb_parted
  walk_at "z"
  refine l_look_row_ok hb (by omega) ?_
  walk_at "z"
  refine l_is_whole hx ?_
  rw [hi]
  walk_at "z"
  exact q
theorem l_partedM {n : Int} {ns : List Int} {M : Mh} {Q : QZ} {E : ZX} (hb : byteL ns) (hn : ns.length ≤ 610) (h0 : 0 ≤ n) (h1 : n ≤ 255) (q : ∀ p, M p = none → (enB true Q).rt (.ref p) (mup M p (.lst (rowsD (partsL ns n))))) : z_parted [rowD ns, .int n] M Q E := by
  show zFn _ zb_parted _ _ _ _
  unfold zFn zb_parted
  walk_at "z"
  refine l_look_row_ok hb (by omega) ?_
  walk_at "z"
  refine l_is_whole (known_int _) ?_
  rw [iw_true h0 h1]
  unfold rowD
  walk_at "z"
  have e : (if ((ns.length : Int) + 61 - 1) / 61 > 1 then ((ns.length : Int) + 61 - 1) / 61 else 1) = ((manyP ns : Nat) : Int) := by
    unfold manyP
    split <;> split <;> omega
  rw [e]
  have hm : manyP ns ≤ 10 := by unfold manyP; split <;> omega
  walk_at "z"
  rw [Int.toNat_natCast, rangeD_mapI]
  refine zLcL_mapm (g := fun k : Nat => rowD (partL ns n k)) (fun k hk Q hq => ?_) ?_
  · walk_at "z"
    rw [show (61 * (k : Int)) = ((61 * k : Nat) : Int) by omega, show (61 * ((k : Int) + 1)) = ((61 * k + 61 : Nat) : Int) by omega, cutD_mid, Nat.add_sub_cancel_left]
    refine i_addL (by rw [List.length_take, List.length_drop, List.length_map]; show 3 + _ ≤ 2 ^ 24; omega) ?_
    walk_at "z"
    rw [show rowD (partL ns n k) = .lst ([.int n, .int (k : Nat), .int (manyP ns : Nat)] ++ ((ns.map D.int).drop (61 * k)).take 61) by unfold rowD partL; rw [← List.map_drop, ← List.map_take]; rfl] at hq
    exact hq
  · walk_at "z"
    refine i_newT fun p hp => ?_
    have := q p hp
    unfold rowsD partsL at this
    rw [List.map_map] at this
    exact this
theorem l_parted {n : Int} {ns : List Int} {M : Mh} {Q : QZ} {E : ZX} (hb : byteL ns) (hn : ns.length ≤ 610) (h0 : 0 ≤ n) (h1 : n ≤ 255) (q : Q (.lst (rowsD (partsL ns n))) M) : z_parted [rowD ns, .int n] M Q E :=
  l_partedM hb hn h0 h1 fun p hp => i_rtN hp q

-- needs: rowsD
/-- a row, frozen or one that may change -/
def RowAt (M : Mh) (d : D) (fr : List Int) : Prop := d = rowD fr ∨ ∃ p, d = .ref p ∧ M p = some (.lst (fr.map D.int))
theorem RowAt.frz {M : Mh} (fr : List Int) : RowAt M (rowD fr) fr := .inl rfl
theorem RowAt.at {M : Mh} {p : Addr} {fr : List Int} (h : M p = some (.lst (fr.map D.int))) : RowAt M (.ref p) fr := .inr ⟨p, rfl, h⟩
theorem RowAt.keep {M M' : Mh} {d : D} {fr : List Int} (h : RowAt M d fr) (k : ∀ p, d = .ref p → M' p = M p) : RowAt M' d fr := by
  rcases h with e | ⟨p, e, hp⟩
  · exact .inl e
  · exact .inr ⟨p, e, (k p e).trans hp⟩
theorem i_ixA {M : Mh} {Q : QZ} {d v : D} {fr : List Int} {i : Int} (h : RowAt M d fr) (e : atI (fr.map D.int) i = some v) (q : Q v M) : dIx d (.int i) M Q := by
  rcases h with rfl | ⟨p, rfl, hp⟩
  · exact i_ixL e q
  · exact i_ixR hp e q
theorem i_lenA {M : Mh} {Q : QZ} {d : D} {fr : List Int} (h : RowAt M d fr) (q : Q (.int fr.length) M) : dLen [d] M Q := by
  rcases h with rfl | ⟨p, rfl, hp⟩
  · exact i_lenIs q
  · exact i_lenRs hp q
theorem i_listA {M : Mh} {Q : QZ} {n : Bool} {d : D} {fr : List Int} (h : RowAt M d fr) (q : zNew n (fr.map D.int) M Q) : dList n [d] M Q := by
  rcases h with rfl | ⟨p, rfl, hp⟩
  · exact i_listL q
  · exact i_listR hp q
theorem atI_k {ds : List D} {d : D} (k : Nat) (h : ds[k]? = some d) : atI ds (k : Int) = some d := atI_nat h
theorem atI_0 {a : Int} {r : List Int} : atI ((a :: r).map D.int) 0 = some (.int a) := atI_nat (j := 0) rfl
theorem atI_1 {a b : Int} {r : List Int} : atI ((a :: b :: r).map D.int) 1 = some (.int b) := atI_nat (j := 1) rfl
theorem atI_2 {a b c : Int} {r : List Int} : atI ((a :: b :: c :: r).map D.int) 2 = some (.int c) := atI_nat (j := 2) rfl

-- needs: rowat
/-- whether a row is a part -/
def partB (fr : List Int) : Bool := match fr with
  | _ :: k :: m :: _ => decide (k < m) && decide (m ≤ 10)
  | _ => false
/-- whether a part goes on with those begun -/
def goesB (ps : List (List Int)) (fr : List Int) : Bool := match ps with
  | [] => false
  | f :: _ => decide (fr.getD 1 0 = ps.length) && (decide (fr.getD 0 0 = f.getD 0 0) && decide (fr.getD 2 0 = f.getD 2 0))
def bodyL (ps : List (List Int)) : List Int := (ps.map fun p => p.drop 3).flatten
def doneL (ps : List (List Int)) (fr : List Int) : Option (Int × List Int) × List (List Int) :=
  if (ps.length : Int) < fr.getD 2 0 then (none, ps) else (some (fr.getD 0 0, bodyL ps), [])
/-- a joiner's step -/
def joinL (ps : List (List Int)) (fr : List Int) : Option (Int × List Int) × List (List Int) :=
  if partB fr then (if fr.getD 1 0 = 0 then doneL [fr] fr else if goesB ps fr then doneL (ps ++ [fr]) fr else (none, [])) else (none, [])
def joinD : Option (Int × List Int) → D
  | none => .non
  | some (n, r) => .tup [.int n, rowD r]
structure JnAt (M : Mh) (a w : Addr) (ps : List (List Int)) : Prop where
  me : M a = some (.ins "Joiner" [("some", .ref w)])
  w : M w = some (.lst (rowsD ps))
  len : ps.length ≤ 10
  ok : ∀ p ∈ ps, 3 ≤ p.length ∧ p.length ≤ 64
theorem partB_len {fr : List Int} (h : partB fr = true) : ∃ n k m r, fr = n :: k :: m :: r ∧ k < m ∧ m ≤ 10 := by
  match fr, h with
  | n :: k :: m :: r, h => 
    have := Bool.and_eq_true_iff.mp h
    exact ⟨n, k, m, r, rfl, of_decide_eq_true this.1, of_decide_eq_true this.2⟩

-- needs: rowat look_row is_row
theorem l_is_rowA {d : D} {ns : List Int} {most : Int} {M : Mh} {Q : QZ} {E : ZX} (e : RowAt M d ns) (h : byteL ns) (hl : (ns.length : Int) ≤ most) (q : Q (.bl true) M) : z_is_row [d, .int most] M Q E := by
  rcases e with rfl | ⟨p, rfl, hp⟩
  · exact l_is_row (known_lst _) (fun ds e => by cases e; exact knowns_ints ns) (fun p e => by cases e) (by rw [show isRow M (rowD ns) most = true from isRow_ok h hl]; exact q)
  · exact l_is_rowR hp h hl q
theorem l_look_rowA {d : D} {ns : List Int} {most : Int} {M : Mh} {Q : QZ} {E : ZX} (e : RowAt M d ns) (h : byteL ns) (hl : (ns.length : Int) ≤ most) (q : Q .non M) : z_look_row [d, .int most] M Q E := by
  rcases e with rfl | ⟨p, rfl, hp⟩
  · exact l_look_row_ok h hl q
  · exact l_look_rowR hp h hl q

-- needs: joinm look_rowA badrow
theorem l_is_part_bad {d : D} {M : Mh} {Q : QZ} {E : ZX} (h : badRow M 64 d) (q : Q (.bl false) M) : z_is_part [d] M Q E := by
  show zFn _ zb_is_part _ _ _ _
  unfold zFn zb_is_part
  walk_at "z"
  refine l_is_row h.1 h.2.1 h.2.2.1 ?_
  rw [show isRow M d 64 = false from h.isRow]
  walk_at "z"
  exact q
theorem l_is_part {d : D} {fr : List Int} {M : Mh} {Q : QZ} {E : ZX} (h : RowAt M d fr) (hb : byteL fr) (hl : fr.length ≤ 64) (q : Q (.bl (partB fr)) M) : z_is_part [d] M Q E := by
  show zFn _ zb_is_part _ _ _ _
  unfold zFn zb_is_part
  walk_at "z"
  refine l_is_rowA h hb (by omega) ?_
  walk_at "z"
  refine i_lenA h ?_
  walk_at "z"
  refine i_bd (fun e => ?_) fun e => ?_
  · walk_at "z"
    rw [show partB fr = false by
      match fr, e with
      | [], _ => rfl
      | [_], _ => rfl
      | [_, _], _ => rfl
      | _ :: _ :: _ :: r, e => exact absurd e (by simp only [List.length_cons]; omega)] at q
    exact q
  · match fr, e, q, h with
    | [], e, _, _ => exact absurd (by decide) e
    | [_], e, _, _ => exact absurd (by show (1 : Int) < 3; decide) e
    | [_, _], e, _, _ => exact absurd (by show (2 : Int) < 3; decide) e
    | n :: k :: m :: r, _, q, h =>
      walk_at "z"
      refine i_ixA h atI_1 ?_
      walk_at "z"
      refine i_ixA h atI_2 ?_
      walk_at "z"
      have q : Q (.bl (decide (k < m) && decide (m ≤ 10))) M := q
      refine i_bd (fun e => ?_) fun e => ?_
      · walk_at "z"
        rw [decide_eq_true e, Bool.true_and] at q
        exact q
      · walk_at "z"
        rw [decide_eq_false e, Bool.false_and] at q
        exact q

-- needs: joinm
theorem l_Joiner___init__ {a : Addr} {M : Mh} {Q : QZ} {E : ZX} (h : M a = some (.ins "Joiner" [])) (q : ∀ M' w, M w = none → JnAt M' a w [] → (∀ y, y ≠ a → y ≠ w → M' y = M y) → Q .non M') : z_Joiner___init__ [.ref a] M Q E := by
  show zFn _ zb_Joiner___init__ _ _ _ _
  unfold zFn zb_Joiner___init__
  walk_at "y"
  refine i_newT fun w hw => ?_
  have ne : a ≠ w := ne_of_m h hw
  walk_at "y"
  exact q _ w hw ⟨mup_same, (mup_ne (Ne.symm ne)).trans mup_same, Nat.zero_le _, fun _ h => nomatch h⟩ fun y h1 h2 => by rw [mup_ne h1, mup_ne h2]

-- needs: joinm
theorem l_Joiner_goes_on {a w : Addr} {ps : List (List Int)} {d : D} {n k m : Int} {r : List Int} {M : Mh} {Q : QZ} {E : ZX} (h : JnAt M a w ps) (hf : RowAt M d (n :: k :: m :: r)) (q : Q (.bl (goesB ps (n :: k :: m :: r))) M) : z_Joiner_goes_on [.ref a, d] M Q E := by
  obtain ⟨h1, h2, h3, h4⟩ := id h
  show zFn _ zb_Joiner_goes_on _ _ _ _
  unfold zFn zb_Joiner_goes_on
  walk_at "y"
  refine i_eqG (.at h2) (.refl _) (Pl_rows 62 ps) (.lflat rfl) ?_
  rw [eqD_nil]
  cases ps with
  | nil =>
    walk_at "y"
    exact q
  | cons f l =>
    obtain ⟨hf1, hf2⟩ := h4 f List.mem_cons_self
    match f, hf1, q, h2 with
    | n' :: k' :: m' :: r', _, q, h2 =>
      have q : Q (.bl (decide (k = ((n' :: k' :: m' :: r') :: l).length) && (decide (n = n') && decide (m = m')))) M := q
      walk_at "y"
      refine i_ixR h2 (d := rowD (n' :: k' :: m' :: r')) atI_head ?_
      walk_at "y"
      refine i_ixA hf atI_1 ?_
      walk_at "y"
      refine i_bd (fun e => ?_) fun e => ?_
      · walk_at "y"
        refine i_ixA hf atI_0 ?_
        walk_at "y"
        refine i_ixL atI_0 ?_
        walk_at "y"
        refine i_bd (fun e2 => ?_) fun e2 => ?_
        · walk_at "y"
          refine i_ixA hf atI_2 ?_
          walk_at "y"
          refine i_ixL atI_2 ?_
          walk_at "y"
          rw [decide_eq_true e, Bool.true_and, decide_eq_true e2, Bool.true_and] at q
          exact q
        · walk_at "y"
          rw [decide_eq_true e, Bool.true_and, decide_eq_false e2, Bool.false_and] at q
          exact q
      · walk_at "y"
        rw [decide_eq_false e, Bool.false_and] at q
        exact q

-- needs: joinm
theorem l_Joiner_begun {a w : Addr} {ps : List (List Int)} {M : Mh} {Q : QZ} {E : ZX} (h : JnAt M a w ps) (q : Q (.int ps.length) M) : z_Joiner_begun [.ref a] M Q E := by
  obtain ⟨_, _, _, _⟩ := id h
  show zFn _ zb_Joiner_begun _ _ _ _
  unfold zFn zb_Joiner_begun
  walk_at "y"
  exact q

-- needs: rowat rowsD rows
/-- the places of a lane, and its bytes -/
def laneN (n L i : Nat) : List Nat := (List.range ((n + L - 1 - i) / L)).map fun j => i + L * j
def laneL (row : List Int) (L i : Nat) : List Int := (laneN row.length L i).map fun k => row.getD k 0
def dealL (row : List Int) (L : Nat) (t : Int) : List (List Int) := (List.range L).map fun i => t :: laneL row L i
def okL (L : Nat) : Prop := L = 2 ∨ L = 3 ∨ L = 4
theorem laneN_lt {n L i k : Nat} (hL : okL L) (h : k ∈ laneN n L i) : k < n := by
  obtain ⟨j, hj, rfl⟩ := List.mem_map.mp h
  have hj := List.mem_range.mp hj
  rcases hL with e | e | e <;> subst e <;> omega
theorem laneN_filter {L i : Nat} (hL : okL L) (hi : i < L) : ∀ n : Nat, (List.range n).filter (fun k => decide (k % L = i)) = laneN n L i
  | 0 => by
    unfold laneN
    rw [show (0 + L - 1 - i) / L = 0 from by rcases hL with e | e | e <;> subst e <;> omega]
    rfl
  | n + 1 => by
    rw [List.range_succ, List.filter_append, laneN_filter hL hi n]
    unfold laneN
    by_cases h : n % L = i
    · have e1 : (n + 1 + L - 1 - i) / L = (n + L - 1 - i) / L + 1 := by rcases hL with e | e | e <;> subst e <;> omega
      have e2 : i + L * ((n + L - 1 - i) / L) = n := by rcases hL with e | e | e <;> subst e <;> omega
      rw [e1, List.range_succ, List.map_append, List.map_singleton, e2]
      simp [h]
    · have e1 : (n + 1 + L - 1 - i) / L = (n + L - 1 - i) / L := by rcases hL with e | e | e <;> subst e <;> omega
      rw [e1]
      simp [h]
theorem bounds_lane {n L i : Nat} (hL : 0 < L) : sliceBounds (some (i : Int)) none (some (L : Int)) n = (((min i n : Nat) : Int), (n : Int), (L : Int)) := by
  have h1 : (L : Int) > 0 := by omega
  have h2 : ¬ ((i : Int) < 0) := by omega
  unfold sliceBounds
  dsimp only [Option.getD_some]
  rw [if_neg h2, if_pos h1, if_pos h1]
  congr 1
  omega
theorem laneN_pick {n L i : Nat} (hL : okL L) (hi : i < L) : pickN n (some (i : Int)) none (some (L : Int)) = laneN n L i := by
  unfold pickN
  rw [bounds_lane (by rcases hL with e | e | e <;> omega)]
  unfold laneN sliceRange
  dsimp only
  have h1 : (L : Int) > 0 := by rcases hL with e | e | e <;> omega
  rw [if_pos h1]
  have e1 : (if ((min i n : Nat) : Int) < (n : Int) then ((n : Int) - ((min i n : Nat) : Int) + (L : Int) - 1) / (L : Int) else 0).toNat = (n + L - 1 - i) / L := by
    by_cases h : i < n
    · rw [if_pos (by omega), show min i n = i by omega]
      rcases hL with e | e | e <;> subst e <;> omega
    · rw [if_neg (by omega)]
      rcases hL with e | e | e <;> subst e <;> omega
  rw [e1]
  apply List.map_congr_left
  intro k hk
  have hk := List.mem_range.mp hk
  by_cases h : i < n
  · rw [show min i n = i by omega]
    rcases hL with e | e | e <;> subst e <;> omega
  · exfalso
    rcases hL with e | e | e <;> subst e <;> omega
theorem filterMap_get (row : List D) : ∀ l : List Nat, (∀ k ∈ l, k < row.length) → l.filterMap (row[·]?) = l.map fun k => row.getD k .non
  | [], _ => rfl
  | k :: l, h => by
    have hk := h k List.mem_cons_self
    rw [List.filterMap_cons_some (List.getElem?_eq_getElem hk), filterMap_get row l fun m hm => h m (List.mem_cons_of_mem _ hm), List.map_cons]
    congr 1
    rw [List.getD_eq_getElem?_getD, List.getElem?_eq_getElem hk]; rfl
theorem pickL_lane {row : List Int} {L i : Nat} (hL : okL L) (hi : i < L) : pickL (row.map D.int) (some (i : Int)) none (some (L : Int)) = (laneL row L i).map D.int := by
  unfold pickL
  rw [List.length_map, laneN_pick hL hi, filterMap_get _ _ fun k hk => by rw [List.length_map]; exact laneN_lt hL hk]
  unfold laneL
  rw [List.map_map]
  apply List.map_congr_left
  intro k hk
  have := laneN_lt hL hk
  show (row.map D.int).getD k .non = D.int (row.getD k 0)
  rw [List.getD_eq_getElem?_getD, List.getD_eq_getElem?_getD, List.getElem?_map, List.getElem?_eq_getElem this]; rfl
theorem laneL_len {row : List Int} {L i : Nat} : (laneL row L i).length = (row.length + L - 1 - i) / L := by unfold laneL laneN; rw [List.length_map, List.length_map, List.length_range]
theorem laneL_byte {row : List Int} {L i : Nat} (hL : okL L) (h : byteL row) : byteL (laneL row L i) := fun x hx => by
  obtain ⟨k, hk, rfl⟩ := List.mem_map.mp hx
  have := laneN_lt hL hk
  rw [List.getD_eq_getElem?_getD, List.getElem?_eq_getElem this]
  exact h _ (List.getElem_mem _)
/-- rows, some of which may change -/
inductive RAt (M : Mh) : List D → List (List Int) → Prop
  | nil : RAt M [] []
  | cons {d : D} {fr : List Int} {ds : List D} {rs : List (List Int)} : RowAt M d fr → RAt M ds rs → RAt M (d :: ds) (fr :: rs)
theorem RAt.rows {M : Mh} : ∀ rs : List (List Int), RAt M (rowsD rs) rs
  | [] => .nil
  | r :: rs => .cons (.inl rfl) (RAt.rows rs)
theorem RAt.len {M : Mh} {ds : List D} {rs : List (List Int)} (h : RAt M ds rs) : ds.length = rs.length := by
  induction h with
  | nil => rfl
  | cons _ _ ih => rw [List.length_cons, List.length_cons, ih]
theorem RAt.get {M : Mh} {ds : List D} {rs : List (List Int)} (h : RAt M ds rs) : ∀ {i : Nat} {fr : List Int}, rs[i]? = some fr → ∃ d, ds[i]? = some d ∧ RowAt M d fr := by
  induction h with
  | nil => intro i fr h; simp at h
  | cons hd _ ih =>
    intro i fr h
    cases i with
    | zero => simp at h; subst h; exact ⟨_, rfl, hd⟩
    | succ i =>
      rw [List.getElem?_cons_succ] at h
      obtain ⟨d, h1, h2⟩ := ih h
      exact ⟨d, by rw [List.getElem?_cons_succ]; exact h1, h2⟩
theorem zLcL_rat {g : List Int → D} {step : D → Mh → (Option D → Mh → Prop) → Prop} {k : List D → Mh → Prop} {M : Mh} : ∀ {ds acc : List D} {rs : List (List Int)}, RAt M ds rs → (∀ d fr, fr ∈ rs → RowAt M d fr → ∀ Q : Option D → Mh → Prop, Q (some (g fr)) M → step d M Q) → k (acc ++ rs.map g) M → zLcL none step k ds acc M
  | _, acc, _, .nil, _, h => by
    show k acc M
    simpa using h
  | _, acc, _, .cons hd ht, hs, h => by
    show step _ M _
    refine hs _ _ List.mem_cons_self hd _ ?_
    show zLcL none step k _ (acc ++ [g _]) M
    exact zLcL_rat ht (fun d fr hm => hs d fr (List.mem_cons_of_mem _ hm)) (by simpa using h)

-- needs: lanedef
theorem l_look_many {L : Nat} {M : Mh} {Q : QZ} {E : ZX} (h : okL L) (q : Q .non M) : z_look_many [.int (L : Nat)] M Q E := by
  show zFn _ zb_look_many _ _ _ _
  unfold zFn zb_look_many
  walk_at "z"
  refine l_is_whole (known_int _) ?_
  rw [iw_true (by rcases h with e | e | e <;> omega) (by rcases h with e | e | e <;> omega)]
  walk_at "z"
  exact q
theorem l_look_many_bad {d : D} {M : Mh} {Q : QZ} {E : ZX} (h : known M d) (hb : iw d 2 4 = false) (q : E "BadLane" [] M) : z_look_many [d] M Q E := by
  show zFn _ zb_look_many _ _ _ _
  unfold zFn zb_look_many
  walk_at "z"
  refine l_is_whole h ?_
  rw [hb]
  walk_at "z"
  exact q

-- needs: lanedef look_many badrow
theorem l_dealt_many {d x : D} {y : D} {M : Mh} {Q : QZ} {E : ZX} (h : known M x) (hb : iw x 2 4 = false) (q : E "BadLane" [] M) : z_dealt [d, x, y] M Q E := by
  show zFn _ zb_dealt _ _ _ _
  unfold zFn zb_dealt
  walk_at "z"
  refine l_look_many_bad h hb ?_
  walk_at "z"
  exact q
theorem l_dealt_row {d y : D} {L : Nat} {M : Mh} {Q : QZ} {E : ZX} (hL : okL L) (h : badRow M (63 * L) d) (q : E "BadRow" [] M) : z_dealt [d, .int (L : Nat), y] M Q E := by
  show zFn _ zb_dealt _ _ _ _
  unfold zFn zb_dealt
  walk_at "z"
  refine l_look_many hL ?_
  walk_at "z"
  refine l_look_row h.1 h.2.1 h.2.2.1 (fun e => by rw [show isRow M d ((64 - 1) * (L : Int)) = false from h.isRow] at e; cases e) fun _ => ?_
  walk_at "z"
  exact q
theorem l_dealt_turn {row : List Int} {y : D} {L : Nat} {M : Mh} {Q : QZ} {E : ZX} (hL : okL L) (hb : byteL row) (hl : row.length ≤ 63 * L) (hy : known M y) (hi : iw y 0 255 = false) (q : E "BadRow" [] M) : z_dealt [rowD row, .int (L : Nat), y] M Q E := by
  show zFn _ zb_dealt _ _ _ _
  unfold zFn zb_dealt
  walk_at "z"
  refine l_look_many hL ?_
  walk_at "z"
  refine l_look_row_ok hb (by omega) ?_
  walk_at "z"
  refine l_is_whole hy ?_
  rw [show iw y 0 (256 - 1) = false from hi]
  walk_at "z"
  exact q
/-- what is dealt; mu_ tells which rows are to be changed -/
theorem l_dealtG {row : List Int} {t : Int} {L : Nat} {M : Mh} {Q : QZ} {E : ZX} (mu_ : Nat → Bool) (hL : okL L) (hb : byteL row) (hl : row.length ≤ 63 * L) (h0 : 0 ≤ t) (h1 : t ≤ 255)
    (q : ∀ M' ds, (∀ y o, M y = some o → M' y = some o) → RAt M' ds (dealL row L t) → (∀ i : Nat, i < L → ∀ d, ds[i]? = some d → (mu_ i = false → d = rowD (t :: laneL row L i)) ∧ (mu_ i = true → ∃ p, d = .ref p ∧ M p = none ∧ ∀ j d', j < L → j ≠ i → ds[j]? = some d' → d' ≠ .ref p)) → (∀ y, M' y ≠ none → M y = none → ∃ i : Nat, ds[i]? = some (.ref y)) → Q (.lst ds) M') : z_dealt [rowD row, .int (L : Nat), .int t] M Q E := by
  show zFn _ zb_dealt _ _ _ _
  unfold zFn zb_dealt
  walk_at "z"
  refine l_look_many hL ?_
  walk_at "z"
  refine l_look_row_ok hb (by omega) ?_
  walk_at "z"
  refine l_is_whole (known_int _) ?_
  rw [iw_true h0 (by omega)]
  unfold rowD
  have hL4 : L ≤ 4 := by rcases hL with e | e | e <;> omega
  walk_at "z"
  rw [Int.toNat_natCast, rangeD_mapI]
  have elt : ∀ (i : Nat) (b : Bool) (M' : Mh) (Q : QZ), i < L → zNew b ((t :: laneL row L i).map D.int) M' Q → z2 (dAdd b) (zLst false (zCons (zVar 2) zNil)) (zSlS false (zVar 0) (zPart (zVar 3)) zNoPart (zPart (zVar 1))) [some (.lst (row.map D.int)), some (.int (L : Nat)), some (.int t), some (.int (i : Nat))] M' Q := by
    intro i b M' Q hi hq
    walk_at "z"
    refine ⟨fun z => by injection z with z; omega, ?_⟩
    refine i_zLl ?_
    rw [pickL_lane hL hi]
    refine ⟨by rw [List.length_map, laneL_len, sizeLine_eq]; rcases hL with e | e | e <;> subst e <;> omega, ?_⟩
    walk_at "z"
    refine i_addIs (a := [t]) (by rw [laneL_len]; show 1 + _ ≤ _; rcases hL with e | e | e <;> subst e <;> omega) ?_
    exact hq
  refine zLcL_ind (fun l acc M' => ∃ j : Nat, j ≤ L ∧ l = ((List.range L).drop j).map (fun k : Nat => D.int (k : Nat)) ∧ (∀ y o, M y = some o → M' y = some o) ∧ RAt M' acc ((dealL row L t).take j) ∧ (∀ i : Nat, i < j → ∀ d, acc[i]? = some d → (mu_ i = false → d = rowD (t :: laneL row L i)) ∧ (mu_ i = true → ∃ p, d = .ref p ∧ M p = none ∧ ∀ j' d', j' < j → j' ≠ i → acc[j']? = some d' → d' ≠ .ref p)) ∧ (∀ y, M' y ≠ none → M y = none → ∃ i : Nat, acc[i]? = some (.ref y)) ∧ acc.length = j) ?_ ?_
    ⟨0, Nat.zero_le _, rfl, fun _ _ h => h, .nil, (fun i h => absurd h (Nat.not_lt_zero i)), (fun y h1 h2 => absurd h2 h1), rfl⟩
  · rintro acc M' ⟨j, hj, e1, hk, hR, hm, hn, hal⟩
    have hj2 : j = L := by
      have := congrArg List.length e1
      rw [List.length_map, List.length_drop, List.length_range, List.length_nil] at this; omega
    subst hj2
    have hDl : (dealL row j t).length = j := by unfold dealL; rw [List.length_map, List.length_range]
    rw [show (dealL row j t).take j = dealL row j t by rw [List.take_of_length_le (by omega)]] at hR
    walk_at "z"
    refine i_newT fun p hp => i_rtN hp ?_
    exact q M' acc hk hR hm hn
  · rintro d l acc M' q2 ⟨j, hj, e1, hk, hR, hm, hn, hal⟩ h1 h2
    have hj2 : j < L := by
      have := congrArg List.length e1
      rw [List.length_map, List.length_drop, List.length_range, List.length_cons] at this; omega
    have e2 : (List.range L).drop j = j :: (List.range L).drop (j + 1) := by
      rw [List.drop_eq_getElem_cons (by rw [List.length_range]; exact hj2)]
      congr 1
      rw [List.getElem_range]
    rw [e2] at e1
    injection e1 with e3 e4
    subst e3 e4
    have eT : (dealL row L t).take (j + 1) = (dealL row L t).take j ++ [t :: laneL row L j] := by
      rw [List.take_add_one]
      congr 1
      unfold dealL
      rw [List.getElem?_map, List.getElem?_range hj2]; rfl
    walk_at "z"
    have rapp : ∀ {M1 : Mh} {as : List D} {rs : List (List Int)} {d1 : D} {fr : List Int}, RAt M1 as rs → RowAt M1 d1 fr → RAt M1 (as ++ [d1]) (rs ++ [fr]) := by
      intro M1 as rs d1 fr h hd
      induction h with
      | nil => exact .cons hd .nil
      | cons h0 _ ih => exact .cons h0 ih
    have aget : ∀ {d1 : D} {i : Nat} {d : D}, (acc ++ [d1])[i]? = some d → (i < j ∧ acc[i]? = some d) ∨ (i = j ∧ d = d1) := by
      intro d1 i d h
      by_cases hi : i < acc.length
      · rw [List.getElem?_append_left hi] at h; exact .inl ⟨by omega, h⟩
      · rw [List.getElem?_append_right (by omega)] at h
        have : i - acc.length = 0 := by
          rcases Nat.eq_zero_or_pos (i - acc.length) with e | e
          · exact e
          · rw [List.getElem?_eq_none (by simp; omega)] at h; cases h
        rw [this] at h
        simp at h
        exact .inr ⟨by omega, h.symm⟩
    cases em : mu_ j with
    | false =>
      refine i_anyF (elt j false _ _ hj2 ?_)
      walk_at "z"
      refine h2 _ _ ⟨j + 1, by omega, rfl, hk, by rw [eT]; exact rapp hR (.inl rfl), fun i hi d hd => ?_, fun y h3 h4 => ?_, by rw [List.length_append, hal]; rfl⟩
      · rcases aget hd with ⟨hi2, hd⟩ | ⟨rfl, rfl⟩
        · obtain ⟨a1, a2⟩ := hm i hi2 d hd
          refine ⟨a1, fun e => ?_⟩
          obtain ⟨p, b1, b2, b3⟩ := a2 e
          refine ⟨p, b1, b2, fun j' d' c1 c2 c3 => ?_⟩
          rcases aget c3 with ⟨c4, c5⟩ | ⟨_, rfl⟩
          · exact b3 j' d' c4 c2 c5
          · intro z; cases z
        · exact ⟨fun _ => rfl, fun e => by rw [em] at e; cases e⟩
      · obtain ⟨i, hi⟩ := hn y h3 h4
        exact ⟨i, by rw [List.getElem?_append_left (by rw [List.getElem?_eq_some_iff] at hi; exact hi.1)]; exact hi⟩
    | true =>
      refine i_anyT (elt j true _ _ hj2 ?_)
      refine i_newT fun p hp => ?_
      walk_at "z"
      have hpM : M p = none := by
        cases e : M p with
        | none => rfl
        | some o => rw [hk p o e] at hp; cases hp
      refine h2 _ _ ⟨j + 1, by omega, rfl, fun y o hy => mup_get hp (hk y o hy), ?_, fun i hi d hd => ?_, fun y h3 h4 => ?_, by rw [List.length_append, hal]; rfl⟩
      · rw [eT]
        refine rapp ?_ (.at mup_same)
        have kp : ∀ {as : List D} {rs : List (List Int)}, RAt M' as rs → RAt (mup M' p (.lst ((t :: laneL row L j).map D.int))) as rs := by
          intro as rs h
          induction h with
          | nil => exact .nil
          | cons h0 _ ih => exact .cons (by
              rcases h0 with e | ⟨p', e, hp'⟩
              · exact .inl e
              · exact .inr ⟨p', e, mup_get hp hp'⟩) ih
        exact kp hR
      · rcases aget hd with ⟨hi2, hd⟩ | ⟨rfl, rfl⟩
        · obtain ⟨a1, a2⟩ := hm i hi2 d hd
          refine ⟨a1, fun e => ?_⟩
          obtain ⟨p', b1, b2, b3⟩ := a2 e
          refine ⟨p', b1, b2, fun j' d' c1 c2 c3 => ?_⟩
          rcases aget c3 with ⟨c4, c5⟩ | ⟨_, rfl⟩
          · exact b3 j' d' c4 c2 c5
          · intro z
            injection z with z
            subst z
            obtain ⟨fr, hf⟩ : ∃ fr, ((dealL row L t).take j)[i]? = some fr := by
              have : i < ((dealL row L t).take j).length := by rw [← hR.len]; omega
              exact ⟨_, List.getElem?_eq_getElem this⟩
            obtain ⟨d2, e5, e6⟩ := hR.get hf
            rw [hd] at e5
            cases e5
            subst b1
            rcases e6 with e7 | ⟨p2, e7, e8⟩
            · cases e7
            · cases e7; rw [hp] at e8; cases e8
        · refine ⟨(fun e => by rw [em] at e; cases e), fun _ => ⟨p, rfl, hpM, fun j' d' c1 c2 c3 => ?_⟩⟩
          rcases aget c3 with ⟨c4, c5⟩ | ⟨c4, _⟩
          · intro z
            subst z
            obtain ⟨fr, hf⟩ : ∃ fr, ((dealL row L t).take i)[j']? = some fr := by
              have : j' < ((dealL row L t).take i).length := by rw [← hR.len]; omega
              exact ⟨_, List.getElem?_eq_getElem this⟩
            obtain ⟨d2, e5, e6⟩ := hR.get hf
            rw [c5] at e5
            cases e5
            rcases e6 with e7 | ⟨p2, e7, e8⟩
            · cases e7
            · cases e7; rw [hp] at e8; cases e8
          · exact absurd c4 c2
      · by_cases hy : y = p
        · subst hy
          refine ⟨acc.length, by rw [List.getElem?_append_right (Nat.le_refl _)]; simp⟩
        · rw [mup_ne hy] at h3
          obtain ⟨i, hi⟩ := hn y h3 h4
          exact ⟨i, by rw [List.getElem?_append_left (by rw [List.getElem?_eq_some_iff] at hi; exact hi.1)]; exact hi⟩

-- needs: lanedef
theorem sorted_one : ∀ {a b : List Int}, a.Perm b → a.Pairwise (· ≥ ·) → b.Pairwise (· ≥ ·) → a = b
  | [], b, h, _, _ => by rw [h.nil_eq]
  | x :: a, [], h, _, _ => by have := h.length_eq; simp at this
  | x :: a, y :: b, h, ha, hb => by
    have hx : x ∈ y :: b := h.subset List.mem_cons_self
    have hy : y ∈ x :: a := h.symm.subset List.mem_cons_self
    have e : x = y := by
      have h1 : y ≥ x := by
        rcases List.mem_cons.mp hx with e | hx
        · omega
        · exact (List.pairwise_cons.mp hb).1 x hx
      have h2 : x ≥ y := by
        rcases List.mem_cons.mp hy with e | hy
        · omega
        · exact (List.pairwise_cons.mp ha).1 y hy
      omega
    subst e
    rw [sorted_one (List.Perm.cons_inv h) (List.pairwise_cons.mp ha).2 (List.pairwise_cons.mp hb).2]
def lensI (rs : List (List Int)) : List Int := rs.map fun r => (r.length : Int)
instance (l : List Int) : Decidable (l.Pairwise (· ≥ ·)) := inferInstance
def fitsB (rs : List (List Int)) : Bool := decide ((lensI rs).Pairwise (· ≥ ·)) && decide ((lensI rs).headD 0 - (lensI rs).getLastD 0 < 2)
theorem i_sortedR {b : Bool} {ns : List Int} {M : Mh} {Q : QZ} (h : ∀ ns' : List Int, ns'.Perm ns → ns'.Pairwise (· ≥ ·) → zNew b (ns'.map D.int) M Q) : dSortedR b [.lst (ns.map D.int)] M Q := ⟨ns, rfl, h⟩
theorem l_fits {ds : List D} {rs : List (List Int)} {M : Mh} {Q : QZ} {E : ZX} (h : RAt M ds rs) (hn : rs ≠ []) (hl : rs.length ≤ 1000) (q : Q (.bl (fitsB rs)) M) : z_fits [.lst ds] M Q E := by
  show zFn _ zb_fits _ _ _ _
  unfold zFn zb_fits
  walk_at "z"
  refine zLcL_rat (g := fun r => .int r.length) h (fun d fr _ hd Q hq => ?_) ?_
  · walk_at "z"
    exact i_lenA hd hq
  walk_at "z"
  rw [List.nil_append, show rs.map (fun r => D.int r.length) = (lensI rs).map D.int by unfold lensI; rw [List.map_map]; rfl]
  refine i_sortedR fun ns' hp hs => ?_
  walk_at "z"
  refine i_eq (.ints _) (.ints _) ?_
  rw [show eqD (.lst ((lensI rs).map D.int)) (.lst (ns'.map D.int)) = decide (lensI rs = ns') from eqDs_ints]
  have hne : lensI rs ≠ [] := by unfold lensI; simpa using hn
  by_cases e : (lensI rs).Pairwise (· ≥ ·)
  · rw [decide_eq_true (sorted_one hp hs e).symm]
    unfold fitsB at q
    rw [decide_eq_true e, Bool.true_and] at q
    walk_at "z"
    refine i_ixL (d := .int ((lensI rs).headD 0)) ?_ ?_
    · cases e5 : lensI rs with
      | nil => exact absurd e5 hne
      | cons a l => exact atI_head
    walk_at "z"
    refine i_ixL (atI_last hne) ?_
    walk_at "z"
    exact q
  · rw [decide_eq_false (fun z => e (by rw [z]; exact hs))]
    unfold fitsB at q
    rw [decide_eq_false e, Bool.false_and] at q
    walk_at "z"
    exact q

-- needs: fits look_rowA badrow lanedef
def totL (rs : List (List Int)) : Int := (rs.map fun r => (r.length : Int) - 1).sum
def gathL (rs : List (List Int)) : List Int := (List.range (totL rs).toNat).map fun k => (rs.getD (k % rs.length) []).getD (1 + k / rs.length) 0
/-- rows that go together -/
structure GoOk (rs : List (List Int)) (t : Int) : Prop where
  n : okL rs.length
  b : ∀ r ∈ rs, byteL r ∧ r.length ≤ 64 ∧ r.head? = some t
  f : fitsB rs = true
theorem gath_in {rs : List (List Int)} {t : Int} (h : GoOk rs t) {k : Nat} (hk : k < (totL rs).toNat) : 0 ≤ totL rs ∧ totL rs ≤ 1000 ∧ ∃ fr, rs[k % rs.length]? = some fr ∧ 1 + k / rs.length < fr.length := by
  obtain ⟨hn, hb, hf⟩ := h
  have hf2 := Bool.and_eq_true_iff.mp hf
  have p1 := of_decide_eq_true hf2.1
  have p2 := of_decide_eq_true hf2.2
  have hl : ∀ r ∈ rs, 1 ≤ r.length := fun r hr => by
    have := (hb r hr).2.2
    cases r with
    | nil => cases this
    | cons a l => simp
  match rs, hn, hb, p1, p2, hl, hk with
  | [a, b], _, hb, p1, p2, hl, hk =>
    have h1 := hl a (by simp)
    have h2 := hl b (by simp)
    have h1' := (hb a (by simp)).2.1
    have h2' := (hb b (by simp)).2.1
    simp [lensI] at p1 p2
    simp [totL] at hk ⊢
    refine ⟨by omega, by omega, ?_⟩
    rcases (show k % 2 = 0 ∨ k % 2 = 1 by omega) with e | e <;> rw [e]
    · exact ⟨a, rfl, by omega⟩
    · exact ⟨b, rfl, by omega⟩
  | [a, b, c], _, hb, p1, p2, hl, hk =>
    have h1 := hl a (by simp)
    have h2 := hl b (by simp)
    have h3 := hl c (by simp)
    have h1' := (hb a (by simp)).2.1
    have h2' := (hb b (by simp)).2.1
    have h3' := (hb c (by simp)).2.1
    simp [lensI] at p1 p2
    simp [totL] at hk ⊢
    refine ⟨by omega, by omega, ?_⟩
    rcases (show k % 3 = 0 ∨ k % 3 = 1 ∨ k % 3 = 2 by omega) with e | e | e <;> rw [e]
    · exact ⟨a, rfl, by omega⟩
    · exact ⟨b, rfl, by omega⟩
    · exact ⟨c, rfl, by omega⟩
  | [a, b, c, d], _, hb, p1, p2, hl, hk =>
    have h1 := hl a (by simp)
    have h2 := hl b (by simp)
    have h3 := hl c (by simp)
    have h4 := hl d (by simp)
    have h1' := (hb a (by simp)).2.1
    have h2' := (hb b (by simp)).2.1
    have h3' := (hb c (by simp)).2.1
    have h4' := (hb d (by simp)).2.1
    simp [lensI] at p1 p2
    simp [totL] at hk ⊢
    refine ⟨by omega, by omega, ?_⟩
    rcases (show k % 4 = 0 ∨ k % 4 = 1 ∨ k % 4 = 2 ∨ k % 4 = 3 by omega) with e | e | e | e <;> rw [e]
    · exact ⟨a, rfl, by omega⟩
    · exact ⟨b, rfl, by omega⟩
    · exact ⟨c, rfl, by omega⟩
    · exact ⟨d, rfl, by omega⟩
  | [], hn, _, _, _, _, _ => rcases hn with e | e | e <;> cases e
  | [_], hn, _, _, _, _, _ => rcases hn with e | e | e <;> cases e
  | _ :: _ :: _ :: _ :: _ :: _, hn, _, _, _, _, _ => rcases hn with e | e | e <;> simp at e
theorem i_neNilA {M : Mh} {Q : QZ} {d : D} {fr : List Int} (h : RowAt M d fr) (q : Q (.bl (!decide (fr = []))) M) : dNe d (.lst []) M Q := by
  have e : eqD (.lst (fr.map D.int)) (.lst []) = decide (fr = []) := by rw [eqD_nil]; cases fr <;> rfl
  rcases h with rfl | ⟨p, rfl, hp⟩
  · exact i_ne (.ints _) (.lflat rfl) (by unfold rowD; rw [e]; exact q)
  · exact i_neR hp (.ints _) (.lflat rfl) (by rw [e]; exact q)
theorem atI_headL {t : Int} : ∀ {fr : List Int}, fr.head? = some t → atI (fr.map D.int) 0 = some (.int t)
  | [], h => by cases h
  | a :: l, h => by cases h; exact atI_head
/-- mu_: whether the row told may change -/
theorem l_gatheredG {ds : List D} {rs : List (List Int)} {t : Int} {M : Mh} {Q : QZ} {E : ZX} (mu_ : Bool) (hR : RAt M ds rs) (G : GoOk rs t) (q0 : mu_ = false → Q (.tup [.int t, rowD (gathL rs)]) M) (q1 : mu_ = true → ∀ p, M p = none → Q (.tup [.int t, .ref p]) (mup M p (.lst ((gathL rs).map D.int)))) : z_gathered [.lst ds] M Q E := by
  have hlen := hR.len
  have hn := G.n
  have h2 : 2 ≤ rs.length := by rcases hn with e | e | e <;> omega
  have h4 : rs.length ≤ 4 := by rcases hn with e | e | e <;> omega
  obtain ⟨r0, hr0⟩ : ∃ r0, rs[0]? = some r0 := ⟨_, List.getElem?_eq_getElem (by omega)⟩
  obtain ⟨d0, hd0, hd0R⟩ := hR.get hr0
  have hat0 : atI ds 0 = some d0 := atI_nat (j := 0) hd0
  have hb0 := G.b r0 (List.mem_of_getElem? hr0)
  show zFn _ zb_gathered _ _ _ _
  unfold zFn zb_gathered
  walk_at "z"
  refine zLcL_rat (g := fun r => .bl true) hR (fun d fr hfr hd Q hq => ?_) ?_
  · obtain ⟨b1, b2, b3⟩ := G.b fr hfr
    walk_at "z"
    refine l_is_rowA hd b1 (by omega) ?_
    walk_at "z"
    refine i_neNilA hd ?_
    rw [decide_eq_false (fun z => by rw [z] at b3; cases b3)]
    exact hq
  walk_at "z"
  refine i_allE (bs := rs.map fun _ => true) (by simp [Function.comp_def]) ?_
  walk_at "z"
  rw [show (rs.map fun _ => true).all id = true by simp]
  walk_at "z"
  refine l_fits hR (fun z => by rw [z] at h2; simp at h2) (by omega) ?_
  rw [G.f]
  walk_at "z"
  refine zLcL_rat (g := fun r => .bl true) hR (fun d fr hfr hd Q hq => ?_) ?_
  · obtain ⟨b1, b2, b3⟩ := G.b fr hfr
    walk_at "z"
    refine i_ixA hd (atI_headL b3) ?_
    walk_at "z"
    refine i_ixL hat0 ?_
    walk_at "z"
    refine i_ixA hd0R (atI_headL hb0.2.2) ?_
    walk_at "z"
    rw [decide_eq_true rfl]
    exact hq
  walk_at "z"
  refine i_allE (bs := rs.map fun _ => true) (by simp [Function.comp_def]) ?_
  walk_at "z"
  rw [show (rs.map fun _ => true).all id = true by simp]
  walk_at "z"
  refine zLcL_rat (g := fun r => .int ((r.length : Int) - 1)) hR (fun d fr hfr hd Q hq => ?_) ?_
  · walk_at "z"
    refine i_lenA hd ?_
    walk_at "z"
    exact hq
  walk_at "z"
  refine i_sumE (ns := rs.map fun r => (r.length : Int) - 1) (by rw [List.nil_append, List.map_map]; rfl) ?_
  rw [show (rs.map fun r => (r.length : Int) - 1).sum = totL rs from rfl]
  walk_at "z"
  refine i_ixL hat0 ?_
  walk_at "z"
  refine i_ixA hd0R (atI_headL hb0.2.2) ?_
  walk_at "z"
  have htot : -(2 ^ 62) ≤ totL rs ∧ totL rs ≤ 16777216 := by
    by_cases hz : 0 < (totL rs).toNat
    · have := gath_in G hz; omega
    · have h0 : ∀ r ∈ rs, 1 ≤ r.length := fun r hr => by
        have := (G.b r hr).2.2
        cases r with
        | nil => cases this
        | cons a l => simp
      have : ∀ l : List (List Int), (∀ r ∈ l, 1 ≤ r.length) → 0 ≤ totL l := by
        intro l
        induction l with
        | nil => intro _; exact Int.le_refl _
        | cons x l ih =>
          intro hx
          have h1 := ih fun r hr => hx r (List.mem_cons_of_mem _ hr)
          have h2 := hx x List.mem_cons_self
          show 0 ≤ ((x.length : Int) - 1) + totL l
          omega
      have := this rs h0
      omega
  have stp : ∀ (b : Bool) (Q : QZ), zNew b ((gathL rs).map D.int) M Q → zLc b (ziRange (zCons (zVar 1) zNil)) (zgName 3) zYes (z2 dIx (z2 dIx (zVar 0) (z2 dMod (zVar 3) (zCB dLen (zCons (zVar 0) zNil)))) (z2 (dAdd false) (zC (.int 1)) (z2 dDiv (zVar 3) (zCB dLen (zCons (zVar 0) zNil))))) [3] [some (.lst ds), some (.int (totL rs)), none, none] M Q := by
    intro b Q hq
    walk_at "z"
    rw [rangeD_mapI]
    refine zLcL_mapm (g := fun k : Nat => .int ((rs.getD (k % rs.length) []).getD (1 + k / rs.length) 0)) (fun k hk Q hq => ?_) ?_
    · obtain ⟨_, _, fr, hf, hi⟩ := gath_in G (List.mem_range.mp hk)
      obtain ⟨d, hd, hdR⟩ := hR.get hf
      walk_at "z"
      rw [hlen]
      refine i_ixL (d := d) (by rw [show ((k : Int) % (rs.length : Int)) = ((k % rs.length : Nat) : Int) by omega]; exact atI_nat hd) ?_
      walk_at "z"
      rw [hlen]
      refine i_ixA hdR (v := .int (fr.getD (1 + k / rs.length) 0)) (by
        rw [show ((1 : Int) + (k : Int) / (rs.length : Int)) = ((1 + k / rs.length : Nat) : Int) by omega]
        refine atI_nat ?_
        rw [List.getElem?_map, List.getD_eq_getElem?_getD, List.getElem?_eq_getElem hi]; rfl) ?_
      rw [show rs.getD (k % rs.length) [] = fr by rw [List.getD_eq_getElem?_getD, hf]; rfl] at hq
      exact hq
    · walk_at "z"
      rw [List.nil_append, show (List.range (totL rs).toNat).map (fun k : Nat => D.int ((rs.getD (k % rs.length) []).getD (1 + k / rs.length) 0)) = (gathL rs).map D.int by unfold gathL; rw [List.map_map]; rfl]
      exact hq
  cases mu_ with
  | false =>
    refine i_anyF (stp false _ ?_)
    walk_at "z"
    exact q0 rfl
  | true =>
    refine i_anyT (stp true _ ?_)
    refine i_newT fun p hp => ?_
    walk_at "z"
    exact q1 rfl p hp
theorem l_gathered {ds : List D} {rs : List (List Int)} {t : Int} {M : Mh} {Q : QZ} {E : ZX} (hR : RAt M ds rs) (G : GoOk rs t) (q0 : Q (.tup [.int t, rowD (gathL rs)]) M) : z_gathered [.lst ds] M Q E := l_gatheredG false hR G (fun _ => q0) fun z => nomatch z

-- needs: lanedef gathered
theorem dealL_len (row : List Int) (L : Nat) (t : Int) : (dealL row L t).length = L := by unfold dealL; rw [List.length_map, List.length_range]
theorem dealL_get {row : List Int} {L i : Nat} {t : Int} (h : i < L) : (dealL row L t)[i]? = some (t :: laneL row L i) := by
  unfold dealL
  rw [List.getElem?_map, List.getElem?_range h]; rfl
theorem dealL_go {row : List Int} {L : Nat} {t : Int} (hL : okL L) (hb : byteL row) (hl : row.length ≤ 63 * L) (h0 : 0 ≤ t) (h1 : t ≤ 255) : GoOk (dealL row L t) t := by
  refine ⟨by rw [dealL_len]; exact hL, fun r hr => ?_, ?_⟩
  · obtain ⟨i, hi, rfl⟩ := List.mem_map.mp hr
    have hi := List.mem_range.mp hi
    refine ⟨fun x hx => ?_, ?_, rfl⟩
    · rcases List.mem_cons.mp hx with e | hx
      · subst e; exact ⟨h0, h1⟩
      · exact laneL_byte hL hb x hx
    · rw [List.length_cons, laneL_len]
      rcases hL with e | e | e <;> subst e <;> omega
  · unfold fitsB
    have e : lensI (dealL row L t) = (List.range L).map fun i => (((row.length + L - 1 - i) / L + 1 : Nat) : Int) := by
      unfold lensI dealL
      rw [List.map_map]
      apply List.map_congr_left
      intro i _
      show (((t :: laneL row L i).length : Nat) : Int) = _
      rw [List.length_cons, laneL_len]
    rw [e]
    rcases hL with e | e | e <;> subst e
    · simp [List.range_succ]; omega
    · simp [List.range_succ]; omega
    · simp [List.range_succ]; omega
theorem totL_deal {row : List Int} {L : Nat} {t : Int} (hL : okL L) : totL (dealL row L t) = row.length := by
  have e : (dealL row L t).map (fun r => (r.length : Int) - 1) = (List.range L).map fun i => (((row.length + L - 1 - i) / L : Nat) : Int) := by
    unfold dealL
    rw [List.map_map]
    apply List.map_congr_left
    intro i _
    show (((t :: laneL row L i).length : Nat) : Int) - 1 = _
    rw [List.length_cons, laneL_len]; omega
  unfold totL
  rw [e]
  rcases hL with e | e | e <;> subst e
  · simp [List.range_succ]; omega
  · simp [List.range_succ]; omega
  · simp [List.range_succ]; omega
theorem gath_deal {row : List Int} {L : Nat} {t : Int} (hL : okL L) : gathL (dealL row L t) = row := by
  unfold gathL
  rw [totL_deal hL, Int.toNat_natCast, dealL_len]
  apply List.ext_getElem?
  intro k
  by_cases hk : k < row.length
  · rw [List.getElem?_map, List.getElem?_range hk, List.getElem?_eq_getElem hk]
    show some (((dealL row L t).getD (k % L) []).getD (1 + k / L) 0) = _
    have hkl : k % L < L := Nat.mod_lt _ (by rcases hL with e | e | e <;> omega)
    rw [show (dealL row L t).getD (k % L) [] = t :: laneL row L (k % L) by rw [List.getD_eq_getElem?_getD, dealL_get hkl]; rfl]
    rw [show (t :: laneL row L (k % L)).getD (1 + k / L) 0 = (laneL row L (k % L)).getD (k / L) 0 by rw [Nat.add_comm 1]; rfl]
    have hj : k / L < (row.length + L - 1 - k % L) / L := by rcases hL with e | e | e <;> subst e <;> omega
    unfold laneL laneN
    rw [List.getD_eq_getElem?_getD, List.getElem?_map, List.getElem?_map, List.getElem?_range hj]
    show some (row.getD (k % L + L * (k / L)) 0) = _
    rw [show k % L + L * (k / L) = k by have := Nat.mod_add_div k L; omega, List.getD_eq_getElem?_getD, List.getElem?_eq_getElem hk]; rfl
  · rw [List.getElem?_eq_none (by rw [List.length_map, List.length_range]; omega), List.getElem?_eq_none (by omega)]

-- needs: lanedef fits gathered dealgath
abbrev LF := Nat → List (List Int)
/-- lanes: what waits in each, the turn due -/
structure LnAt (M : Mh) (a : Addr) (ws : List Addr) (t : Int) (f : LF) : Prop where
  me : M a = some (.ins "Lanes" [("rows", .lst (ws.map D.ref)), ("turn", .int t)])
  q : ∀ (i : Nat) (w : Addr), ws[i]? = some w → M w = some (.lst (rowsD (f i)))
  inj : ∀ (i j : Nat) (w : Addr), ws[i]? = some w → ws[j]? = some w → i = j
  L : okL ws.length
  t0 : 0 ≤ t
  t1 : t < 256
  ok : ∀ i, i < ws.length → ∀ r ∈ f i, byteL r ∧ r.length ≤ 64 ∧ r ≠ []
  sz : ∀ i, i < ws.length → (f i).length ≤ 10000
def lateB (t : Int) (r : List Int) : Bool := decide (128 ≤ (r.headD 0 - t) % 256)
def dropL (t : Int) (q : List (List Int)) : List (List Int) := q.dropWhile (lateB t)
def dropF (t : Int) (f : LF) : LF := fun i => dropL t (f i)
def setF (f : LF) (i : Nat) (q : List (List Int)) : LF := fun j => if j = i then q else f j
theorem LnAt.na {M : Mh} {a : Addr} {ws : List Addr} {t : Int} {f : LF} (h : LnAt M a ws t f) {i : Nat} {w : Addr} (hw : ws[i]? = some w) : w ≠ a := fun e => by
  have := h.q i w hw
  rw [e, h.me] at this; cases this
theorem LnAt.set {M : Mh} {a : Addr} {ws : List Addr} {t : Int} {f : LF} (h : LnAt M a ws t f) {i : Nat} {w : Addr} {q : List (List Int)} (hw : ws[i]? = some w) (hq : ∀ r ∈ q, byteL r ∧ r.length ≤ 64 ∧ r ≠ []) (hs : q.length ≤ 10000) : LnAt (mup M w (.lst (rowsD q))) a ws t (setF f i q) := by
  refine ⟨(mup_ne (Ne.symm (h.na hw))).trans h.me, fun j w' hj => ?_, h.inj, h.L, h.t0, h.t1, fun j hj => ?_, fun j hj => ?_⟩
  · by_cases e : w' = w
    · subst e
      rw [mup_same, h.inj j i w' hj hw]
      unfold setF
      rw [if_pos rfl]
    · rw [mup_ne e, h.q j w' hj]
      unfold setF
      rw [if_neg (fun z => e (by subst z; rw [hw] at hj; cases hj; rfl))]
  · unfold setF
    split
    · exact hq
    · exact h.ok j hj
  · unfold setF
    split
    · exact hs
    · exact h.sz j hj
theorem LnAt.congr {M : Mh} {a : Addr} {ws : List Addr} {t : Int} {f g : LF} (h : LnAt M a ws t f) (e : ∀ i, i < ws.length → f i = g i) : LnAt M a ws t g := by
  refine ⟨h.me, fun i w hw => ?_, h.inj, h.L, h.t0, h.t1, fun i hi => ?_, fun i hi => ?_⟩
  · rw [← e i (List.getElem?_eq_some_iff.mp hw).1]; exact h.q i w hw
  · rw [← e i hi]; exact h.ok i hi
  · rw [← e i hi]; exact h.sz i hi
theorem LnAt.keep {M M' : Mh} {a : Addr} {ws : List Addr} {t : Int} {f : LF} (h : LnAt M a ws t f) (k : ∀ y o, M y = some o → M' y = some o) : LnAt M' a ws t f := ⟨k _ _ h.me, fun i w hw => k _ _ (h.q i w hw), h.inj, h.L, h.t0, h.t1, h.ok, h.sz⟩
/-- nothing but the lanes is touched -/
def LnKeep (M M' : Mh) (a : Addr) (ws : List Addr) : Prop := ∀ y, y ≠ a → y ∉ ws → M' y = M y
theorem LnKeep.refl (M : Mh) (a : Addr) (ws : List Addr) : LnKeep M M a ws := fun _ _ _ => rfl
theorem LnKeep.trans {M M1 M2 : Mh} {a : Addr} {ws : List Addr} (h : LnKeep M M1 a ws) (h' : LnKeep M1 M2 a ws) : LnKeep M M2 a ws := fun y h1 h2 => (h' y h1 h2).trans (h y h1 h2)
def headsF (L : Nat) (f : LF) : List (List Int) := (List.range L).map fun i => (f i).headD []
def wholeB (t : Int) (hs : List (List Int)) : Bool := hs.all (fun h => decide (h.headD 0 = t)) && fitsB hs
def popF (t : Int) (f : LF) : LF := fun i => if ((f i).headD []).headD 0 = t then (f i).tail else f i
def evL (t : Int) (hs : List (List Int)) : D := if wholeB t hs then .tup [.str "row", .int t, rowD (gathL hs)] else .tup [.str "lost", .int t, .lst []]
def fullB (L : Nat) (f : LF) : Bool := (List.range L).all fun i => decide (f i ≠ [])
/-- the loop of what comes -/
def loopL (L : Nat) : Nat → Int → LF → List D × Int × LF
  | 0, t, f => ([], t, f)
  | n + 1, t, f => if fullB L f then (evL t (headsF L f) :: (loopL L n ((t + 1) % 256) (dropF ((t + 1) % 256) (popF t f))).1, (loopL L n ((t + 1) % 256) (dropF ((t + 1) % 256) (popF t f))).2) else ([], t, f)
theorem dropL_sub {t : Int} {q : List (List Int)} : ∀ r ∈ dropL t q, r ∈ q := fun r hr => (List.dropWhile_sublist _).subset hr
theorem dropL_len {t : Int} {q : List (List Int)} : (dropL t q).length ≤ q.length := (List.dropWhile_sublist _).length_le

-- needs: lanesm look_many
theorem l_Lanes___init__ {a : Addr} {L : Nat} {M : Mh} {Q : QZ} {E : ZX} (h : M a = some (.ins "Lanes" [])) (hL : okL L) (q : ∀ M' ws, ws.length = L → LnAt M' a ws 0 (fun _ => []) → (∀ w ∈ ws, M w = none) → LnKeep M M' a ws → Q .non M') : z_Lanes___init__ [.ref a, .int (L : Nat)] M Q E := by
  show zFn _ zb_Lanes___init__ _ _ _ _
  unfold zFn zb_Lanes___init__
  have hL4 : L ≤ 4 := by rcases hL with e | e | e <;> omega
  walk_at "y"
  refine l_look_many hL ?_
  walk_at "y"
  rw [Int.toNat_natCast]
  refine zLcL_ind (fun l acc M' => ∃ ws : List Addr, acc = ws.map D.ref ∧ ws.length + l.length = L ∧ M' a = some (.ins "Lanes" []) ∧ (∀ (i : Nat) (w : Addr), ws[i]? = some w → M' w = some (.lst [])) ∧ (∀ (i j : Nat) (w : Addr), ws[i]? = some w → ws[j]? = some w → i = j) ∧ (∀ w ∈ ws, M w = none) ∧ (∀ y, y ∉ ws → M' y = M y)) ?_ ?_ ⟨[], rfl, by rw [rangeD_len]; simp, h, (fun i w z => by simp at z), (fun i j w z => by simp at z), (fun _ z => nomatch z), fun _ _ => rfl⟩
  · rintro acc M' ⟨ws, rfl, hl, ha, h1, h2, h3, h4⟩
    simp only [List.length_nil, Nat.add_zero] at hl
    walk_at "y"
    refine q _ ws hl ⟨mup_same, fun i w hw => ?_, h2, by rw [hl]; exact hL, by decide, by decide, (fun _ _ r hr => nomatch hr), fun _ _ => Nat.zero_le _⟩ h3 fun y hy1 hy2 => ?_
    · have : w ≠ a := fun e => by have := h1 i w hw; rw [e, ha] at this; cases this
      rw [mup_ne this, mup_ne this]
      exact h1 i w hw
    · rw [mup_ne hy1, mup_ne hy1]; exact h4 y hy2
  · rintro d l acc M' q2 ⟨ws, rfl, hl, ha, h1, h2, h3, h4⟩ g1 g2
    walk_at "y"
    refine i_newT fun w hw => ?_
    have hwM : M w = none := by
      by_cases e : w ∈ ws
      · exact h3 w e
      · rw [← h4 w e]; exact hw
    have new : ∀ {i : Nat} {w' : Addr}, (ws ++ [w])[i]? = some w' → (i < ws.length ∧ ws[i]? = some w') ∨ (i = ws.length ∧ w' = w) := by
      intro i w' h
      by_cases hi : i < ws.length
      · rw [List.getElem?_append_left hi] at h; exact .inl ⟨hi, h⟩
      · rw [List.getElem?_append_right (by omega)] at h
        have : i - ws.length = 0 := by
          rcases Nat.eq_zero_or_pos (i - ws.length) with e | e
          · exact e
          · rw [List.getElem?_eq_none (by simp; omega)] at h; cases h
        rw [this] at h
        simp at h
        exact .inr ⟨by omega, h.symm⟩
    have nw : ∀ {i : Nat} {w' : Addr}, ws[i]? = some w' → w' ≠ w := fun hi e => by
      have := h1 _ _ hi
      rw [e, hw] at this; cases this
    refine g2 _ _ ⟨ws ++ [w], by rw [List.map_append]; rfl, by rw [List.length_append]; rw [List.length_cons] at hl; simp only [List.length_cons, List.length_nil]; omega, mup_get hw ha, fun i w' hi => ?_, fun i j w' hi hj => ?_, fun w' hw' => ?_, fun y hy => ?_⟩
    · rcases new hi with ⟨_, h⟩ | ⟨_, rfl⟩
      · rw [mup_ne (nw h)]; exact h1 i w' h
      · exact mup_same
    · rcases new hi with ⟨_, a1⟩ | ⟨a1, a2⟩
      · rcases new hj with ⟨_, b1⟩ | ⟨b1, b2⟩
        · exact h2 i j w' a1 b1
        · exact absurd b2 (nw a1)
      · rcases new hj with ⟨_, b1⟩ | ⟨b1, b2⟩
        · exact absurd a2 (nw b1)
        · omega
    · rcases List.mem_append.mp hw' with h | h
      · exact h3 w' h
      · rw [List.mem_singleton.mp h]; exact hwM
    · have hy1 : y ∉ ws := fun z => hy (List.mem_append_left _ z)
      have hy2 : y ≠ w := fun z => hy (by rw [z]; exact List.mem_append_right _ (List.mem_singleton.mpr rfl))
      rw [mup_ne hy2]; exact h4 y hy1
theorem l_Lanes_bad {a : Addr} {d : D} {M : Mh} {Q : QZ} {E : ZX} (h : known M d) (hb : iw d 2 4 = false) (q : E "BadLane" [] M) : z_Lanes___init__ [.ref a, d] M Q E := by
  show zFn _ zb_Lanes___init__ _ _ _ _
  unfold zFn zb_Lanes___init__
  walk_at "z"
  refine l_look_many_bad h hb ?_
  walk_at "z"
  exact q

-- needs: lanesm
theorem l_Lanes_drop_late {a : Addr} {ws : List Addr} {t : Int} {f : LF} {M : Mh} {Q : QZ} {E : ZX} (h : LnAt M a ws t f) (q : ∀ M', LnAt M' a ws t (dropF t f) → LnKeep M M' a ws → Q .non M') : z_Lanes_drop_late [.ref a] M Q E := by
  have hme := h.me
  show zFn _ zb_Lanes_drop_late _ _ _ _
  unfold zFn zb_Lanes_drop_late
  walk_at "y"
  refine zLoop_ind (fun l r M' => ∃ (j : Nat) (x : Option D), j ≤ ws.length ∧ l = (ws.drop j).map D.ref ∧ LnAt M' a ws t (fun i => if i < j then dropL t (f i) else f i) ∧ LnKeep M M' a ws ∧ r = [some (.ref a), x]) ?_ ?_ ⟨0, none, Nat.zero_le _, rfl, h.congr fun i _ => by rw [if_neg (Nat.not_lt_zero i)], LnKeep.refl _ _ _, rfl⟩
  · rintro r M' ⟨j, x, hj, e1, h1, hk, rfl⟩
    have hj2 : j = ws.length := by
      have := congrArg List.length e1
      rw [List.length_map, List.length_drop, List.length_nil] at this; omega
    subst hj2
    walk_at "y"
    exact q M' (h1.congr fun i hi => by rw [if_pos hi]; rfl) hk
  · rintro d l r M' k ⟨j, x, hj, e1, h1, hk, rfl⟩ hkk
    have hj2 : j < ws.length := by
      have := congrArg List.length e1
      rw [List.length_map, List.length_drop, List.length_cons] at this; omega
    have e2 : ws.drop j = ws[j] :: ws.drop (j + 1) := List.drop_eq_getElem_cons hj2
    rw [e2] at e1
    injection e1 with e3 e4
    subst e3 e4
    have hwj : ws[j]? = some ws[j] := List.getElem?_eq_getElem hj2
    generalize ws[j] = w at hwj ⊢
    refine i_ck0 (i_step (i_name ?_))
    dsimp only [st]
    refine zWhile_ind (P := fun n r M2 => ∃ q', q'.length = n ∧ dropL t q' = dropL t (f j) ∧ (∀ r ∈ q', r ∈ f j) ∧ LnAt M2 a ws t (fun i => if i < j then dropL t (f i) else if i = j then q' else f i) ∧ LnKeep M M2 a ws ∧ r = [some (.ref a), some (.ref w)]) ?_ (f j).length ⟨f j, rfl, rfl, fun _ h => h, h1.congr fun i _ => by
      by_cases e5 : i < j
      · rw [if_pos e5, if_pos e5]
      · rw [if_neg e5, if_neg e5]
        by_cases e6 : i = j
        · rw [if_pos e6, e6]
        · rw [if_neg e6], hk, rfl⟩
    rintro n r M2 k2 ⟨q', hn, hd, hsub, h2, hk2, rfl⟩ hkk2
    have hw2 : M2 w = some (.lst (rowsD q')) := by
      have := h2.q j w hwj
      rw [if_neg (Nat.lt_irrefl j), if_pos rfl] at this; exact this
    have hme2 := h2.me
    walk_at "y"
    refine i_neG (.at hw2) (.refl _) (.mono (Pl_rows 0 q') (by decide)) (.lflat rfl) ?_
    rw [eqD_nil]
    have out : dropL t q' = q' → k [some (.ref a), some (.ref w)] M2 := fun e5 => hkk _ _ ⟨j + 1, _, by omega, rfl, h2.congr fun i hi => by
      by_cases e6 : i < j
      · rw [if_pos e6, if_pos (by omega)]
      · rw [if_neg e6]
        by_cases e7 : i = j
        · rw [if_pos e7, if_pos (by omega), e7, ← hd, e5]
        · rw [if_neg e7, if_neg (by omega)], hk2, rfl⟩
    cases q' with
    | nil =>
      walk_at "y"
      exact out rfl
    | cons r0 q0 =>
      have hr0 := h.ok j hj2 r0 (hsub r0 List.mem_cons_self)
      obtain ⟨b0, rr, rfl⟩ : ∃ b0 rr, r0 = b0 :: rr := by
        cases r0 with
        | nil => exact absurd rfl hr0.2.2
        | cons b0 rr => exact ⟨b0, rr, rfl⟩
      walk_at "y"
      refine i_ixR hw2 (d := rowD (b0 :: rr)) atI_head ?_
      walk_at "y"
      refine i_ixL (d := .int b0) atI_head ?_
      walk_at "y"
      have hlt : lateB t (b0 :: rr) = decide (128 ≤ (b0 - t) % 256) := rfl
      refine i_bd (fun e5 => ?_) fun e5 => ?_
      · walk_at "y"
        refine i_pop0 hw2 ?_
        refine hkk2 q0.length _ _ (by rw [← hn]; simp) ⟨q0, rfl, ?_, fun r hr => hsub r (List.mem_cons_of_mem _ hr), ?_, ?_, rfl⟩
        · rw [← hd]
          unfold dropL
          rw [List.dropWhile_cons_of_pos (by rw [hlt]; exact decide_eq_true e5)]
        · refine (h2.set (q := q0) hwj (fun r hr => h.ok j hj2 r (hsub r (List.mem_cons_of_mem _ hr))) ?_).congr fun i _ => ?_
          · have := h2.sz j hj2
            rw [if_neg (Nat.lt_irrefl j), if_pos rfl, List.length_cons] at this; omega
          · unfold setF
            by_cases e6 : i = j
            · rw [if_pos e6, if_neg (by omega), if_pos e6]
            · by_cases e7 : i < j
              · simp [e6, e7]
              · simp [e6, e7]
        · exact hk2.trans fun y hy1 hy2 => mup_ne fun z => hy2 (by rw [z]; exact List.mem_of_getElem? hwj)
      · walk_at "y"
        refine out ?_
        unfold dropL
        rw [List.dropWhile_cons_of_neg (by rw [hlt, decide_eq_false e5]; decide)]

-- needs: lanesm
theorem zLcL_ws {g : Nat → D} {step : D → Mh → (Option D → Mh → Prop) → Prop} {k : List D → Mh → Prop} {M : Mh} {ws : List Addr} (hs : ∀ (i : Nat) (w : Addr), ws[i]? = some w → ∀ Q : Option D → Mh → Prop, Q (some (g i)) M → step (.ref w) M Q) (hk : k ((List.range ws.length).map g) M) : zLcL none step k (ws.map D.ref) [] M := by
  refine zLcL_ind (fun l acc M' => M' = M ∧ ∃ j : Nat, j ≤ ws.length ∧ l = (ws.drop j).map D.ref ∧ acc = (List.range j).map g) ?_ ?_ ⟨rfl, 0, Nat.zero_le _, rfl, rfl⟩
  · rintro acc M' ⟨rfl, j, hj, e1, rfl⟩
    have hj2 : j = ws.length := by
      have := congrArg List.length e1
      rw [List.length_map, List.length_drop, List.length_nil] at this; omega
    subst hj2
    exact hk
  · rintro d l acc M' q2 ⟨rfl, j, hj, e1, rfl⟩ h1 h2
    have hj2 : j < ws.length := by
      have := congrArg List.length e1
      rw [List.length_map, List.length_drop, List.length_cons] at this; omega
    have e2 : ws.drop j = ws[j] :: ws.drop (j + 1) := List.drop_eq_getElem_cons hj2
    rw [e2] at e1
    injection e1 with e3 e4
    subst e3 e4
    refine hs j _ (List.getElem?_eq_getElem hj2) _ (h2 _ _ ⟨rfl, j + 1, by omega, rfl, ?_⟩)
    rw [List.range_succ, List.map_append]; rfl
theorem l_Lanes_held {a : Addr} {ws : List Addr} {t : Int} {f : LF} {M : Mh} {Q : QZ} {E : ZX} (h : LnAt M a ws t f) (q : Q (.lst ((List.range ws.length).map fun i => .int (f i).length)) M) : z_Lanes_held [.ref a] M Q E := by
  have hme := h.me
  show zFn _ zb_Lanes_held _ _ _ _
  unfold zFn zb_Lanes_held
  walk_at "y"
  refine zLcL_ws (g := fun i => .int (f i).length) (fun i w hw Q hq => ?_) ?_
  · have hw2 := h.q i w hw
    walk_at "y"
    exact hq
  · exact i_newT fun p hp => i_rtN hp q

-- needs: lanesm Lanes_held gathered fits
theorem frzDs_ints {p : Addr} {es : List D} : ∀ ns : List Int, frzDs p es (ns.map D.int) = ns.map D.int
  | [] => by simp [frzDs]
  | n :: r => by simp [frzDs, frzD, frzDs_ints r]
theorem frzDs_rows {p : Addr} {es : List D} : ∀ rs : List (List Int), frzDs p es (rowsD rs) = rowsD rs
  | [] => by simp [rowsD, frzDs]
  | r :: rs => by
    show frzDs p es (rowD r :: rowsD rs) = rowD r :: rowsD rs
    rw [frzDs, frzDs_rows rs]
    congr 1
    unfold rowD frzD
    rw [frzDs_ints]
theorem whole_go {L : Nat} {t : Int} {f : LF} (hL : okL L) (ok : ∀ i, i < L → ∀ r ∈ f i, byteL r ∧ r.length ≤ 64 ∧ r ≠ []) (hf : fullB L f = true) (hw : wholeB t (headsF L f) = true) : GoOk (headsF L f) t := by
  have hw2 := Bool.and_eq_true_iff.mp hw
  refine ⟨by unfold headsF; rw [List.length_map, List.length_range]; exact hL, fun r hr => ?_, hw2.2⟩
  have h1 := of_decide_eq_true (List.all_eq_true.mp hw2.1 r hr)
  obtain ⟨i, hi, rfl⟩ := List.mem_map.mp hr
  have hi := List.mem_range.mp hi
  have hne : f i ≠ [] := of_decide_eq_true (List.all_eq_true.mp hf i (List.mem_range.mpr hi))
  obtain ⟨r0, q0, e⟩ : ∃ r0 q0, f i = r0 :: q0 := by
    cases e : f i with
    | nil => exact absurd e hne
    | cons a l => exact ⟨a, l, rfl⟩
  rw [e] at h1 ⊢
  have hk := ok i hi r0 (by rw [e]; exact List.mem_cons_self)
  refine ⟨hk.1, hk.2.1, ?_⟩
  have h1 : r0.headD 0 = t := h1
  show r0.head? = some t
  cases r0 with
  | nil => exact absurd rfl hk.2.2
  | cons b l => rw [← h1]; rfl
theorem l_Lanes_one {a : Addr} {ws : List Addr} {t : Int} {f : LF} {M : Mh} {Q : QZ} {E : ZX} (h : LnAt M a ws t f) (hf : fullB ws.length f = true) (q : ∀ M', LnAt M' a ws ((t + 1) % 256) (popF t f) → (∀ y, y ≠ a → y ∉ ws → M y ≠ none → M' y = M y) → Q (.lst [evL t (headsF ws.length f)]) M') : z_Lanes_one [.ref a] M Q E := by
  have hme := h.me
  have hL4 : ws.length ≤ 4 := by rcases h.L with e | e | e <;> omega
  have hL2 : 2 ≤ ws.length := by rcases h.L with e | e | e <;> omega
  have hne : ∀ i, i < ws.length → ∃ b rr q0, f i = (b :: rr) :: q0 := fun i hi => by
    have h1 : f i ≠ [] := of_decide_eq_true (List.all_eq_true.mp hf i (List.mem_range.mpr hi))
    cases e : f i with
    | nil => exact absurd e h1
    | cons r0 q0 =>
      have := (h.ok i hi r0 (by rw [e]; exact List.mem_cons_self)).2.2
      cases r0 with
      | nil => exact absurd rfl this
      | cons b rr => exact ⟨b, rr, q0, rfl⟩
  show zFn _ zb_Lanes_one _ _ _ _
  unfold zFn zb_Lanes_one
  walk_at "y"
  refine zLcL_ws (g := fun i => rowD ((f i).headD [])) (fun i w hw Q hq => ?_) ?_
  · have hi := (List.getElem?_eq_some_iff.mp hw).1
    have hw2 := h.q i w hw
    obtain ⟨b, rr, q0, e⟩ := hne i hi
    rw [e] at hw2 hq
    walk_at "y"
    refine i_ixR hw2 (d := rowD (b :: rr)) atI_head ?_
    exact hq
  rw [show (List.range ws.length).map (fun i => rowD ((f i).headD [])) = rowsD (headsF ws.length f) by unfold rowsD headsF; rw [List.map_map]; rfl]
  have hhl : (headsF ws.length f).length = ws.length := by unfold headsF; rw [List.length_map, List.length_range]
  have hhm : ∀ r ∈ headsF ws.length f, ∃ b rr, r = b :: rr := fun r hr => by
    obtain ⟨i, hi, rfl⟩ := List.mem_map.mp hr
    obtain ⟨b, rr, q0, e⟩ := hne i (List.mem_range.mp hi)
    rw [e]; exact ⟨b, rr, rfl⟩
  refine i_newF ?_
  refine i_name ?_
  dsimp only [st]
  refine i_seqP (fun r M' => M' = M ∧ r = [some (.ref a), some (.lst (rowsD (headsF ws.length f))), some (.bl (wholeB t (headsF ws.length f))), none, none, none, none]) ?_ ?_
  rotate_left
  · intro k2 hk2
    walk_at "y"
    refine zLcL_rat (g := fun fr => .bl (decide (fr.headD 0 = t))) (RAt.rows _) (fun d fr hfr hd Q hq => ?_) ?_
    · obtain ⟨b, rr, rfl⟩ := hhm fr hfr
      walk_at "y"
      refine i_ixA hd atI_0 ?_
      walk_at "y"
      exact hq
    walk_at "y"
    refine i_allE (bs := (headsF ws.length f).map fun fr => decide (fr.headD 0 = t)) (by rw [List.nil_append, List.map_map]; rfl) ?_
    rw [show ((headsF ws.length f).map fun fr => decide (fr.headD 0 = t)).all id = (headsF ws.length f).all fun fr => decide (fr.headD 0 = t) by rw [List.all_map]; rfl]
    cases ea : (headsF ws.length f).all fun fr => decide (fr.headD 0 = t) with
    | false =>
      walk_at "y"
      refine hk2 _ _ ⟨rfl, ?_⟩
      unfold wholeB
      rw [ea]; rfl
    | true =>
      walk_at "y"
      refine l_fits (RAt.rows _) (fun z => by rw [z] at hhl; simp at hhl; omega) (by omega) ?_
      walk_at "y"
      refine hk2 _ _ ⟨rfl, ?_⟩
      unfold wholeB
      rw [ea]; rfl
  rintro r M' ⟨rfl, rfl⟩
  walk_at "y"
  refine i_newT fun s hs => ?_
  have hsa : a ≠ s := ne_of_m hme hs
  have hsw : ∀ (i : Nat) (w : Addr), ws[i]? = some w → w ≠ s := fun i w hw => ne_of_m (h.q i w hw) hs
  have hsn : s ∉ ws := fun z => by
    obtain ⟨i, hi, e⟩ := List.getElem_of_mem z
    exact hsw i s (by rw [List.getElem?_eq_getElem hi, e]) rfl
  refine i_name ?_
  dsimp only [st]
  refine i_seqP (fun r M1 => ∃ x4, LnAt M1 a ws t (popF t f) ∧ M1 s = some (.lst (rowsD ((headsF ws.length f).filter fun fr => decide (fr.headD 0 = t)))) ∧ (∀ y, y ≠ a → y ∉ ws → y ≠ s → M1 y = M' y) ∧ r = [some (.ref a), some (.lst (rowsD (headsF ws.length f))), some (.bl (wholeB t (headsF ws.length f))), some (.ref s), x4, none, none]) ?_ ?_
  · rintro r M1 ⟨x4, h1, hs1, hk1, rfl⟩
    refine i_seq ?_
    refine ⟨_, _, .frz hs1, ?_⟩
    have e1 : ∀ es, frzD s es (.ref a) = .ref a := fun es => by unfold frzD; rw [if_neg hsa]
    have e2 : ∀ es, frzD s es (.ref s) = .lst es := fun es => by unfold frzD; rw [if_pos rfl]
    have e3 : ∀ es rs, frzD s es (.lst (rowsD rs)) = .lst (rowsD rs) := fun es rs => by rw [frzD, frzDs_rows]
    have e4 : ∀ es b, frzD s es (.bl b) = .bl b := fun es b => by rw [frzD]
    simp only [List.map_cons, List.map_nil, Option.map_some, Option.map_none, e1, e2, e3, e4]
    have kd : ∀ y o, y ≠ s → M1 y = some o → mdel M1 s y = some o := fun y o hy ho => (mdel_ne hy).trans ho
    have h2 : LnAt (mdel M1 s) a ws t (popF t f) := ⟨kd _ _ hsa h1.me, fun i w hw => kd _ _ (hsw i w hw) (h1.q i w hw), h1.inj, h1.L, h1.t0, h1.t1, h1.ok, h1.sz⟩
    have hk2 : ∀ y, y ≠ a → y ∉ ws → M' y ≠ none → mdel M1 s y = M' y := fun y y1 y2 y3 => by
      have ys : y ≠ s := fun z => y3 (by rw [z]; exact hs)
      rw [mdel_ne ys]; exact hk1 y y1 y2 ys
    generalize mdel M1 s = M2 at h2 hk2 ⊢
    have hme2 := h2.me
    walk_at "y"
    have h3 : LnAt (mup M2 a (.ins "Lanes" (putD "turn" (.int ((t + 1) % 256)) [("rows", .lst (ws.map D.ref)), ("turn", .int t)]))) a ws ((t + 1) % 256) (popF t f) := ⟨mup_same, fun i w hw => (mup_ne (h2.na hw)).trans (h2.q i w hw), h2.inj, h2.L, by omega, by omega, h2.ok, h2.sz⟩
    have hk3 : ∀ y, y ≠ a → y ∉ ws → M' y ≠ none → mup M2 a (.ins "Lanes" (putD "turn" (.int ((t + 1) % 256)) [("rows", .lst (ws.map D.ref)), ("turn", .int t)])) y = M' y := fun y y1 y2 y3 => by rw [mup_ne y1]; exact hk2 y y1 y2 y3
    generalize mup M2 a (.ins "Lanes" (putD "turn" (.int ((t + 1) % 256)) [("rows", .lst (ws.map D.ref)), ("turn", .int t)])) = M3 at h3 hk3 ⊢
    have q3 := q M3 h3 hk3
    cases ew : wholeB t (headsF ws.length f) with
    | true =>
      have G := whole_go h.L h.ok hf ew
      have hfil : (headsF ws.length f).filter (fun fr => decide (fr.headD 0 = t)) = headsF ws.length f := List.filter_eq_self.mpr fun fr hfr => (List.all_eq_true.mp (Bool.and_eq_true_iff.mp ew).1 fr hfr)
      rw [show evL t (headsF ws.length f) = .tup [.str "row", .int t, rowD (gathL (headsF ws.length f))] by unfold evL; rw [ew]; rfl] at q3
      rw [hfil]
      walk_at "y"
      refine l_gathered (RAt.rows _) G ?_
      walk_at "y"
      refine i_newT fun p hp => i_rtN hp ?_
      exact q3
    | false =>
      rw [show evL t (headsF ws.length f) = .tup [.str "lost", .int t, .lst []] by unfold evL; rw [ew]; rfl] at q3
      walk_at "y"
      refine i_newT fun p hp => i_rtN hp ?_
      exact q3
  · intro k2 hk2
    have hme1 : mup M' s (.lst []) a = _ := mup_get hs hme
    walk_at "y"
    refine zLoop_ind (fun l r M1 => ∃ (j : Nat) (x4 : Option D), j ≤ ws.length ∧ l = (ws.drop j).map D.ref ∧ LnAt M1 a ws t (fun i => if i < j then popF t f i else f i) ∧ M1 s = some (.lst (rowsD ((headsF j f).filter fun fr => decide (fr.headD 0 = t)))) ∧ (∀ y, y ≠ a → y ∉ ws → y ≠ s → M1 y = M' y) ∧ r = [some (.ref a), some (.lst (rowsD (headsF ws.length f))), some (.bl (wholeB t (headsF ws.length f))), some (.ref s), x4, none, none]) ?_ ?_ ⟨0, none, Nat.zero_le _, rfl, (h.keep fun y o hy => mup_get hs hy).congr fun i _ => by rw [if_neg (Nat.not_lt_zero i)], mup_same, fun y _ _ hy => mup_ne hy, rfl⟩
    · rintro r M1 ⟨j, x4, hj, e1, h1, hs1, hk1, rfl⟩
      have hj2 : j = ws.length := by
        have := congrArg List.length e1
        rw [List.length_map, List.length_drop, List.length_nil] at this; omega
      subst hj2
      exact hk2 _ _ ⟨x4, h1.congr fun i hi => by rw [if_pos hi], hs1, hk1, rfl⟩
    · rintro d l r M1 k3 ⟨j, x4, hj, e1, h1, hs1, hk1, rfl⟩ hk3
      have hj2 : j < ws.length := by
        have := congrArg List.length e1
        rw [List.length_map, List.length_drop, List.length_cons] at this; omega
      have e2 : ws.drop j = ws[j] :: ws.drop (j + 1) := List.drop_eq_getElem_cons hj2
      rw [e2] at e1
      injection e1 with e3 e4
      subst e3 e4
      have hwj : ws[j]? = some ws[j] := List.getElem?_eq_getElem hj2
      generalize ws[j] = w at hwj ⊢
      obtain ⟨b, rr, q0, ef⟩ := hne j hj2
      have hw1 : M1 w = some (.lst (rowsD ((b :: rr) :: q0))) := by
        have := h1.q j w hwj
        rw [if_neg (Nat.lt_irrefl j), ef] at this; exact this
      have hme1 := h1.me
      have hws := hsw j w hwj
      have hpop : popF t f j = if b = t then q0 else f j := by unfold popF; rw [ef]; rfl
      have hhs : headsF (j + 1) f = headsF j f ++ [b :: rr] := by
        unfold headsF
        rw [List.range_succ, List.map_append, List.map_singleton, ef]; rfl
      refine i_ck0 ?_
      walk_at "y"
      refine i_ixR hw1 (d := rowD (b :: rr)) atI_head ?_
      walk_at "y"
      refine i_ixL (d := .int b) atI_head ?_
      walk_at "y"
      refine i_bd (fun e5 => ?_) fun e5 => ?_
      · walk_at "y"
        refine i_pop0 hw1 ?_
        walk_at "y"
        refine i_app ((mup_ne (Ne.symm hws)).trans hs1) ?_ ?_
        · unfold rowsD
          rw [List.length_map, sizeLine_eq]
          have := List.length_filter_le (fun fr : List Int => decide (fr.headD 0 = t)) (headsF j f)
          unfold headsF at this
          rw [List.length_map, List.length_range] at this
          unfold headsF
          omega
        · refine hk3 _ _ ⟨j + 1, _, by omega, rfl, ?_, ?_, ?_, rfl⟩
          · have hok : ∀ r ∈ q0, byteL r ∧ r.length ≤ 64 ∧ r ≠ [] := fun r hr => h.ok j hj2 r (by rw [ef]; exact List.mem_cons_of_mem _ hr)
            have hsz : q0.length ≤ 10000 := by have := h.sz j hj2; rw [ef, List.length_cons] at this; omega
            have h4 := (h1.set (q := q0) hwj hok hsz)
            have h5 : LnAt (mup (mup M1 w (.lst (rowsD q0))) s (.lst (rowsD ((headsF j f).filter fun fr => decide (fr.headD 0 = t)) ++ [rowD (b :: rr)]))) a ws t (setF (fun i => if i < j then popF t f i else f i) j q0) := ⟨(mup_ne hsa).trans h4.me, fun i w' hw' => (mup_ne (hsw i w' hw')).trans (h4.q i w' hw'), h4.inj, h4.L, h4.t0, h4.t1, h4.ok, h4.sz⟩
            refine h5.congr fun i hi => ?_
            unfold setF
            by_cases e6 : i = j
            · rw [if_pos e6, if_pos (by omega), e6, hpop, if_pos e5]
            · by_cases e7 : i < j
              · rw [if_neg e6, if_pos (show i < j + 1 by omega)]; dsimp only; rw [if_pos e7]
              · rw [if_neg e6, if_neg (show ¬ i < j + 1 by omega)]; dsimp only; rw [if_neg e7]
          · rw [mup_same, hhs, List.filter_append, show [b :: rr].filter (fun fr => decide (fr.headD 0 = t)) = [b :: rr] by simp [e5]]
            unfold rowsD
            rw [List.map_append]; rfl
          · exact fun y y1 y2 y3 => by rw [mup_ne y3, mup_ne (fun z => y2 (by rw [z]; exact List.mem_of_getElem? hwj))]; exact hk1 y y1 y2 y3
      · walk_at "y"
        refine hk3 _ _ ⟨j + 1, _, by omega, rfl, h1.congr fun i hi => ?_, ?_, hk1, rfl⟩
        · by_cases e6 : i = j
          · rw [if_neg (by omega), if_pos (by omega), e6, hpop, if_neg e5]
          · by_cases e7 : i < j
            · rw [if_pos e7, if_pos (by omega)]
            · rw [if_neg e7, if_neg (by omega)]
        · rw [hhs, List.filter_append, show [b :: rr].filter (fun fr => decide (fr.headD 0 = t)) = [] by simp [e5], List.append_nil]
          exact hs1

-- needs: lanesm
theorem l_Lanes_due {a : Addr} {ws : List Addr} {t : Int} {f : LF} {M : Mh} {Q : QZ} {E : ZX} (h : LnAt M a ws t f) (q : Q (.int t) M) : z_Lanes_due [.ref a] M Q E := by
  have hme := h.me
  show zFn _ zb_Lanes_due _ _ _ _
  unfold zFn zb_Lanes_due
  walk_at "y"
  exact q

theorem l__law_draw {t : Addr} {n : Int} {M : Mh} {Q : QZ} {E : ZX} (ht : M t = some .town) (h0 : 0 < n) (h1 : n < 1073741824) (q : ∀ k, 0 ≤ k → k < n → Q (.int k) M) : z__law_draw [.ref t, .int n] M Q E := ⟨ht, h0, h1, q⟩

theorem l__law_pick {t : Addr} {ds : List D} {M : Mh} {Q : QZ} {E : ZX} (ht : M t = some .town) (h0 : ds ≠ []) (h1 : ds.length < 1073741824) (q : ∀ d, d ∈ ds → Q d M) : z__law_pick [.ref t, .lst ds] M Q E := by
  have lp : 0 < ds.length := List.length_pos_iff.mpr h0
  show zFn false zb__law_pick _ _ _ _
  unfold zFn zb__law_pick
  walk_at "z"
  refine l__law_draw ht (by omega) (by omega) fun k hk hk2 => ?_
  obtain ⟨j, rfl⟩ : ∃ j : Nat, k = j := ⟨k.toNat, by omega⟩
  have hj : j < ds.length := by omega
  refine i_ixL (atI_nat (List.getElem?_eq_getElem hj)) ?_
  walk_at "z"
  exact q _ (List.getElem_mem hj)

theorem l__law_ten {w : Int} {M : Mh} {Q : QZ} {E : ZX} (q : Q (.lst ((ten w).map D.int)) M) : z__law_ten [.int w] M Q E := by
  show zFn false zb__law_ten _ _ _ _
  unfold zFn zb__law_ten
  walk_at "z"
  refine zLcL_mapm (as := [512, 256, 128, 64, 32, 16, 8, 4, 2, 1]) (f := D.int) (g := fun b => .int (w / b % 2)) (fun i hi Q hq => ?_) ?_
  · have hc : CDiv w i := by
      have : ∀ i ∈ ([512, 256, 128, 64, 32, 16, 8, 4, 2, 1] : List Int), 0 < i ∧ i < 1073741824 := by decide
      exact this i hi
    walk_at "z"
    refine i_div hc ?_
    walk_at "z"
    exact hq
  · walk_at "z"
    exact q

theorem rep_flat (x : D) (n : Nat) : (List.replicate n [x]).flatten = List.replicate n x := by
  induction n with
  | zero => rfl
  | succ n ih => rw [List.replicate_succ, List.flatten_cons, ih]; rfl

-- needs: repflat
theorem bitL_lit {ns : List Int} (h : ns.all (fun n => n == 0 || n == 1) = true) : bitL ns := fun n hn => by
  have := List.all_eq_true.mp h n hn
  simpa using this
theorem l__law_some_bits {t : Addr} {most : Nat} {M : Mh} {Q : QZ} {E : ZX} (ht : M t = some .town) (hm : most ≤ 1000) (q : ∀ ns, bitL ns → ns.length ≤ most → Q (.lst (ns.map D.int)) M) : z__law_some_bits [.ref t, .int most] M Q E := by
  show zFn false zb__law_some_bits _ _ _ _
  unfold zFn zb__law_some_bits
  walk_at "z"
  refine l__law_draw ht (by omega) (by omega) fun m hm0 hm1 => ?_
  walk_at "z"
  obtain ⟨m, rfl⟩ : ∃ j : Nat, m = j := ⟨m.toNat, by omega⟩
  refine zWhile_ind (fun n r M' => M' = M ∧ ∃ (ns : List Int) (x : Option D), r = [some (.ref t), some (.int most), some (.lst (ns.map D.int)), some (.int m), x] ∧ bitL ns ∧ n = m - ns.length) ?_ m ⟨rfl, [], _, rfl, (fun _ h => nomatch h), rfl⟩
  rintro n r M' k ⟨rfl, ns, x, rfl, hb, rfl⟩ hk
  walk_at "z"
  refine i_bd (fun hlt => ?_) (fun hlt => ?_)
  · have more : ∀ (ms : List Int) (y : Option D), bitL ms → ms ≠ [] → k [some (.ref t), some (.int most), some (.lst (ns.map D.int ++ ms.map D.int)), some (.int m), y] M' := by
      intro ms y hb2 hne
      have : 0 < ms.length := List.length_pos_iff.mpr hne
      refine hk (m - (ns ++ ms).length) _ _ (by rw [List.length_append]; omega) ⟨rfl, ns ++ ms, _, by rw [List.map_append], bitL_app hb hb2, rfl⟩
    have sz : ∀ (ms : List Int), ms.length ≤ 10 → (ns.map D.int).length + (ms.map D.int).length ≤ sizeLine := by
      intro ms h; rw [List.length_map, List.length_map]; show _ ≤ 2 ^ 24; omega
    walk_at "z"
    refine l__law_draw ht (by decide) (by decide) fun kd hk0 hk1 => ?_
    walk_at "z"
    refine i_bd (fun h => ?_) (fun h => ?_)
    · walk_at "z"
      refine l__law_pick ht (by simp) (by show 2 < _; decide) fun d hd => ?_
      obtain ⟨ms, rfl, h1, h2, h3⟩ : ∃ ms : List Int, d = .lst (ms.map D.int) ∧ bitL ms ∧ ms ≠ [] ∧ ms.length ≤ 10 := by
        simp only [List.mem_cons, List.not_mem_nil, or_false] at hd
        rcases hd with e | e
        · exact ⟨[0, 0, 1, 1, 1, 1, 1], e, bitL_lit rfl, by simp, by decide⟩
        · exact ⟨[1, 1, 0, 0, 0, 0, 0], e, bitL_lit rfl, by simp, by decide⟩
      refine i_addL (sz ms h3) ?_
      walk_at "z"
      exact more ms _ h1 h2
    · walk_at "z"
      refine i_bd (fun h => ?_) (fun h => ?_)
      · walk_at "z"
        refine l__law_draw ht (by decide) (by decide) fun b hb0 hb1 => ?_
        walk_at "z"
        refine l__law_draw ht (by decide) (by decide) fun j hj0 hj1 => ?_
        walk_at "z"
        refine i_mulL (by omega) (by omega) (by show 1 * _ ≤ 2 ^ 24; omega) ?_
        rw [rep_flat, show List.replicate (1 + j).toNat (D.int b) = (List.replicate (1 + j).toNat b).map D.int by rw [List.map_replicate]]
        walk_at "z"
        refine i_addL (sz _ (by rw [List.length_replicate]; omega)) ?_
        walk_at "z"
        refine more _ _ (fun n hn => ?_) (fun z => ?_)
        · rw [List.eq_of_mem_replicate hn]; omega
        · have := congrArg List.length z
          rw [List.length_replicate] at this
          simp only [List.length_nil] at this; omega
      · walk_at "z"
        refine i_bd (fun h => ?_) (fun h => ?_)
        · walk_at "z"
          refine l__law_pick ht (by simp) (by show 6 < _; decide) fun d hd => ?_
          obtain ⟨w, rfl⟩ : ∃ w : Int, d = .int w := by
            simp only [List.mem_cons, List.not_mem_nil, or_false] at hd
            rcases hd with e | e | e | e | e | e <;> exact ⟨_, e⟩
          walk_at "z"
          refine l__law_ten ?_
          walk_at "z"
          refine i_addL (sz _ (by rw [ten_len]; decide)) ?_
          walk_at "z"
          exact more _ _ (ten_bits w) (by simp [ten])
        · walk_at "z"
          refine l__law_draw ht (by decide) (by decide) fun w hw0 hw1 => ?_
          walk_at "z"
          refine l__law_ten ?_
          walk_at "z"
          refine l__law_draw ht (by decide) (by decide) fun j hj0 hj1 => ?_
          walk_at "z"
          obtain ⟨j, rfl⟩ : ∃ i : Nat, j = i := ⟨j.toNat, by omega⟩
          rw [cutD_from, ← List.map_drop]
          refine i_addL (sz _ (by rw [List.length_drop, ten_len]; omega)) ?_
          walk_at "z"
          refine more _ _ (bitL_drop (ten_bits w) j) (fun z => ?_)
          have := congrArg List.length z
          rw [List.length_drop, ten_len] at this
          simp only [List.length_nil] at this; omega
  · walk_at "z"
    rw [cutD_to, ← List.map_take]
    exact q _ (bitL_take hb m) (by rw [List.length_take]; omega)

theorem l__law_byte {t : Addr} {M : Mh} {Q : QZ} {E : ZX} (ht : M t = some .town) (q : ∀ n : Nat, n < 256 → Q (.int n) M) : z__law_byte [.ref t] M Q E := by
  show zFn false zb__law_byte _ _ _ _
  unfold zFn zb__law_byte
  walk_at "z"
  refine l__law_draw ht (by decide) (by decide) fun k hk hk2 => ?_
  walk_at "z"
  refine i_bd (fun e => ?_) (fun e => ?_)
  · walk_at "z"
    refine l__law_pick ht (by simp) (by show 8 < _; decide) fun d hd => ?_
    simp only [List.mem_cons, List.not_mem_nil, or_false] at hd
    rcases hd with e | e | e | e | e | e | e | e <;> subst e
    · exact q 0 (by decide)
    · exact q 1 (by decide)
    · exact q 178 (by decide)
    · exact q 179 (by decide)
    · exact q 180 (by decide)
    · exact q 181 (by decide)
    · exact q 254 (by decide)
    · exact q 255 (by decide)
  · walk_at "z"
    refine i_bd (fun h => ?_) (fun h => ?_)
    · walk_at "z"
      refine l__law_draw ht (by decide) (by decide) fun k hk hk2 => ?_
      walk_at "z"
      have := q (180 + k.toNat) (by omega)
      rw [show ((180 + k.toNat : Nat) : Int) = 180 + k by omega] at this; exact this
    · walk_at "z"
      refine l__law_draw ht (by decide) (by decide) fun k hk hk2 => ?_
      walk_at "z"
      have := q k.toNat (by omega)
      rw [show ((k.toNat : Nat) : Int) = k by omega] at this; exact this

-- needs: items
/-- items between frames: rests and skips -/
def gapL (g : List Nat) : Prop := (∀ n ∈ g, n = 258 ∨ n = 259) ∧ g.length ≤ 2
theorem l__law_gap {t : Addr} {M : Mh} {Q : QZ} {E : ZX} (ht : M t = some .town) (q : ∀ g : List Nat, gapL g → Q (.lst (g.map itD)) M) : z__law_gap [.ref t] M Q E := by
  show zFn _ zb__law_gap _ _ _ _
  unfold zFn zb__law_gap
  walk_at "z"
  refine l__law_pick ht (by simp) (by show 4 < _; decide) fun d hd => ?_
  obtain ⟨m, rfl, hm⟩ : ∃ m : Nat, d = .int m ∧ m ≤ 2 := by
    simp only [List.mem_cons, List.not_mem_nil, or_false] at hd
    rcases hd with e | e | e | e
    · exact ⟨0, e, by decide⟩
    · exact ⟨0, e, by decide⟩
    · exact ⟨1, e, by decide⟩
    · exact ⟨2, e, by decide⟩
  walk_at "z"
  rw [Int.toNat_natCast]
  refine zLcL_ind (fun l acc M' => M' = M ∧ ∃ g : List Nat, acc = g.map itD ∧ (∀ n ∈ g, n = 258 ∨ n = 259) ∧ g.length + l.length = m) ?_ ?_ ⟨rfl, [], rfl, (fun _ h => nomatch h), ?_⟩
  · rintro acc M' ⟨rfl, g, rfl, h, hl⟩
    walk_at "z"
    exact q g ⟨h, by simp only [List.length_nil] at hl; omega⟩
  · rintro d l acc M' q2 ⟨rfl, g, rfl, h, hl⟩ h1 h2
    walk_at "z"
    refine l__law_pick ht (by simp) (by show 3 < _; decide) fun d hd => ?_
    obtain ⟨x, rfl, hx⟩ : ∃ x : Nat, d = itD x ∧ (x = 258 ∨ x = 259) := by
      simp only [List.mem_cons, List.not_mem_nil, or_false] at hd
      rcases hd with e | e | e
      · exact ⟨258, e, .inl rfl⟩
      · exact ⟨258, e, .inl rfl⟩
      · exact ⟨259, e, .inr rfl⟩
    refine h2 _ _ ⟨rfl, g ++ [x], by rw [List.map_append]; rfl, fun n hn => ?_, by rw [List.length_append]; rw [List.length_cons] at hl; simp only [List.length_cons, List.length_nil]; omega⟩
    rcases List.mem_append.mp hn with hn | hn
    · exact h n hn
    · rw [List.mem_singleton.mp hn]; exact hx
  · rw [rangeD_len]; simp

-- needs: reader Reader_heard
theorem sign_in (l : List Int) : (c_SIGNS.any fun z => eqD z (.tup (l.map D.int))) = sign l := by
  have e : ∀ a : List Int, eqD (.tup (a.map D.int)) (.tup (l.map D.int)) = decide (l = a) := fun a => by
    rw [eqD_tup]
    induction a generalizing l with
    | nil => cases l <;> rfl
    | cons x a ih =>
      cases l with
      | nil => rfl
      | cons y l =>
        show (eqD (.int x) (.int y) && eqDs (a.map D.int) (l.map D.int)) = _
        rw [ih l, eqD_int]
        by_cases h : x = y
        · subst h; simp
        · have h' : ¬ y = x := fun z => h z.symm
          simp [h, h']
  show (eqD (.tup (n0_SIGNS.map D.int)) _ || (eqD (.tup (n1_SIGNS.map D.int)) _ || false)) = _
  rw [e, e, Bool.or_false]; rfl
theorem l_Reader_found {a : Addr} {s : RS} {fo : Option Addr} {M : Mh} {Q : QZ} {E : ZX} (h : RdAt M a s fo) (hb : bitL s.last) (hl7 : s.last.length ≤ 7) (hp : ∀ ps, s.part = some ps → bitL ps ∧ ps.length ≤ 10)
    (q : ∀ M' fo', RdAt M' a (findR s).2 fo' → Fr M a fo M' fo' → Q (.lst ((findR s).1.map tkD)) M') : z_Reader_found [.ref a] M Q E := by
  have hm := h.me
  have hpt := h.part
  show zFn _ zb_Reader_found _ _ _ _
  unfold zFn zb_Reader_found
  walk_at "y"
  refine i_newT fun x hx => ?_
  have xa : x ≠ a := fun z => by rw [z, hm] at hx; cases hx
  have hxf : fo ≠ some x := fun z => by
    subst z
    cases e : s.part with
    | none => rw [e] at hpt; exact hpt
    | some ps => rw [e] at hpt; rw [hpt.2] at hx; cases hx
  have fr0 : Fr M a fo (mup M x (.lst [])) fo := fun y o e h1 h2 => ⟨mup_get hx e, h2⟩
  refine i_name ?_
  dsimp only [st]
  -- the sign
  refine i_seqP (P := fun r M' => ∃ (fo' : Option Addr) (t1 : List Nat) (s1 : RS), (t1, s1) = (if sign s.last && decide (s.part.map List.length ≠ some 7) then ((if s.part.isSome then [260] else []), RS.mk s.last (some s.last) none) else ([], s)) ∧ RdAt M' a s1 fo' ∧ Fr M a fo M' fo' ∧ fo' ≠ some x ∧ M' x = some (.lst (t1.map tkD)) ∧ r = [some (.ref a), some (.ref x), none]) ?_ ?_
  · rintro r M1 ⟨f1, t1, s1, e1, h1, fr1, nx1, hX, rfl⟩
    have eq : findR s = (match s1.part with
      | none => (t1, s1)
      | some ps => if ps.length = 10 then (t1 ++ (judge s1.poise (wordOf ps)).1, RS.mk s1.last (if (judge s1.poise (wordOf ps)).2.1 then some [] else none) (judge s1.poise (wordOf ps)).2.2) else (t1, s1)) := by
      unfold findR
      rw [← e1]
      all_goals rfl
    rw [eq] at q
    have hp1 : ∀ ps, s1.part = some ps → bitL ps ∧ ps.length ≤ 10 := by
      intro ps e
      split at e1
      · cases e1
        cases e
        exact ⟨hb, by show s.last.length ≤ 10; omega⟩
      · cases e1; exact hp ps e
    have hm1 := h1.me
    have hpt1 := h1.part
    have fin : ∀ {M2 : Mh} {f2 : Option Addr} {t : List Nat} {s2 : RS}, M2 x = some (.lst (t.map tkD)) → RdAt M2 a s2 f2 → Fr M a fo M2 f2 → f2 ≠ some x → (RdAt (mdel M2 x) a s2 f2 ∧ Fr M a fo (mdel M2 x) f2) := by
      intro M2 f2 t s2 hX2 h2 fr2 n2
      refine ⟨⟨by rw [mdel_ne (Ne.symm xa)]; exact h2.me, ?_⟩, fun y o e h3 h4 => ?_⟩
      · exact h2.part.keep fun f hf => mdel_ne (fun z => n2 (by rw [hf, z]))
      · obtain ⟨q1, q2⟩ := fr2 y o e h3 h4
        exact ⟨by rw [mdel_ne (fun z => by rw [z, hx] at e; cases e)]; exact q1, q2⟩
    cases e2 : s1.part with
    | none =>
      rw [e2] at hpt1 q
      cases f1 with
      | some f => exact False.elim hpt1
      | none =>
        have hm1 : M1 a = some (.ins "Reader" [("last", .lst (s1.last.map D.int)), ("part", .non), ("poise", hdD s1.poise)]) := hm1
        walk_at "y"
        refine i_rtF hX ?_
        obtain ⟨g1, g2⟩ := fin hX h1 fr1 nx1
        exact q _ _ g1 g2
    | some ps =>
      rw [e2] at hpt1 q
      cases f1 with
      | none => exact False.elim hpt1
      | some f =>
        have hm1 : M1 a = some (.ins "Reader" [("last", .lst (s1.last.map D.int)), ("part", .ref f), ("poise", hdD s1.poise)]) := hm1
        obtain ⟨fa, hF⟩ := hpt1
        obtain ⟨hbp, hlp⟩ := hp1 ps e2
        dsimp only at q
        walk_at "y"
        refine i_bd (fun e3 => ?_) fun e3 => ?_
        · have e3 : ps.length = 10 := by omega
          rw [if_pos e3] at q
          walk_at "y"
          refine l_word_ofR hF hbp e3 ?_
          walk_at "y"
          refine i_newT fun g hg => ?_
          have gx : g ≠ x := fun z => by rw [z, hX] at hg; cases hg
          have ga : g ≠ a := fun z => by rw [z, hm1] at hg; cases hg
          have xf : x ≠ f := fun z => nx1 (by rw [z])
          walk_at "y"
          have hR : RdAt (mup (mup M1 g (.lst [])) a (.ins "Reader" [("last", .lst (s1.last.map D.int)), ("part", .ref g), ("poise", hdD s1.poise)])) a ⟨s1.last, some [], s1.poise⟩ (some g) := ⟨mup_same, ga, by rw [mup_ne ga]; exact mup_same⟩
          have hFr : Fr M a fo (mup (mup M1 g (.lst [])) a (.ins "Reader" [("last", .lst (s1.last.map D.int)), ("part", .ref g), ("poise", hdD s1.poise)])) (some g) := fun y o e h3 h4 => by
            obtain ⟨q1, q2⟩ := fr1 y o e h3 h4
            exact ⟨by rw [mup_ne h3]; exact mup_get hg q1, fun z => by cases z; rw [q1] at hg; cases hg⟩
          have hX2 : mup (mup M1 g (.lst [])) a (.ins "Reader" [("last", .lst (s1.last.map D.int)), ("part", .ref g), ("poise", hdD s1.poise)]) x = some (.lst (t1.map tkD)) := by rw [mup_ne xa]; exact mup_get hg hX
          refine l_Reader_heard hR fun M2 f2 h2 fr2 => ?_
          obtain ⟨hX3, nx3⟩ := fr2 x _ hX2 xa (fun z => gx (by cases z; rfl))
          have lt : t1.length ≤ 1 := by
            split at e1
            · cases e1; split <;> simp
            · cases e1; simp
          have lj : (judge s1.poise (wordOf ps)).1.length ≤ 2 := judge_len
          walk_at "z"
          refine i_ext hX3 (by rw [List.length_map, List.length_map, sizeLine_eq]; show t1.length + (judge s1.poise (wordOf ps)).1.length ≤ 16777216; omega) ?_
          rw [← List.map_append]
          walk_at "z"
          refine i_rtF mup_same ?_
          have hR2 : RdAt (mup M2 x (.lst ((t1 ++ (judge s1.poise (wordOf ps)).1).map tkD))) a ⟨s1.last, (if (judge s1.poise (wordOf ps)).2.1 then some [] else none), (judge s1.poise (wordOf ps)).2.2⟩ f2 := ⟨by rw [mup_ne (Ne.symm xa)]; exact h2.me, h2.part.keep fun f hf => mup_ne (fun z => nx3 (by rw [hf, z]))⟩
          have fr3 : Fr M a fo (mup M2 x (.lst ((t1 ++ (judge s1.poise (wordOf ps)).1).map tkD))) f2 := fun y o e h3 h4 => by
            obtain ⟨q1, q2⟩ := hFr.trans fr2 y o e h3 h4
            exact ⟨by rw [mup_ne (fun z => by rw [z, hx] at e; cases e)]; exact q1, q2⟩
          obtain ⟨g1, g2⟩ := fin mup_same hR2 fr3 nx3
          exact q _ _ g1 g2
        · have e3 : ¬ ps.length = 10 := by omega
          rw [if_neg e3] at q
          walk_at "y"
          refine i_rtF hX ?_
          obtain ⟨g1, g2⟩ := fin hX h1 fr1 nx1
          exact q _ _ g1 g2
  · intro k hk
    have hm2 : mup M x (.lst []) a = some (.ins "Reader" [("last", .lst (s.last.map D.int)), ("part", rfD fo), ("poise", hdD s.poise)]) := mup_get hx hm
    have R0 : RdAt (mup M x (.lst [])) a s fo := ⟨hm2, hpt.keep fun f hf => mup_ne (fun z => hxf (by rw [hf, z]))⟩
    have hXx : mup M x (.lst []) x = some (.lst (([] : List Nat).map tkD)) := mup_same
    have hfree : ∀ y, mup M x (.lst []) y = none → y ≠ x ∧ M y = none := fun y hy => by
      by_cases z : y = x
      · rw [z, mup_same] at hy; cases hy
      · rw [mup_ne z] at hy; exact ⟨z, hy⟩
    -- the mark's sign begins a part
    have begun : ∀ (t1 : List Nat) (M1 : Mh) (g : Addr), (∀ y o, M y = some o → M1 y = some o) → M1 x = some (.lst (t1.map tkD)) → M1 g = none →
        RdAt (mup (mup M1 g (.lst (s.last.map D.int))) a (.ins "Reader" [("last", .lst (s.last.map D.int)), ("part", .ref g), ("poise", .non)])) a ⟨s.last, some s.last, none⟩ (some g) ∧
        Fr M a fo (mup (mup M1 g (.lst (s.last.map D.int))) a (.ins "Reader" [("last", .lst (s.last.map D.int)), ("part", .ref g), ("poise", .non)])) (some g) ∧ (some g : Option Addr) ≠ some x ∧
        mup (mup M1 g (.lst (s.last.map D.int))) a (.ins "Reader" [("last", .lst (s.last.map D.int)), ("part", .ref g), ("poise", .non)]) x = some (.lst (t1.map tkD)) := by
      intro t1 M1 g hM hX1 hg
      have ga : g ≠ a := fun z => by rw [z, hM a _ hm] at hg; cases hg
      have gx : g ≠ x := fun z => by rw [z, hX1] at hg; cases hg
      refine ⟨⟨mup_same, ga, by rw [mup_ne ga]; exact mup_same⟩, fun y o e h3 h4 => ?_, fun z => gx (by cases z; rfl), by rw [mup_ne xa]; exact mup_get hg hX1⟩
      exact ⟨by rw [mup_ne h3]; exact mup_get hg (hM y o e), fun z => by cases z; rw [hM _ _ e] at hg; cases hg⟩
    walk_at "y"
    refine i_tuple ?_
    walk_at "y"
    refine i_inTT (.tflat (all_flat_ints _)) ⟨rfl, by decide⟩ ?_
    rw [sign_in]
    cases hs : sign s.last with
    | false =>
      walk_at "y"
      exact hk _ _ ⟨fo, [], s, by rw [hs]; rfl, R0, fr0, hxf, hXx, rfl⟩
    | true =>
      have l7 : s.last.length = 7 := by
        unfold sign at hs
        rw [Bool.or_eq_true, decide_eq_true_eq, decide_eq_true_eq] at hs
        rcases hs with e | e <;> rw [e] <;> rfl
      cases e : s.part with
      | none =>
        rw [e] at hpt
        cases fo with
        | some f => exact False.elim hpt
        | none =>
          have hm2 : mup M x (.lst []) a = some (.ins "Reader" [("last", .lst (s.last.map D.int)), ("part", .non), ("poise", hdD s.poise)]) := hm2
          walk_at "y"
          refine i_newT fun g hg => ?_
          walk_at "y"
          rw [mup_mup]
          obtain ⟨b1, b2, b3, b4⟩ := begun [] (mup M x (.lst [])) g (fun y o h => mup_get hx h) mup_same hg
          exact hk _ _ ⟨some g, [], _, by rw [hs, e]; rfl, b1, b2, b3, b4, rfl⟩
      | some ps =>
        rw [e] at hpt
        cases fo with
        | none => exact False.elim hpt
        | some f =>
          have hm2 : mup M x (.lst []) a = some (.ins "Reader" [("last", .lst (s.last.map D.int)), ("part", .ref f), ("poise", hdD s.poise)]) := hm2
          have hF : mup M x (.lst []) f = some (.lst (ps.map D.int)) := mup_get hx hpt.2
          walk_at "y"
          refine i_bd (fun e3 => ?_) fun e3 => ?_
          · have e3 : ps.length = 7 := by omega
            walk_at "y"
            exact hk _ _ ⟨some f, [], s, by rw [hs, e]; simp [e3], R0, fr0, hxf, hXx, rfl⟩
          · have e3 : ¬ ps.length = 7 := by omega
            walk_at "y"
            rw [mup_mup]
            refine i_newT fun g hg => ?_
            have hm3 : mup M x (.lst ([] ++ [.str "lost"])) a = some (.ins "Reader" [("last", .lst (s.last.map D.int)), ("part", .ref f), ("poise", hdD s.poise)]) := mup_get hx hm
            walk_at "y"
            rw [mup_mup]
            obtain ⟨b1, b2, b3, b4⟩ := begun [260] (mup M x (.lst ([] ++ [.str "lost"]))) g (fun y o h => mup_get hx h) mup_same hg
            exact hk _ _ ⟨some g, [260], _, by rw [hs, e]; simp [e3], b1, b2, b3, b4, rfl⟩

-- needs: taker Taker_took
theorem Pl_ev (x : Option (List Int)) : Pl 3 (evD x) := by
  cases x with
  | none => exact .mono (.two (.str _ _) (.lflat (n := 0) rfl)) (by decide)
  | some r => exact .mono (.two (.str _ _) (Pl_row 0 r)) (by decide)
theorem l_Taker_takeM {a : Addr} {s : Option (List Int)} {fo : Option Addr} {ts : List Nat} {M : Mh} {Q : QZ} {E : ZX} (h : TkAt M a s fo) (ok : TOk s) (ht : ∀ n ∈ ts, n ≤ 260) (hl : ts.length ≤ 1000000)
    (q : ∀ M' fo' x, M x = none → TkAt M' a (runT s ts).2 fo' → Fr M a fo M' fo' → fo' ≠ some x → x ≠ a → M' x = some (.lst ((runT s ts).1.map evD)) → (enB true Q).rt (.ref x) M') : z_Taker_take [.ref a, .lst (ts.map tkD)] M Q E := by
  have hm := h.me
  have hpt := h.part
  show zFn _ zb_Taker_take _ _ _ _
  unfold zFn zb_Taker_take
  walk_at "y"
  refine zLcL_mapm (g := fun _ => .bl true) (fun n hn Q hq => ?_) ?_
  · obtain ⟨_, _, _, k4⟩ := tkD_eqs (ht n hn)
    walk_at "y"
    refine i_eq (tkD_Pl n) (.str _ _) ?_
    rw [k4]
    walk_at "y"
    refine i_bd (fun e => ?_) fun e => ?_
    · walk_at "y"
      exact hq
    · have hn2 : n < 260 := by have := ht n hn; omega
      walk_at "y"
      rw [tkD_it hn2]
      refine l_is_item (itD_known n) ?_
      rw [isIt_itD n hn2]
      exact hq
  walk_at "y"
  refine i_allE (bs := ts.map fun _ => true) (by simp [Function.comp_def]) ?_
  walk_at "y"
  rw [show (ts.map fun _ => true).all id = true by simp]
  walk_at "y"
  refine i_newT fun x hx => ?_
  have xa : x ≠ a := fun z => by rw [z, hm] at hx; cases hx
  have hxf : fo ≠ some x := fun z => by
    subst z
    cases e : s with
    | none => rw [e] at hpt; exact False.elim hpt
    | some ps => rw [e] at hpt; rw [hpt.2] at hx; cases hx
  walk_at "y"
  refine zLoop_map (fun l r M' => ∃ (fo' : Option Addr) (s' : Option (List Int)) (acc : List (Option (List Int))) (y : Option D), TkAt M' a s' fo' ∧ TOk s' ∧ Fr M a fo M' fo' ∧ fo' ≠ some x ∧ M' x = some (.lst (acc.map evD)) ∧ (∀ n ∈ l, n ≤ 260) ∧ acc.length + l.length ≤ 1000000 ∧ acc ++ (runT s' l).1 = (runT s ts).1 ∧ (runT s' l).2 = (runT s ts).2 ∧ r = [some (.ref a), some (.lst (ts.map tkD)), some (.ref x), y]) ?_ ?_
    ⟨fo, s, [], _, ⟨mup_get hx hm, hpt.keep fun f hf => mup_ne (fun z => hxf (by rw [hf, z]))⟩, ok, fun y o e _ h2 => ⟨mup_get hx e, h2⟩, hxf, mup_same, ht, by simp only [List.length_nil]; omega, rfl, rfl, rfl⟩
  · rintro r M' ⟨fo', s', acc, y, h1, _, fr1, nx, hX, _, _, e1, e2, rfl⟩
    walk_at "y"
    rw [show (runT s' []).1 = [] from rfl, List.append_nil] at e1
    rw [show (runT s' []).2 = s' from rfl] at e2
    subst e1 e2
    exact q _ _ _ hx h1 fr1 nx xa hX
  · rintro n l r M' k ⟨fo', s', acc, y, h1, ok1, fr1, nx, hX, hbl, hlen, e1, e2, rfl⟩ hk
    have hm1 := h1.me
    obtain ⟨ok2, hl2⟩ := tookT_ok (n := n) ok1
    walk_at "y"
    refine l_Taker_took h1 ok1 (hbl n List.mem_cons_self) fun M4 f4 h4 fr4 => ?_
    obtain ⟨hX4, nx4⟩ := fr4 x _ hX xa nx
    walk_at "z"
    refine i_ext hX4 (by rw [List.length_map, List.length_map, sizeLine_eq]; rw [List.length_cons] at hlen; omega) ?_
    rw [← List.map_append]
    refine hk _ _ ⟨f4, (tookT s' n).2, acc ++ (tookT s' n).1, _, ⟨(mup_ne (Ne.symm xa)).trans h4.me, h4.part.keep fun f hf => mup_ne (fun z => nx4 (by rw [hf, z]))⟩, ok2, fun y o e h5 h6 => ?_, nx4, mup_same, (fun m hm => hbl m (List.mem_cons_of_mem _ hm)), by rw [List.length_append]; rw [List.length_cons] at hlen; omega, by rw [List.append_assoc]; exact e1, e2, rfl⟩
    obtain ⟨q1, q2⟩ := fr1.trans fr4 y o e h5 h6
    exact ⟨by rw [mup_ne (fun z => by rw [z, hx] at e; cases e)]; exact q1, q2⟩
theorem l_Taker_take {a : Addr} {s : Option (List Int)} {fo : Option Addr} {ts : List Nat} {M : Mh} {Q : QZ} {E : ZX} (h : TkAt M a s fo) (ok : TOk s) (ht : ∀ n ∈ ts, n ≤ 260) (hl : ts.length ≤ 1000000)
    (q : ∀ M' fo', TkAt M' a (runT s ts).2 fo' → Fr M a fo M' fo' → Q (.lst ((runT s ts).1.map evD)) M') : z_Taker_take [.ref a, .lst (ts.map tkD)] M Q E :=
  l_Taker_takeM h ok ht hl fun M' fo' x hx h1 fr nx xa hX => i_rtF hX (q _ fo' ⟨(mdel_ne (Ne.symm xa)).trans h1.me, h1.part.keep fun f hf => mdel_ne (fun z => nx (by rw [hf, z]))⟩ fun y o e h2 h3 => by
    obtain ⟨q1, q2⟩ := fr y o e h2 h3
    exact ⟨(mdel_ne (fun z => by rw [z, hx] at e; cases e)).trans q1, q2⟩)
def okTk (x : D) : Bool := eqD x (.str "lost") || isIt x
def badTk (M : Mh) (d : D) : Prop := known M d ∧ (∀ ds, d = .lst ds → (∀ x ∈ ds, known M x ∧ Pl 64 x) ∧ ds.all okTk = false) ∧ (∀ p, d ≠ .ref p)
theorem badTk_of {M : Mh} {d : D} {t : String} (h1 : tyD M d = some t) (h2 : ∀ ds, d ≠ .lst ds) (h3 : ∀ p, d ≠ .ref p) : badTk M d := ⟨⟨_, h1⟩, (fun ds e => absurd e (h2 ds)), h3⟩
theorem l_Taker_take_bad {a : Addr} {d : D} {M : Mh} {Q : QZ} {E : ZX} (h : badTk M d) (q : E "BadItem" [] M) : z_Taker_take [.ref a, d] M Q E := by
  obtain ⟨⟨t, ht⟩, hk, hr⟩ := h
  show zFn _ zb_Taker_take _ _ _ _
  unfold zFn zb_Taker_take
  cases d with
  | lst ds =>
    obtain ⟨h1, h2⟩ := hk ds rfl
    walk_at "z"
    refine zLcL_map (fun x => .bl (okTk x)) (fun x hx Q hq => ?_) ?_
    · obtain ⟨k1, k2⟩ := h1 x hx
      walk_at "z"
      refine i_eq k2 (.str _ _) ?_
      unfold okTk at hq
      walk_at "z"
      cases e : eqD x (.str "lost") with
      | true =>
        rw [e] at hq
        walk_at "z"
        exact hq
      | false =>
        rw [e] at hq
        walk_at "z"
        refine l_is_item k1 ?_
        exact hq
    · walk_at "z"
      refine i_allE (bs := ds.map okTk) (by simp [Function.comp_def]) ?_
      walk_at "z"
      rw [show (ds.map okTk).all id = false by rw [List.all_map]; exact h2]
      walk_at "z"
      exact q
  | exc c => cases ht
  | scr c => cases ht
  | ref p => exact absurd rfl (hr p)
  | _ => walk_at "z"; exact q

-- needs: joinm look_rowA badrow
theorem i_rtNt {R : QZ} {M : Mh} {p : Addr} {ds : List D} {x : Int} (h : R (.tup [.int x, .lst ds]) (mdel (mup M p (.lst ds)) p)) : (enB true R).rt (.tup [.int x, .ref p]) (mup M p (.lst ds)) :=
  ⟨_, _, .frz mup_same, by rw [show frzD p ds (.tup [.int x, .ref p]) = .tup [.int x, .lst ds] by simp [frzD, frzDs]]; exact h⟩
theorem i_rtFt {R : QZ} {M : Mh} {p : Addr} {ds : List D} {x : Int} (e : M p = some (.lst ds)) (h : R (.tup [.int x, .lst ds]) (mdel M p)) : (enB true R).rt (.tup [.int x, .ref p]) M :=
  ⟨_, _, .frz e, by rw [show frzD p ds (.tup [.int x, .ref p]) = .tup [.int x, .lst ds] by simp [frzD, frzDs]]; exact h⟩
theorem l_Joiner_take_bad {a : Addr} {d : D} {M : Mh} {Q : QZ} {E : ZX} (h : badRow M 64 d) (q : E "BadRow" [] M) : z_Joiner_take [.ref a, d] M Q E := by
  show zFn _ zb_Joiner_take _ _ _ _
  unfold zFn zb_Joiner_take
  walk_at "z"
  refine l_look_row h.1 h.2.1 h.2.2.1 (fun e => by rw [show isRow M d 64 = false from h.isRow] at e; cases e) fun _ => ?_
  walk_at "z"
  exact q
/-- what stays of the heap behind a joiner's step -/
def JnKeep (M M' : Mh) (a w : Addr) : Prop := ∀ x, x ≠ a → x ≠ w → M x ≠ none → M' x = M x
theorem JnAt.ne {M : Mh} {a w : Addr} {ps : List (List Int)} (h : JnAt M a w ps) : a ≠ w := fun e => by have := h.me; rw [e, h.w] at this; cases this
theorem JnAt.fresh {M : Mh} {a w p : Addr} {ps : List (List Int)} (h : JnAt M a w ps) (hp : M p = none) : JnAt (mup (mup M p (.lst [])) a (.ins "Joiner" [("some", .ref p)])) a p [] :=
  ⟨mup_same, (mup_ne (fun e => by rw [e, h.me] at hp; cases hp)).trans mup_same, Nat.zero_le _, fun _ h => nomatch h⟩
theorem l_Joiner_take {a w : Addr} {ps : List (List Int)} {d : D} {fr : List Int} {M : Mh} {Q : QZ} {E : ZX} (h : JnAt M a w ps) (hd : RowAt M d fr) (hnw : d ≠ .ref w) (hb : byteL fr) (hl : fr.length ≤ 64)
    (q : ∀ M' w', (M w' = none ∨ w' = w) → JnAt M' a w' (joinL ps fr).2 → JnKeep M M' a w → Q (joinD (joinL ps fr).1) M') : z_Joiner_take [.ref a, d] M Q E := by
  obtain ⟨h1, h2, h3, h4⟩ := id h
  have ne : a ≠ w := h.ne
  have hda : d ≠ .ref a := fun e => by
    rcases hd with z | ⟨p, z, hp⟩
    · rw [e] at z; cases z
    · rw [e] at z; cases z; rw [h1] at hp; cases hp
  show zFn _ zb_Joiner_take _ _ _ _
  unfold zFn zb_Joiner_take
  walk_at "y"
  refine l_look_rowA hd hb (by omega) ?_
  walk_at "y"
  refine l_is_part hd hb hl ?_
  cases e : partB fr with
  | false =>
    walk_at "y"
    refine i_newT fun p hp => ?_
    have np : a ≠ p := ne_of_m h1 hp
    walk_at "y"
    refine i_rtG ?_
    rw [show joinL ps fr = (none, []) by unfold joinL; rw [e]; rfl] at q
    exact q _ p (.inl hp) (h.fresh hp) fun x hx hw hn => by rw [mup_ne hx, mup_ne (fun z => hn (by rw [z]; exact hp))]
  | true =>
    obtain ⟨n, k, m, r, rfl, hkm, hm⟩ := partB_len e
    walk_at "zs"
    walk_at "zs"
    walk_at "zs"
    walk_at "zs"
    dsimp only
    refine i_seqP (fun r1 M1 => r1 = [some (.ref a), some d, none, none] ∧ ∃ w1 ps1, JnAt M1 a w1 ps1 ∧ ps1.length < 10 ∧ RowAt M1 d (n :: k :: m :: r) ∧ d ≠ .ref w1 ∧ (M w1 = none ∨ w1 = w) ∧ JnKeep M M1 a w ∧ joinL ps (n :: k :: m :: r) = doneL (ps1 ++ [n :: k :: m :: r]) (n :: k :: m :: r)) ?_ ?_
    · rintro _ M1 ⟨rfl, w1, ps1, J, hl1, hd1, hn1, hw1, hk1, ej⟩
      rw [ej] at q
      obtain ⟨j1, j2, j3, j4⟩ := id J
      have ne1 : a ≠ w1 := J.ne
      walk_at "y"
      refine i_listA hd1 ?_
      walk_at "y"
      refine i_app j2 (by rw [sizeLine_eq]; unfold rowsD; rw [List.length_map]; omega) ?_
      have j2' : mup M1 w1 (.lst (rowsD ps1 ++ [.lst ((n :: k :: m :: r).map D.int)])) w1 = some (.lst (rowsD (ps1 ++ [n :: k :: m :: r]))) := by rw [mup_same]; unfold rowsD; rw [List.map_append]; rfl
      have J2 : JnAt (mup M1 w1 (.lst (rowsD ps1 ++ [.lst ((n :: k :: m :: r).map D.int)]))) a w1 (ps1 ++ [n :: k :: m :: r]) := ⟨(mup_ne ne1).trans j1, j2', by rw [List.length_append]; simp only [List.length_cons, List.length_nil]; omega, fun p hp => by
        rcases List.mem_append.mp hp with hp | hp
        · exact j4 p hp
        · rw [List.mem_singleton.mp hp]; exact ⟨by simp only [List.length_cons]; omega, hl⟩⟩
      have hd2 : RowAt (mup M1 w1 (.lst (rowsD ps1 ++ [.lst ((n :: k :: m :: r).map D.int)]))) d (n :: k :: m :: r) := hd1.keep fun p e => mup_ne fun z => hn1 (by rw [e, z])
      have hk2 : JnKeep M (mup M1 w1 (.lst (rowsD ps1 ++ [.lst ((n :: k :: m :: r).map D.int)]))) a w := fun x hx hw hn => by
        rw [mup_ne (fun z => ?_)]
        · exact hk1 x hx hw hn
        · rcases hw1 with z1 | z1
          · exact hn (by rw [z]; exact z1)
          · exact hw (z.trans z1)
      generalize mup M1 w1 (.lst (rowsD ps1 ++ [.lst ((n :: k :: m :: r).map D.int)])) = M2 at J2 hd2 hk2 j2' ⊢
      obtain ⟨i1, i2, i3, i4⟩ := id J2
      walk_at "y"
      refine i_ixA hd2 atI_2 ?_
      walk_at "y"
      have eD : doneL (ps1 ++ [n :: k :: m :: r]) (n :: k :: m :: r) = if ((ps1 ++ [n :: k :: m :: r]).length : Int) < m then (none, ps1 ++ [n :: k :: m :: r]) else (some (n, bodyL (ps1 ++ [n :: k :: m :: r])), []) := rfl
      generalize ps1 ++ [n :: k :: m :: r] = ps2 at J2 i2 i3 i4 eD q ⊢
      refine i_bd (fun e2 => ?_) fun e2 => ?_
      · walk_at "y"
        refine i_rtG ?_
        rw [eD, if_pos e2] at q
        exact q _ w1 hw1 J2 hk2
      · rw [eD, if_neg e2] at q
        walk_at "y"
        refine i_newT fun p hp => ?_
        have npa : a ≠ p := ne_of_m i1 hp
        have npw : w1 ≠ p := ne_of_m i2 hp
        have hdp : d ≠ .ref p := fun z => by
          rcases hd2 with z1 | ⟨p', z1, hp'⟩
          · rw [z] at z1; cases z1
          · rw [z] at z1; cases z1; rw [hp] at hp'; cases hp'
        walk_at "y"
        refine zLoop_ind (fun l r1 M3 => ∃ ps3 ps4 x, ps2 = ps3 ++ ps4 ∧ l = rowsD ps4 ∧ r1 = [some (.ref a), some d, some (.ref p), x] ∧ M3 = mup M2 p (.lst ((bodyL ps3).map D.int))) ?_ ?_ ⟨[], ps2, none, rfl, rfl, rfl, rfl⟩
        · rintro r1 M3 ⟨ps3, ps4, x, e3, e4, rfl, rfl⟩
          have : ps4 = [] := by cases ps4 with | nil => rfl | cons _ _ => cases e4
          subst this
          rw [List.append_nil] at e3
          subst e3
          refine ⟨(mup_ne npw).trans i2, ?_⟩
          walk_at "y"
          refine i_newT fun w2 hw2 => ?_
          have np2 : p ≠ w2 := fun z => by rw [← z, mup_same] at hw2; cases hw2
          have hw2' : M2 w2 = none := by rw [mup_ne (Ne.symm np2)] at hw2; exact hw2
          have na2 : a ≠ w2 := ne_of_m i1 hw2'
          have hd3 : RowAt (mup (mup M2 p (.lst ((bodyL ps2).map D.int))) w2 (.lst [])) d (n :: k :: m :: r) := hd2.keep fun x e => by
            rw [mup_ne (fun z => ?_), mup_ne (fun z => hdp (by rw [e, z]))]
            rcases hd2 with z1 | ⟨p', z1, hp'⟩
            · rw [e] at z1; cases z1
            · rw [e] at z1; cases z1; rw [z, hw2'] at hp'; cases hp'
          walk_at "y"
          refine i_ixA (hd3.keep fun x e => mup_ne fun z => hda (by rw [e, z])) atI_0 ?_
          walk_at "y"
          have hp3 : mup (mup (mup M2 p (.lst ((bodyL ps2).map D.int))) w2 (.lst [])) a (.ins "Joiner" [("some", .ref w2)]) p = some (.lst ((bodyL ps2).map D.int)) := by rw [mup_ne (Ne.symm npa), mup_ne np2, mup_same]
          refine i_rtFt hp3 ?_
          have hM : ∀ y, M2 y = none → M y = none ∨ y = w := fun y hy => by
            by_cases z1 : y = w
            · exact .inr z1
            · refine .inl ?_
              cases z2 : M y with
              | none => rfl
              | some o =>
                have := hk2 y (fun z => by rw [z, i1] at hy; cases hy) z1 (by rw [z2]; intro z; cases z)
                rw [hy, z2] at this; cases this
          refine q _ w2 (hM w2 hw2') ⟨(mdel_ne npa).trans mup_same, (mdel_ne (Ne.symm np2)).trans ((mup_ne (Ne.symm na2)).trans mup_same), Nat.zero_le _, fun _ h => nomatch h⟩ ?_
          intro y hy1 hy2 hy3
          have hy4 := hk2 y hy1 hy2 hy3
          rw [mdel_ne (fun z => by rw [← hy4, z, hp] at hy3; exact hy3 rfl), mup_ne hy1, mup_ne (fun z => by rw [← hy4, z, hw2'] at hy3; exact hy3 rfl), mup_ne (fun z => by rw [← hy4, z, hp] at hy3; exact hy3 rfl)]
          exact hy4
        · rintro d0 l r1 M3 kk ⟨ps3, ps4, x, e3, e4, rfl, rfl⟩ hk
          match ps4, e4 with
          | p4 :: ps4, e4 =>
            injection e4 with e5 e6
            subst e5 e6
            refine ⟨(mup_ne npw).trans i2, ?_⟩
            walk_at "y"
            have hp4 := i4 p4 (by rw [e3]; exact List.mem_append_right _ List.mem_cons_self)
            refine i_slL (ds := p4.map D.int) ?_
            rw [show (3 : Int) = ((3 : Nat) : Int) from rfl, cutD_from, ← List.map_drop]
            walk_at "y"
            have hlen : (bodyL ps3).length ≤ 640 := by
              have hq : ∀ l : List (List Int), (∀ p ∈ l, p.length ≤ 64) → (bodyL l).length ≤ 64 * l.length := by
                intro l
                induction l with
                | nil => intro _; exact Nat.le_refl _
                | cons x l ih =>
                  intro hx
                  have h1 := ih fun p hp => hx p (List.mem_cons_of_mem _ hp)
                  have h2 := hx x List.mem_cons_self
                  show (List.drop 3 x ++ bodyL l).length ≤ _
                  rw [List.length_append, List.length_drop, List.length_cons]; omega
              have h5 := hq ps3 fun p hp => (i4 p (by rw [e3]; exact List.mem_append_left _ hp)).2
              have h6 : ps3.length ≤ 10 := by have := i3; rw [e3, List.length_append] at this; omega
              omega
            refine i_ext mup_same (by rw [List.length_map, List.length_map, List.length_drop, sizeLine_eq]; omega) ?_
            rw [mup_mup]
            walk_at "y"
            refine hk _ _ ⟨ps3 ++ [p4], ps4, _, by rw [e3, List.append_assoc]; rfl, rfl, rfl, ?_⟩
            congr 2
            unfold bodyL
            rw [List.map_append, List.flatten_append, List.map_append]
            show _ = _ ++ ((List.drop 3 p4) ++ []).map D.int
            rw [List.append_nil]
    · intro k2 hk2
      walk_at "y"
      refine i_ixA hd atI_1 ?_
      walk_at "y"
      refine i_bd (fun e2 => ?_) fun e2 => ?_
      · walk_at "y"
        refine i_newT fun p hp => ?_
        have np : a ≠ p := ne_of_m h1 hp
        walk_at "y"
        have hj := h.fresh hp
        refine hk2 _ _ ⟨rfl, p, [], hj, by decide, ?_, ?_, .inl hp, ?_, ?_⟩
        · exact hd.keep fun x e => by
            rw [mup_ne (fun z => hda (by rw [e, z])), mup_ne (fun z => ?_)]
            rcases hd with z1 | ⟨p', z1, hp'⟩
            · rw [e] at z1; cases z1
            · rw [e] at z1; cases z1; rw [z, hp] at hp'; cases hp'
        · intro z
          rcases hd with z1 | ⟨p', z1, hp'⟩
          · rw [z] at z1; cases z1
          · rw [z] at z1; cases z1; rw [hp] at hp'; cases hp'
        · exact fun x hx hw hn => by rw [mup_ne hx, mup_ne (fun z => hn (by rw [z]; exact hp))]
        · unfold joinL
          rw [e]
          have e3 : (n :: k :: m :: r).getD 1 0 = 0 := e2
          rw [if_pos rfl, if_pos e3]; rfl
      · walk_at "y"
        refine l_Joiner_goes_on h hd ?_
        have e3 : ¬ (n :: k :: m :: r).getD 1 0 = 0 := e2
        cases eg : goesB ps (n :: k :: m :: r) with
        | true =>
          walk_at "y"
          have hl10 : ps.length < 10 := by
            cases ps with
            | nil => cases eg
            | cons f l =>
              have := Bool.and_eq_true_iff.mp eg
              have e4 : k = ((f :: l).length : Int) := of_decide_eq_true this.1
              omega
          refine hk2 _ _ ⟨rfl, w, ps, h, hl10, hd, hnw, .inr rfl, fun _ _ _ _ => rfl, ?_⟩
          unfold joinL
          rw [e, if_pos rfl, if_neg e3, eg, if_pos rfl]
        | false =>
          walk_at "y"
          refine i_newT fun p hp => ?_
          have np : a ≠ p := ne_of_m h1 hp
          walk_at "y"
          refine i_rtG ?_
          rw [show joinL ps (n :: k :: m :: r) = (none, []) by unfold joinL; rw [e, if_pos rfl, if_neg e3, eg]; rfl] at q
          exact q _ p (.inl hp) (h.fresh hp) fun x hx hw hn => by rw [mup_ne hx, mup_ne (fun z => hn (by rw [z]; exact hp))]

-- needs: lanesm Lanes_held Lanes_one Lanes_drop_late gathered look_rowA badrow
inductive Runs (L : Nat) : Int → LF → List D → Int → LF → Prop
  | stop {t : Int} {f : LF} : fullB L f = false → Runs L t f [] t f
  | step {t t' : Int} {f f' : LF} {es : List D} : fullB L f = true → Runs L ((t + 1) % 256) (dropF ((t + 1) % 256) (popF t f)) es t' f' → Runs L t f (evL t (headsF L f) :: es) t' f'
def totF (L : Nat) (f : LF) : Nat := ((List.range L).map fun i => (f i).length).sum
def measL (L : Nat) (t : Int) (f : LF) : Nat := totF L f * 256 + (((((f 0).headD []).headD 0) - t) % 256).toNat
theorem popF_len {t : Int} {f : LF} {i : Nat} : (popF t f i).length ≤ (f i).length := by
  unfold popF
  split
  · rw [List.length_tail]; omega
  · exact Nat.le_refl _
theorem measL_step {L : Nat} {t : Int} {f : LF} (hL : okL L) (t0 : 0 ≤ t) (t1 : t < 256) (hb : ∀ r ∈ f 0, byteL r ∧ r ≠ []) (hf : f 0 ≠ []) : measL L ((t + 1) % 256) (dropF ((t + 1) % 256) (popF t f)) < measL L t f := by
  have hle : ∀ i, (dropF ((t + 1) % 256) (popF t f) i).length ≤ (f i).length := fun i => Nat.le_trans dropL_len popF_len
  obtain ⟨r0, q0, e0⟩ : ∃ r0 q0, f 0 = r0 :: q0 := by
    cases e : f 0 with
    | nil => exact absurd e hf
    | cons a l => exact ⟨a, l, rfl⟩
  obtain ⟨hr1, hr2⟩ := hb r0 (by rw [e0]; exact List.mem_cons_self)
  obtain ⟨b, rr, rfl⟩ : ∃ b rr, r0 = b :: rr := by
    cases r0 with
    | nil => exact absurd rfl hr2
    | cons b rr => exact ⟨b, rr, rfl⟩
  have hbb := hr1 b List.mem_cons_self
  have htot : ∀ g : LF, totF L g = (g 0).length + (totF L g - (g 0).length) ∧ (g 0).length ≤ totF L g := fun g => by
    unfold totF
    rcases hL with e | e | e <;> subst e <;> simp [List.range_succ] <;> omega
  have htl : totF L (dropF ((t + 1) % 256) (popF t f)) ≤ totF L f ∧ (totF L (dropF ((t + 1) % 256) (popF t f)) = totF L f → (dropF ((t + 1) % 256) (popF t f) 0).length = (f 0).length) := by
    have h0 := hle 0
    have h1 := hle 1
    have h2 := hle 2
    have h3 := hle 3
    unfold totF
    rcases hL with e | e | e <;> subst e <;> simp [List.range_succ] <;> omega
  have hm : ∀ x : Int, (x % 256).toNat < 256 := fun x => by omega
  unfold measL
  by_cases e1 : totF L (dropF ((t + 1) % 256) (popF t f)) = totF L f
  · have e2 := htl.2 e1
    have e3 : popF t f 0 = f 0 := by
      unfold popF
      split
      · exfalso
        rename_i e4
        have : (dropF ((t + 1) % 256) (popF t f) 0).length ≤ (popF t f 0).length := dropL_len
        have e5 : (popF t f 0).length = (f 0).length - 1 := by unfold popF; rw [if_pos e4, List.length_tail]
        rw [e2, e5, e0, List.length_cons] at this
        omega
      · rfl
    have e4 : dropF ((t + 1) % 256) (popF t f) 0 = f 0 := by
      show dropL ((t + 1) % 256) (popF t f 0) = f 0
      rw [e3]
      exact (List.dropWhile_sublist _).eq_of_length (by show (dropL ((t + 1) % 256) (f 0)).length = _; rw [← e3]; exact e2.trans (by rw [e3]))
    have e5 : b ≠ t := fun z => by
      have : popF t f 0 = (f 0).tail := by unfold popF; rw [e0]; exact if_pos z
      rw [e3, e0] at this
      have := congrArg List.length this
      simp at this
    rw [e1, e4, e0]
    show totF L f * 256 + ((b - (t + 1) % 256) % 256).toNat < totF L f * 256 + ((b - t) % 256).toNat
    omega
  · have := htl.1
    have h1 := hm (((dropF ((t + 1) % 256) (popF t f) 0).headD []).headD 0 - (t + 1) % 256)
    have h2 := hm (((f 0).headD []).headD 0 - t)
    have : totF L (dropF ((t + 1) % 256) (popF t f)) + 1 ≤ totF L f := by omega
    have := Nat.mul_le_mul_right 256 this
    omega
theorem i_eqNilA {M : Mh} {Q : QZ} {d : D} {fr : List Int} (h : RowAt M d fr) (q : Q (.bl (decide (fr = []))) M) : dEq d (.lst []) M Q := by
  have e : eqD (.lst (fr.map D.int)) (.lst []) = decide (fr = []) := by rw [eqD_nil]; cases fr <;> rfl
  rcases h with rfl | ⟨p, rfl, hp⟩
  · exact i_eq (.ints _) (.lflat rfl) (by unfold rowD; rw [e]; exact q)
  · exact i_eqR hp (.ints _) (.lflat rfl) (by rw [e]; exact q)
theorem l_Lanes_come {a : Addr} {ws : List Addr} {t : Int} {f : LF} {lane : Nat} {d : D} {fr : List Int} {M : Mh} {Q : QZ} {E : ZX} (h : LnAt M a ws t f) (hla : lane < ws.length) (hd : RowAt M d fr) (hb : byteL fr) (hl : fr.length ≤ 64) (hne : fr ≠ []) (hs : ∀ i, i < ws.length → (f i).length < 4000)
    (q : ∀ M' es t' f', Runs ws.length t (dropF t (setF f lane (f lane ++ [fr]))) es t' f' → LnAt M' a ws t' f' → (∀ y, y ≠ a → y ∉ ws → M y ≠ none → M' y = M y) → Q (.lst es) M') : z_Lanes_come [.ref a, .int (lane : Nat), d] M Q E := by
  have hme := h.me
  have hL4 : ws.length ≤ 4 := by rcases h.L with e | e | e <;> omega
  have hwl : ws[lane]? = some ws[lane] := List.getElem?_eq_getElem hla
  generalize ws[lane] = w at hwl
  have hw := h.q lane w hwl
  show zFn _ zb_Lanes_come _ _ _ _
  unfold zFn zb_Lanes_come
  walk_at "y"
  refine l_is_whole (known_int _) ?_
  rw [iw_true (by omega) (by omega)]
  walk_at "y"
  refine l_look_rowA hd hb (by omega) ?_
  walk_at "y"
  refine i_eqNilA hd ?_
  rw [decide_eq_false hne]
  walk_at "y"
  refine i_ixL (d := .ref w) (atI_nat (by rw [List.getElem?_map, hwl]; rfl)) ?_
  walk_at "y"
  refine i_listA hd ?_
  walk_at "y"
  refine i_app hw (by unfold rowsD; rw [List.length_map, sizeLine_eq]; have := hs lane hla; omega) ?_
  rw [show rowsD (f lane) ++ [.lst (fr.map D.int)] = rowsD (f lane ++ [fr]) by unfold rowsD; rw [List.map_append]; rfl]
  have h1 : LnAt (mup M w (.lst (rowsD (f lane ++ [fr])))) a ws t (setF f lane (f lane ++ [fr])) := h.set hwl (fun r hr => by
    rcases List.mem_append.mp hr with hr | hr
    · exact h.ok lane hla r hr
    · rw [List.mem_singleton.mp hr]; exact ⟨hb, hl, hne⟩) (by rw [List.length_append]; have := hs lane hla; simp only [List.length_cons, List.length_nil]; omega)
  have hk1 : LnKeep M (mup M w (.lst (rowsD (f lane ++ [fr])))) a ws := fun y _ hy => mup_ne fun z => hy (by rw [z]; exact List.mem_of_getElem? hwl)
  have hsz1 : ∀ i, i < ws.length → (setF f lane (f lane ++ [fr]) i).length ≤ 4000 := fun i hi => by
    unfold setF
    split
    · rw [List.length_append]; have := hs lane hla; simp only [List.length_cons, List.length_nil]; omega
    · have := hs i hi; omega
  generalize mup M w (.lst (rowsD (f lane ++ [fr]))) = M1 at h1 hk1 ⊢
  generalize setF f lane (f lane ++ [fr]) = f1 at h1 hsz1 q ⊢
  walk_at "y"
  refine i_newT fun s hsn => ?_
  have h2 := h1.keep (M' := mup M1 s (.lst [])) fun y o hy => mup_get hsn hy
  have hsa : a ≠ s := ne_of_m h1.me hsn
  have hsw : s ∉ ws := fun z => by
    obtain ⟨i, hi, e⟩ := List.getElem_of_mem z
    have := h1.q i s (by rw [List.getElem?_eq_getElem hi, e])
    rw [hsn] at this; cases this
  have hs2 : mup M1 s (.lst []) s = some (.lst []) := mup_same
  have hsw2 : M s ≠ none → False := fun z => z ((hk1 s (Ne.symm hsa) hsw).symm.trans hsn)
  have hk2 : ∀ y, y ≠ a → y ∉ ws → y ≠ s → mup M1 s (.lst []) y = M y := fun y y1 y2 y3 => by rw [mup_ne y3]; exact hk1 y y1 y2
  generalize mup M1 s (.lst []) = M2 at h2 hs2 hk2 ⊢
  have hme2 := h2.me
  walk_at "y"
  refine l_Lanes_drop_late h2 fun M3 h3 hk3 => ?_
  have hs3 : M3 s = some (.lst []) := (hk3 s (Ne.symm hsa) hsw).trans hs2
  have hk3' : ∀ y, y ≠ a → y ∉ ws → y ≠ s → M3 y = M y := fun y y1 y2 y3 => (hk3 y y1 y2).trans (hk2 y y1 y2 y3)
  have hms : measL ws.length t (dropF t f1) ≤ 5000000 := by
    have hle : ∀ i, i < ws.length → (dropF t f1 i).length ≤ 4000 := fun i hi => Nat.le_trans dropL_len (hsz1 i hi)
    have : totF ws.length (dropF t f1) ≤ 16000 := by
      unfold totF
      rcases h.L with e | e | e <;> rw [e] at hle ⊢ <;> simp [List.range_succ]
      · have h0 := hle 0 (by decide); have h1 := hle 1 (by decide); omega
      · have h0 := hle 0 (by decide); have h1 := hle 1 (by decide); have h2 := hle 2 (by decide); omega
      · have h0 := hle 0 (by decide); have h1 := hle 1 (by decide); have h2 := hle 2 (by decide); have h3 := hle 3 (by decide); omega
    unfold measL
    have := Nat.mul_le_mul_right 256 this
    omega
  walk_at "zs"
  have fullE : ∀ g : LF, ((List.range ws.length).map fun i => D.bl (decide (g i ≠ []))) = ((List.range ws.length).map fun i => decide (g i ≠ [])).map D.bl := fun g => by rw [List.map_map]; rfl
  refine zWhile_ind (P := fun n r M' => ∃ (es0 : List D) (t1 : Int) (g : LF), LnAt M' a ws t1 g ∧ M' s = some (.lst es0) ∧ (∀ es t' f', Runs ws.length t1 g es t' f' → Runs ws.length t (dropF t f1) (es0 ++ es) t' f') ∧ es0.length + n ≤ 5000000 ∧ n = measL ws.length t1 g ∧ (∀ y, y ≠ a → y ∉ ws → y ≠ s → M y ≠ none → M' y = M y) ∧ (∃ x4, r = [some (.ref a), some (.int (lane : Nat)), some d, some (.ref s), x4])) ?_ (measL ws.length t (dropF t f1)) ⟨[], t, dropF t f1, h3, hs3, fun es t' f' z => z, by simpa using hms, rfl, fun y y1 y2 y3 _ => hk3' y y1 y2 y3, none, rfl⟩
  rintro n r M4 k ⟨es0, t1, g, h4, hs4, hr4, hn4, rfl, hk4, x4, rfl⟩ hkk
  have hme4 := h4.me
  walk_at "y"
  refine zLcL_ws (g := fun i => .bl (decide (g i ≠ []))) (fun i w hw Q hq => ?_) ?_
  · have hw2 := h4.q i w hw
    walk_at "y"
    refine i_neG (.at hw2) (.refl _) (.mono (Pl_rows 0 _) (by decide)) (.lflat rfl) ?_
    rw [eqD_nil]
    have e9 : ∀ b, b = decide (g i ≠ []) → Q (some (.bl b)) M4 := fun b e => by rw [e]; exact hq
    refine e9 _ ?_
    cases g i <;> rfl
  · rw [fullE]
    walk_at "y"
    refine i_allE rfl ?_
    rw [show (((List.range ws.length).map fun i => decide (g i ≠ [])).all id) = fullB ws.length g by unfold fullB; rw [List.all_map]; rfl]
    cases ef : fullB ws.length g with
    | false =>
      walk_at "y"
      refine i_rtF hs4 ?_
      have kd : ∀ y o, y ≠ s → M4 y = some o → mdel M4 s y = some o := fun y o hy ho => (mdel_ne hy).trans ho
      refine q _ es0 t1 g (by simpa using hr4 [] t1 g (.stop ef)) ⟨kd _ _ hsa h4.me, fun i w hw => kd _ _ (fun z => hsw (by rw [← z]; exact List.mem_of_getElem? hw)) (h4.q i w hw), h4.inj, h4.L, h4.t0, h4.t1, h4.ok, h4.sz⟩ fun y y1 y2 y3 => ?_
      have ys : y ≠ s := fun z => hsw2 (by rw [← z]; exact y3)
      rw [mdel_ne ys]; exact hk4 y y1 y2 ys y3
    | true =>
      walk_at "y"
      refine l_Lanes_one h4 ef fun M5 h5 hk5 => ?_
      have hs5 : M5 s = some (.lst es0) := (hk5 s (Ne.symm hsa) hsw (by rw [hs4]; simp)).trans hs4
      have hme5 := h5.me
      walk_at "y"
      have h6 : LnAt (mup M5 s (.lst (es0 ++ [evL t1 (headsF ws.length g)]))) a ws ((t1 + 1) % 256) (popF t1 g) := ⟨(mup_ne hsa).trans h5.me, fun i w hw => (mup_ne (fun z => hsw (by rw [← z]; exact List.mem_of_getElem? hw))).trans (h5.q i w hw), h5.inj, h5.L, h5.t0, h5.t1, h5.ok, h5.sz⟩
      refine l_Lanes_drop_late h6 fun M7 h7 hk7 => ?_
      have h00 : 0 < ws.length := by rcases h.L with e | e | e <;> omega
      have hlt := measL_step (f := g) h4.L h4.t0 h4.t1 (fun r hr => ⟨(h4.ok 0 h00 r hr).1, (h4.ok 0 h00 r hr).2.2⟩) (of_decide_eq_true (List.all_eq_true.mp ef 0 (List.mem_range.mpr h00)))
      refine hkk _ _ _ hlt ⟨es0 ++ [evL t1 (headsF ws.length g)], (t1 + 1) % 256, dropF ((t1 + 1) % 256) (popF t1 g), h7, (hk7 s (Ne.symm hsa) hsw).trans mup_same, fun es t' f' hz => ?_, ?_, rfl, fun y y1 y2 y3 y4 => ?_, _, rfl⟩
      · rw [List.append_assoc]
        exact hr4 _ _ _ (.step ef hz)
      · rw [List.length_append]; simp only [List.length_cons, List.length_nil]; omega
      · rw [hk7 y y1 y2, mup_ne y3, hk5 y y1 y2 (by rw [hk4 y y1 y2 y3 y4]; exact y4)]
        exact hk4 y y1 y2 y3 y4

-- needs: reader Reader_found
theorem ROk.init : ROk ⟨[], none, none⟩ := ⟨(fun _ h => nomatch h), Nat.zero_le _, (fun _ h => nomatch h), (fun _ h => nomatch h)⟩
theorem putR_len (s : RS) (b : Int) : (putR s b).last.length ≤ 7 := by
  show ((s.last ++ [b]).drop ((s.last ++ [b]).length - 7)).length ≤ 7
  rw [List.length_drop]; omega
theorem putR_bits {s : RS} {b : Int} (h : bitL s.last) (hb : b = 0 ∨ b = 1) : bitL (putR s b).last := bitL_drop (bitL_app h (fun n hn => by rw [List.mem_singleton.mp hn]; exact hb)) _
theorem putR_part {s : RS} {b : Int} (h : ROk s) (hb : b = 0 ∨ b = 1) : ∀ ps, (putR s b).part = some ps → bitL ps ∧ ps.length ≤ 10 := by
  intro ps e
  have e : s.part.map (· ++ [b]) = some ps := e
  cases e2 : s.part with
  | none => rw [e2] at e; cases e
  | some qs =>
    rw [e2] at e
    cases e
    obtain ⟨h1, h2⟩ := h.part qs e2
    exact ⟨bitL_app h1 (fun n hn => by rw [List.mem_singleton.mp hn]; exact hb), by rw [List.length_append]; simp only [List.length_cons, List.length_nil]; omega⟩
theorem stepR_ok {s : RS} {b : Int} (h : ROk s) (hb : b = 0 ∨ b = 1) : ROk (stepR s b).2 ∧ (stepR s b).1.length ≤ 3 := by
  have l7 := putR_len s b
  have hl := putR_bits (b := b) h.last hb
  have hp := putR_part h hb
  have ho : ∀ p, (putR s b).poise = some p → pm p := h.poise
  unfold stepR
  generalize putR s b = s0 at l7 hl hp ho
  unfold findR
  generalize hx : (if sign s0.last && decide (s0.part.map List.length ≠ some 7) then ((if s0.part.isSome then [260] else []), RS.mk s0.last (some s0.last) none) else (([] : List Nat), s0)) = x
  obtain ⟨t1, s1⟩ := x
  have h1 : bitL s1.last ∧ s1.last.length ≤ 7 ∧ (∀ ps, s1.part = some ps → bitL ps ∧ ps.length ≤ 10) ∧ (∀ p, s1.poise = some p → pm p) ∧ t1.length ≤ 1 := by
    split at hx
    · cases hx
      refine ⟨hl, l7, fun ps e => ?_, (fun _ e => nomatch e), by split <;> simp⟩
      cases e
      exact ⟨hl, by omega⟩
    · cases hx
      exact ⟨hl, l7, hp, ho, by simp⟩
  obtain ⟨g1, g2, g3, g4, g5⟩ := h1
  dsimp only
  cases e : s1.part with
  | none => exact ⟨⟨g1, g2, (fun ps z => by rw [e] at z; cases z), g4⟩, by dsimp only; omega⟩
  | some ps =>
    dsimp only
    by_cases h10 : ps.length = 10
    · rw [if_pos h10]
      refine ⟨⟨g1, g2, fun qs z => ?_, judge_ok g4⟩, ?_⟩
      · have z : (if (judge s1.poise (wordOf ps)).2.1 then some [] else none) = some qs := z
        split at z
        · cases z; exact ⟨(fun _ h => nomatch h), by decide⟩
        · cases z
      · have := @judge_len s1.poise (wordOf ps)
        show (t1 ++ (judge s1.poise (wordOf ps)).1).length ≤ 3
        rw [List.length_append]; omega
    · rw [if_neg h10]
      refine ⟨⟨g1, g2, fun qs z => ?_, g4⟩, by show t1.length ≤ 3; omega⟩
      have z : s1.part = some qs := z
      obtain ⟨q1, q2⟩ := g3 qs z
      rw [e] at z; cases z
      exact ⟨q1, by omega⟩
theorem runR_ok : ∀ {bs : List Int} {s : RS}, ROk s → bitL bs → ROk (runR s bs).2 ∧ (runR s bs).1.length ≤ 3 * bs.length
  | [], s, h, _ => ⟨h, Nat.le_refl _⟩
  | b :: r, s, h, hb => by
    obtain ⟨h1, h2⟩ := stepR_ok (b := b) h (hb b List.mem_cons_self)
    obtain ⟨h3, h4⟩ := runR_ok (bs := r) h1 (fun n hn => hb n (List.mem_cons_of_mem _ hn))
    refine ⟨h3, ?_⟩
    show ((stepR s b).1 ++ (runR (stepR s b).2 r).1).length ≤ 3 * (r.length + 1)
    rw [List.length_append]; omega
theorem cutD_7 (ds : List D) : cutD ds (some (0 - 7)) none = ds.drop (ds.length - 7) := by
  unfold cutD
  have e1 : HT.sIx ds.length 0 (some (0 - 7 : Int)) = ds.length - 7 := by
    unfold HT.sIx
    first | (simp; omega) | (dsimp only; split <;> omega)
  have e2 : HT.sIx ds.length ds.length none = ds.length := rfl
  rw [e1, e2, List.take_of_length_le (by rw [List.length_drop]; omega)]
theorem l_Reader_hearM {a : Addr} {s : RS} {fo : Option Addr} {bs : List Int} {M : Mh} {Q : QZ} {E : ZX} (h : RdAt M a s fo) (ok : ROk s) (hb : bitL bs) (hl : bs.length ≤ 1000000)
    (q : ∀ M' fo' x, M x = none → RdAt M' a (runR s bs).2 fo' → Fr M a fo M' fo' → fo' ≠ some x → x ≠ a → M' x = some (.lst ((runR s bs).1.map tkD)) → (enB true Q).rt (.ref x) M') : z_Reader_hear [.ref a, .lst (bs.map D.int)] M Q E := by
  have hm := h.me
  have hpt := h.part
  show zFn _ zb_Reader_hear _ _ _ _
  unfold zFn zb_Reader_hear
  walk_at "y"
  refine l_look_bits_ok hb ?_
  walk_at "y"
  refine i_newT fun x hx => ?_
  have xa : x ≠ a := fun z => by rw [z, hm] at hx; cases hx
  have hxf : fo ≠ some x := fun z => by
    subst z
    cases e : s.part with
    | none => rw [e] at hpt; exact False.elim hpt
    | some ps => rw [e] at hpt; rw [hpt.2] at hx; cases hx
  walk_at "y"
  refine zLoop_map (fun l r M' => ∃ (fo' : Option Addr) (s' : RS) (acc : List Nat) (y : Option D), RdAt M' a s' fo' ∧ ROk s' ∧ Fr M a fo M' fo' ∧ fo' ≠ some x ∧ M' x = some (.lst (acc.map tkD)) ∧ bitL l ∧ acc.length + 3 * l.length ≤ 3000000 ∧ acc ++ (runR s' l).1 = (runR s bs).1 ∧ (runR s' l).2 = (runR s bs).2 ∧ r = [some (.ref a), some (.lst (bs.map D.int)), some (.ref x), y]) ?_ ?_
    ⟨fo, s, [], _, ⟨mup_get hx hm, hpt.keep fun f hf => mup_ne (fun z => hxf (by rw [hf, z]))⟩, ok, fun y o e _ h2 => ⟨mup_get hx e, h2⟩, hxf, mup_same, hb, by simp only [List.length_nil]; omega, rfl, rfl, rfl⟩
  · rintro r M' ⟨fo', s', acc, y, h1, _, fr1, nx, hX, _, _, e1, e2, rfl⟩
    walk_at "y"
    rw [show (runR s' []).1 = [] from rfl, List.append_nil] at e1
    rw [show (runR s' []).2 = s' from rfl] at e2
    subst e1 e2
    exact q _ _ _ hx h1 fr1 nx xa hX
  · rintro b l r M' k ⟨fo', s', acc, y, h1, ok1, fr1, nx, hX, hbl, hlen, e1, e2, rfl⟩ hk
    have hb1 := hbl b List.mem_cons_self
    have hm1 := h1.me
    have hpt1 := h1.part
    have hl1 := ok1.len
    obtain ⟨ok2, hl2⟩ := stepR_ok ok1 hb1
    refine i_ck0 ?_
    refine i_step ?_
    refine i_name ?_
    dsimp only [st]
    refine i_seqP (P := fun r M2 => ∃ y', RdAt M2 a ⟨(putR s' b).last, s'.part, s'.poise⟩ fo' ∧ Fr M a fo M2 fo' ∧ M2 x = some (.lst (acc.map tkD)) ∧ y' = some (.int b) ∧ r = [some (.ref a), some (.lst (bs.map D.int)), some (.ref x), y']) ?_ ?_
    · rintro r M2 ⟨y', h2, fr2, hX2, rfl, rfl⟩
      have hm2 := h2.me
      have hpt2 := h2.part
      refine i_seqP (P := fun r M3 => RdAt M3 a (putR s' b) fo' ∧ Fr M a fo M3 fo' ∧ M3 x = some (.lst (acc.map tkD)) ∧ r = [some (.ref a), some (.lst (bs.map D.int)), some (.ref x), some (.int b)]) ?_ ?_
      · rintro r M3 ⟨h3, fr3, hX3, rfl⟩
        have hm3 := h3.me
        walk_at "y"
        refine l_Reader_found h3 (putR_bits ok1.last hb1) (putR_len s' b) (putR_part ok1 hb1) fun M4 f4 h4 fr4 => ?_
        obtain ⟨hX4, nx4⟩ := fr4 x _ hX3 xa nx
        walk_at "z"
        refine i_ext hX4 (by rw [List.length_map, List.length_map, sizeLine_eq]; rw [List.length_cons] at hlen; show acc.length + (stepR s' b).1.length ≤ 16777216; omega) ?_
        rw [← List.map_append]
        refine hk _ _ ⟨f4, (stepR s' b).2, acc ++ (stepR s' b).1, _, ⟨(mup_ne (Ne.symm xa)).trans h4.me, h4.part.keep fun f hf => mup_ne (fun z => nx4 (by rw [hf, z]))⟩, ok2, fun y o e h5 h6 => ?_, nx4, mup_same, (fun n hn => hbl n (List.mem_cons_of_mem _ hn)), by rw [List.length_append]; rw [List.length_cons] at hlen; omega, by rw [List.append_assoc]; exact e1, e2, rfl⟩
        obtain ⟨q1, q2⟩ := fr3.trans fr4 y o e h5 h6
        exact ⟨by rw [mup_ne (fun z => by rw [z, hx] at e; cases e)]; exact q1, q2⟩
      · intro k2 hk2
        cases e3 : s'.part with
        | none =>
          rw [e3] at hpt2
          cases fo' with
          | some f => exact False.elim hpt2
          | none =>
            have hm2 : M2 a = some (.ins "Reader" [("last", .lst ((putR s' b).last.map D.int)), ("part", .non), ("poise", hdD s'.poise)]) := hm2
            walk_at "y"
            exact hk2 _ _ ⟨⟨hm2, by show partAt M2 a (s'.part.map _) none; rw [e3]; trivial⟩, fr2, hX2, rfl⟩
        | some ps =>
          rw [e3] at hpt2
          cases fo' with
          | none => exact False.elim hpt2
          | some f =>
            have hm2 : M2 a = some (.ins "Reader" [("last", .lst ((putR s' b).last.map D.int)), ("part", .ref f), ("poise", hdD s'.poise)]) := hm2
            have hF : M2 f = some (.lst (ps.map D.int)) := hpt2.2
            have hps := (ok1.part ps e3).2
            have xf : x ≠ f := fun z => nx (by rw [z])
            walk_at "y"
            refine hk2 _ _ ⟨⟨(mup_ne (Ne.symm hpt2.1)).trans hm2, by
              show partAt _ a (s'.part.map _) (some f)
              rw [e3]
              exact ⟨hpt2.1, by rw [mup_same]; simp⟩⟩, fun y o e h5 h6 => ?_, (mup_ne xf).trans hX2, rfl⟩
            obtain ⟨q1, q2⟩ := fr2 y o e h5 h6
            exact ⟨(mup_ne (fun z => q2 (by rw [z]))).trans q1, q2⟩
    · intro k2 hk2
      walk_at "y"
      rw [show cutD (List.map D.int s'.last ++ [D.int b]) (some (0 - ↑(n0_SIGNS.map D.int).length)) none = (putR s' b).last.map D.int by
        rw [show ((n0_SIGNS.map D.int).length : Int) = 7 from rfl, cutD_7]
        show _ = ((s'.last ++ [b]).drop ((s'.last ++ [b]).length - 7)).map D.int
        rw [List.map_drop, List.map_append, List.length_append, List.length_map, List.length_append]; rfl]
      walk_at "y"
      refine hk2 _ _ ⟨_, ⟨mup_same, hpt1.keep fun f hf => mup_ne (fun z => ?_)⟩, fun y o e h5 h6 => ?_, (mup_ne xa).trans hX, rfl, rfl⟩
      · subst hf
        cases e : s'.part with
        | none => rw [e] at hpt1; exact False.elim hpt1
        | some ps => rw [e] at hpt1; exact hpt1.1 z
      · obtain ⟨q1, q2⟩ := fr1 y o e h5 h6
        exact ⟨(mup_ne h5).trans q1, q2⟩
theorem l_Reader_hear {a : Addr} {s : RS} {fo : Option Addr} {bs : List Int} {M : Mh} {Q : QZ} {E : ZX} (h : RdAt M a s fo) (ok : ROk s) (hb : bitL bs) (hl : bs.length ≤ 1000000)
    (q : ∀ M' fo', RdAt M' a (runR s bs).2 fo' → Fr M a fo M' fo' → Q (.lst ((runR s bs).1.map tkD)) M') : z_Reader_hear [.ref a, .lst (bs.map D.int)] M Q E :=
  l_Reader_hearM h ok hb hl fun M' fo' x hx h1 fr nx xa hX => i_rtF hX (q _ fo' ⟨(mdel_ne (Ne.symm xa)).trans h1.me, h1.part.keep fun f hf => mdel_ne (fun z => nx (by rw [hf, z]))⟩ fun y o e h2 h3 => by
    obtain ⟨q1, q2⟩ := fr y o e h2 h3
    exact ⟨(mdel_ne (fun z => by rw [z, hx] at e; cases e)).trans q1, q2⟩)
theorem l_Reader_hear_bad {a : Addr} {d : D} {M : Mh} {Q : QZ} {E : ZX} (h : badBits M d) (q : E "BadBits" [] M) : z_Reader_hear [.ref a, d] M Q E := by
  show zFn _ zb_Reader_hear _ _ _ _
  unfold zFn zb_Reader_hear
  walk_at "y"
  refine l_look_bits_bad h ?_
  walk_at "y"
  exact q

-- needs: reader
def toksD (h : List Nat) : D := .lst (h.map tkD)
theorem Pl_toks (h : List Nat) : Pl 64 (toksD h) := .lflat (by rw [List.all_map]; exact List.all_eq_true.mpr fun n _ => tkD_flat n)
theorem Pl_hd (o : Option Int) : Pl 64 (hdD o) := by cases o <;> exact .flat rfl
abbrev R0 : RS := ⟨[], none, none⟩
section
variable {M M' : Mh} {a : Addr} {sa : RS} {fa : Option Addr}
theorem RdAt.keep (h : RdAt M a sa fa) (k : ∀ y o, M y = some o → (y = a ∨ fa = some y) → M' y = some o) : RdAt M' a sa fa := ⟨k _ _ h.me (.inl rfl), h.part.keep fun q hq => by
  have hp := h.part
  subst hq
  cases e : sa.part with
  | none => rw [e] at hp; exact False.elim hp
  | some ps => rw [e] at hp; rw [hp.2]; exact k _ _ hp.2 (.inr rfl)⟩
end

-- needs: reader
theorem part_tr {M : Mh} {a : Addr} {s : Option (List Int)} {q : Addr} (hp : partAt M a s (some q)) : (∃ l, M q = some (.lst l)) ∧ q ≠ a := by
  cases s with
  | none => exact False.elim hp
  | some ps => exact ⟨⟨_, hp.2⟩, hp.1⟩

-- needs: Ear___init__ Reader_hear Taker_take rdmore parttr
theorem TkAt.keep {M M' : Mh} {a : Addr} {s : Option (List Int)} {fa : Option Addr} (h : TkAt M a s fa) (k : ∀ y o, M y = some o → (y = a ∨ fa = some y) → M' y = some o) : TkAt M' a s fa := ⟨k _ _ h.me (.inl rfl), h.part.keep fun q hq => by
  have hp := h.part
  subst hq
  cases e : s with
  | none => rw [e] at hp; exact False.elim hp
  | some ps => rw [e] at hp; rw [hp.2]; exact k _ _ hp.2 (.inr rfl)⟩
theorem findR_lt {s : RS} : ∀ n ∈ (findR s).1, n ≤ 260 := by
  unfold findR
  generalize hx : (if sign s.last && decide (s.part.map List.length ≠ some 7) then ((if s.part.isSome then [260] else []), RS.mk s.last (some s.last) none) else (([] : List Nat), s)) = x
  obtain ⟨t1, s1⟩ := x
  have h1 : ∀ n ∈ t1, n ≤ 260 := by
    split at hx
    · cases hx
      intro n hn
      split at hn
      · rw [List.mem_singleton.mp hn]; exact Nat.le_refl _
      · cases hn
    · cases hx; intro n hn; cases hn
  dsimp only
  cases e : s1.part with
  | none => exact h1
  | some ps =>
    dsimp only
    split
    · intro n hn
      rcases List.mem_append.mp hn with hn | hn
      · exact h1 n hn
      · exact judge_lt n hn
    · exact h1
theorem runR_lt : ∀ {bs : List Int} {s : RS}, ∀ n ∈ (runR s bs).1, n ≤ 260
  | [], s, n, h => nomatch h
  | b :: r, s, n, h => by
    rcases List.mem_append.mp (show n ∈ (stepR s b).1 ++ (runR (stepR s b).2 r).1 from h) with h | h
    · exact findR_lt n h
    · exact runR_lt n h
/-- what an ear tells -/
def earR (sr : RS) (sk : Option (List Int)) (bs : List Int) : List (Option (List Int)) := (runT sk (runR sr bs).1).1
theorem l_Ear_hear {e r k : Addr} {sr : RS} {fr : Option Addr} {sk : Option (List Int)} {fk : Option Addr} {bs : List Int} {M : Mh} {Q : QZ} {E : ZX} (h : ErAt M e r k sr fr sk fk) (ok : ROk sr) (ok2 : TOk sk) (hb : bitL bs) (hl : bs.length ≤ 100000)
    (q : ∀ M' fr' fk', ErAt M' e r k (runR sr bs).2 fr' (runT sk (runR sr bs).1).2 fk' → (∀ y o, M y = some o → y ≠ r → y ≠ k → fr ≠ some y → fk ≠ some y → M' y = some o ∧ fr' ≠ some y ∧ fk' ≠ some y) → Q (.lst ((runT sk (runR sr bs).1).1.map evD)) M') : z_Ear_hear [.ref e, .lst (bs.map D.int)] M Q E := by
  have h1 := h.me
  have h2 := h.R.me
  have h3 := h.T.me
  show zFn _ zb_Ear_hear _ _ _ _
  unfold zFn zb_Ear_hear
  walk_at "y"
  refine l_Reader_hear h.R ok hb (by omega) fun M1 f1 hR1 fr1 => ?_
  have kT : ∀ y o, M y = some o → (y = k ∨ fk = some y) → M1 y = some o ∧ f1 ≠ some y := fun y o hy hh => by
    rcases hh with z | z
    · subst z; exact fr1 y o hy (Ne.symm h.rk) h.nrk
    · exact fr1 y o hy (fun z2 => h.nkr (by rw [z, z2])) (fun z2 => h.ff y z2 z)
  have hT1 : TkAt M1 k sk fk := h.T.keep fun y o hy hh => (kT y o hy hh).1
  have hm1 := hT1.me
  have hl1 := (runR_ok (s := sr) ok hb).2
  walk_at "y"
  refine l_Taker_take hT1 ok2 runR_lt (by omega) fun M2 f2 hT2 fr2 => ?_
  have kR : ∀ y o, M1 y = some o → (y = r ∨ f1 = some y) → M2 y = some o ∧ f2 ≠ some y := fun y o hy hh => by
    rcases hh with z | z
    · subst z; exact fr2 y o hy h.rk h.nkr
    · refine fr2 y o hy (fun z2 => ?_) (fun z2 => ?_)
      · subst z2; exact (kT y _ h3 (.inl rfl)).2 z
      · have hp := h.T.part
        rw [z2] at hp
        obtain ⟨⟨l, hl⟩, _⟩ := part_tr hp
        exact (kT y _ hl (.inr z2)).2 z
  have hR2 : RdAt M2 r (runR sr bs).2 f1 := hR1.keep fun y o hy hh => (kR y o hy hh).1
  have he1 := fr1 e _ h1 h.er h.nre
  have he2 := fr2 e _ he1.1 h.ek h.nke
  refine q M2 f1 f2 ⟨h.rk, h.er, h.ek, he1.2, (kT k _ h3 (.inl rfl)).2, he2.2, (kR r _ hR1.me (.inl rfl)).2, (fun x hx z => ?_), he2.1, hR2, hT2⟩ fun y o hy y1 y2 y3 y4 => ?_
  · have hp := hR1.part
    rw [hx] at hp
    obtain ⟨⟨l, hl⟩, _⟩ := part_tr hp
    exact (kR x _ hl (.inr hx)).2 z
  · obtain ⟨g1, g2⟩ := fr1 y o hy y1 y3
    obtain ⟨g3, g4⟩ := fr2 y o g1 y2 y4
    exact ⟨g3, g2, g4⟩
theorem l_Ear_hear_bad {e r k : Addr} {sr : RS} {fr : Option Addr} {sk : Option (List Int)} {fk : Option Addr} {d : D} {M : Mh} {Q : QZ} {E : ZX} (hE : ErAt M e r k sr fr sk fk) (h : badBits M d) (q : E "BadBits" [] M) : z_Ear_hear [.ref e, d] M Q E := by
  have h1 := hE.me
  have h2 := hE.R.me
  have h3 := hE.T.me
  show zFn _ zb_Ear_hear _ _ _ _
  unfold zFn zb_Ear_hear
  walk_at "y"
  refine l_Reader_hear_bad h ?_
  walk_at "y"
  exact q

-- needs: reader sent Reader_hear
/-! how a reader runs over what was sent -/
def last7 (l : List Int) : List Int := l.drop (l.length - 7)
theorem last7_snoc (h : List Int) (b : Int) : last7 (last7 h ++ [b]) = last7 (h ++ [b]) := by
  unfold last7
  by_cases hl : h.length ≤ 7
  · rw [show h.length - 7 = 0 by omega, List.drop_zero]
  · rw [List.length_append, List.length_drop, List.length_append, show h.length - (h.length - 7) + [b].length - 7 = 1 by simp only [List.length_cons, List.length_nil]; omega,
      show h.length + [b].length - 7 = (h.length - 7) + 1 by simp only [List.length_cons, List.length_nil]; omega]
    rw [List.drop_append_of_le_length (by rw [List.length_drop]; omega), List.drop_append_of_le_length (by omega), List.drop_drop]
theorem last7_suf (l : List Int) : ∃ g, l = g ++ last7 l := ⟨l.take (l.length - 7), (List.take_append_drop _ _).symm⟩
def sg (h : List Int) : Bool := sign (last7 h)
structure RInv (h : List Int) (s : RS) : Prop where
  last : s.last = last7 h
  part : ∀ ps, s.part = some ps → ∃ g, h = g ++ ps
theorem RInv.nil : RInv [] ⟨[], none, none⟩ := ⟨rfl, fun _ h => nomatch h⟩
theorem putR_inv {h : List Int} {s : RS} {b : Int} (i : RInv h s) : RInv (h ++ [b]) (putR s b) := by
  refine ⟨?_, fun ps e => ?_⟩
  · show last7 (s.last ++ [b]) = _
    rw [i.last, last7_snoc]
  · have e : s.part.map (· ++ [b]) = some ps := e
    cases e2 : s.part with
    | none => rw [e2] at e; cases e
    | some qs =>
      rw [e2] at e; cases e
      obtain ⟨g, hg⟩ := i.part qs e2
      exact ⟨g, by rw [hg, List.append_assoc]⟩
theorem findR_inv {h : List Int} {s : RS} (i : RInv h s) : RInv h (findR s).2 := by
  unfold findR
  generalize hx : (if sign s.last && decide (s.part.map List.length ≠ some 7) then ((if s.part.isSome then [260] else []), RS.mk s.last (some s.last) none) else (([] : List Nat), s)) = x
  obtain ⟨t1, s1⟩ := x
  have i1 : RInv h s1 := by
    split at hx
    · cases hx
      refine ⟨i.last, fun ps e => ?_⟩
      cases e
      show ∃ g, h = g ++ s.last
      rw [i.last]; exact last7_suf h
    · cases hx; exact i
  dsimp only
  cases e : s1.part with
  | none => exact i1
  | some ps =>
    dsimp only
    split
    · refine ⟨i1.last, fun qs z => ?_⟩
      have z : (if (judge s1.poise (wordOf ps)).2.1 then some [] else none) = some qs := z
      split at z
      · cases z; exact ⟨h, (List.append_nil _).symm⟩
      · cases z
    · exact i1
theorem stepR_inv {h : List Int} {s : RS} {b : Int} (i : RInv h s) : RInv (h ++ [b]) (stepR s b).2 := findR_inv (putR_inv i)
theorem runR_inv : ∀ {bs h : List Int} {s : RS}, RInv h s → RInv (h ++ bs) (runR s bs).2
  | [], h, s, i => by rw [List.append_nil]; exact i
  | b :: r, h, s, i => by
    have := runR_inv (bs := r) (stepR_inv (b := b) i)
    rw [List.append_assoc] at this
    exact this
/-! single steps -/
theorem step_quiet {h ps : List Int} {o : Option Int} {b : Int} (hl : ps.length + 1 < 10) (hs : sg (h ++ [b]) = true → ps.length + 1 = 7) : stepR ⟨last7 h, some ps, o⟩ b = ([], ⟨last7 (h ++ [b]), some (ps ++ [b]), o⟩) := by
  have e : putR ⟨last7 h, some ps, o⟩ b = ⟨last7 (h ++ [b]), some (ps ++ [b]), o⟩ := by
    show RS.mk (last7 (last7 h ++ [b])) _ _ = _
    rw [last7_snoc]; rfl
  unfold stepR
  rw [e]
  unfold findR
  have c : (sign (last7 (h ++ [b])) && decide ((some (ps ++ [b])).map List.length ≠ some 7)) = false := by
    cases q : sign (last7 (h ++ [b])) with
    | false => rfl
    | true =>
      have := hs q
      simp [this]
  dsimp only
  rw [c]
  simp only [Bool.false_eq_true, if_false]
  rw [if_neg (by rw [List.length_append]; simp only [List.length_cons, List.length_nil]; omega)]
theorem step_none {h : List Int} {o : Option Int} {b : Int} (hs : sg (h ++ [b]) = false) : stepR ⟨last7 h, none, o⟩ b = ([], ⟨last7 (h ++ [b]), none, o⟩) := by
  have e : putR ⟨last7 h, none, o⟩ b = ⟨last7 (h ++ [b]), none, o⟩ := by
    show RS.mk (last7 (last7 h ++ [b])) _ _ = _
    rw [last7_snoc]; rfl
  unfold stepR
  rw [e]
  unfold findR
  dsimp only
  rw [show sign (last7 (h ++ [b])) = false from hs]
  simp only [Bool.false_and, Bool.false_eq_true, if_false]
theorem sg_len {h : List Int} (hs : sg h = true) : (last7 h).length = 7 := by
  unfold sg sign at hs
  rw [Bool.or_eq_true, decide_eq_true_eq, decide_eq_true_eq] at hs
  rcases hs with e | e <;> rw [e] <;> rfl
theorem step_sign {h : List Int} {s : RS} {b : Int} (i : RInv h s) (hs : sg (h ++ [b]) = true) (hp : s.part.map List.length ≠ some 6) : ∃ t, stepR s b = (t, ⟨last7 (h ++ [b]), some (last7 (h ++ [b])), none⟩) ∧ (s.part = none → t = []) := by
  have i2 := putR_inv (b := b) i
  have e1 : (putR s b).last = last7 (h ++ [b]) := i2.last
  have e2 : (putR s b).part.map List.length ≠ some 7 := by
    show (s.part.map (· ++ [b])).map List.length ≠ some 7
    cases e : s.part with
    | none => simp
    | some ps =>
      rw [e] at hp
      intro z
      apply hp
      simp at z ⊢
      omega
  unfold stepR findR
  rw [e1, show sign (last7 (h ++ [b])) = true from hs, decide_eq_true e2]
  refine ⟨if (putR s b).part.isSome then [260] else [], ?_, fun z => ?_⟩
  · simp only [Bool.and_self, if_true]
    rw [if_neg (by rw [sg_len hs]; decide)]
  · show (if (s.part.map (· ++ [b])).isSome then [260] else []) = []
    rw [z]; rfl
theorem step_word {h ps : List Int} {o : Option Int} {b : Int} (hl : ps.length = 9) (hs : sg (h ++ [b]) = false) :
    stepR ⟨last7 h, some ps, o⟩ b = ((judge o (wordOf (ps ++ [b]))).1, ⟨last7 (h ++ [b]), (if (judge o (wordOf (ps ++ [b]))).2.1 then some [] else none), (judge o (wordOf (ps ++ [b]))).2.2⟩) := by
  have e : putR ⟨last7 h, some ps, o⟩ b = ⟨last7 (h ++ [b]), some (ps ++ [b]), o⟩ := by
    show RS.mk (last7 (last7 h ++ [b])) _ _ = _
    rw [last7_snoc]; rfl
  unfold stepR
  rw [e]
  unfold findR
  dsimp only
  rw [show sign (last7 (h ++ [b])) = false from hs]
  simp only [Bool.false_and, Bool.false_eq_true, if_false]
  rw [if_pos (by rw [List.length_append, hl]; rfl)]
  rfl
/-! runs -/
theorem run_quiet : ∀ {bs h ps : List Int} {o : Option Int}, ps.length + bs.length < 10 → (∀ i, 1 ≤ i → i ≤ bs.length → sg (h ++ bs.take i) = true → ps.length + i = 7) → runR ⟨last7 h, some ps, o⟩ bs = ([], ⟨last7 (h ++ bs), some (ps ++ bs), o⟩)
  | [], h, ps, o, _, _ => by simp [runR]
  | b :: r, h, ps, o, hl, hs => by
    rw [List.length_cons] at hl
    have h1 := step_quiet (h := h) (ps := ps) (o := o) (b := b) (by omega) (fun z => hs 1 (Nat.le_refl _) (by simp) z)
    show ((stepR _ b).1 ++ (runR (stepR _ b).2 r).1, (runR (stepR _ b).2 r).2) = _
    rw [h1]
    have h2 := run_quiet (bs := r) (h := h ++ [b]) (ps := ps ++ [b]) (o := o) (by rw [List.length_append]; simp only [List.length_cons, List.length_nil]; omega) (fun i i1 i2 z => by
      have := hs (i + 1) (by omega) (by rw [List.length_cons]; omega) (by rw [List.append_assoc] at z; exact z)
      rw [List.length_append]; simp only [List.length_cons, List.length_nil]; omega)
    rw [h2, List.append_assoc, List.append_assoc]; rfl
theorem run_none : ∀ {bs h : List Int} {o : Option Int}, (∀ i, 1 ≤ i → i ≤ bs.length → sg (h ++ bs.take i) = false) → runR ⟨last7 h, none, o⟩ bs = ([], ⟨last7 (h ++ bs), none, o⟩)
  | [], h, o, _ => by simp [runR]
  | b :: r, h, o, hs => by
    have h1 := step_none (h := h) (o := o) (b := b) (hs 1 (Nat.le_refl _) (by simp))
    show ((stepR _ b).1 ++ (runR (stepR _ b).2 r).1, (runR (stepR _ b).2 r).2) = _
    rw [h1]
    have h2 := run_none (bs := r) (h := h ++ [b]) (o := o) (fun i i1 i2 => by
      have := hs (i + 1) (by omega) (by rw [List.length_cons]; omega)
      rw [List.append_assoc]; exact this)
    rw [h2, List.append_assoc]; rfl
/-! words -/
def okW (l : List Int) : Bool := match l with
  | [a, b, c, d, e, f, g, h, i, j] => !(a == b && b == c) && !(h == i && i == j) && !(b == c && c == d && d == e && e == f) && !sign [b, c, d, e, f, g, h] && !sign [c, d, e, f, g, h, i] && !sign [d, e, f, g, h, i, j]
  | _ => false
def tail3 (h : List Int) : Prop := ∀ g x y z, h = g ++ [x, y, z] → ¬ (x = y ∧ y = z)
theorem tail3_nil : tail3 [] := fun g x y z e => by
  have := congrArg List.length e
  simp at this
theorem ok_put : ∀ n : Nat, n < 260 → okW (ten (putW n 1)) = true ∧ okW (ten (putW n (-1))) = true := by decide +kernel
theorem ok_item {n : Nat} {p : Int} (hn : n < 260) (hp : pm p) : okW (ten (putW n p)) = true := by
  rcases hp with e | e <;> subst e
  · exact (ok_put n hn).1
  · exact (ok_put n hn).2
theorem beg_put : ∀ n : Nat, n < 260 → sign ((ten (putW n 1)).take 7) = decide (n = 256) ∧ sign ((ten (putW n (-1))).take 7) = decide (n = 256) := by decide +kernel
theorem beg_item {n : Nat} {p : Int} (hn : n < 260) (hp : pm p) : sign ((ten (putW n p)).take 7) = decide (n = 256) := by
  rcases hp with e | e <;> subst e
  · exact (beg_put n hn).1
  · exact (beg_put n hn).2
theorem word_ten : ∀ w : Nat, w < 1024 → wordOf (ten w) = w := by decide +kernel
theorem word_item {n : Nat} {p : Int} (hn : n < 260) : wordOf (ten (putW n p)) = putW n p := by
  obtain ⟨h0, h1⟩ := putW_rng (p := p) hn
  have := word_ten (putW n p).toNat (by omega)
  rw [show ((putW n p).toNat : Int) = putW n p by omega] at this
  exact this
theorem judge_put : ∀ n : Nat, n < 260 → judge (some 1) (putW n 1) = ([n], true, some (putP n 1)) ∧ judge (some (-1)) (putW n (-1)) = ([n], true, some (putP n (-1))) := by decide +kernel
theorem judge_item {n : Nat} {p : Int} (hn : n < 260) (hp : pm p) : judge (some p) (putW n p) = ([n], true, some (putP n p)) := by
  rcases hp with e | e <;> subst e
  · exact (judge_put n hn).1
  · exact (judge_put n hn).2
theorem judge_beg {p : Int} (hp : pm p) (o : Option Int) : ∃ t, judge o (putW 256 p) = (t ++ [256], true, some (putP 256 p)) ∧ (o = none → t = []) := by
  have hw : putW 256 p = if p < 0 then 250 else 773 := by
    rcases hp with e | e <;> subst e <;> decide
  have hq : putP 256 p = if p < 0 then 1 else -1 := by
    rcases hp with e | e <;> subst e <;> decide
  rw [hw, hq]
  refine ⟨match o with | none => [] | some q => if q = (if (if p < 0 then (250 : Int) else 773) = 250 then -1 else 1) then [] else [260], ?_, fun z => by rw [z]⟩
  unfold judge
  rcases hp with e | e <;> subst e <;> rfl
/-- a sign is found at a word's seventh bit alone, if at all -/
theorem word_sg {h w : List Int} (hw : okW w = true) (ht : tail3 h) : ∀ i, 1 ≤ i → i ≤ 10 → sg (h ++ w.take i) = true → i = 7 := by
  intro i i1 i2 hs
  match w, hw with
  | [a, b, c, d, e, f, g, h', i', j'], hw =>
    have hs' : last7 (h ++ [a, b, c, d, e, f, g, h', i', j'].take i) = [0, 0, 1, 1, 1, 1, 1] ∨ last7 (h ++ [a, b, c, d, e, f, g, h', i', j'].take i) = [1, 1, 0, 0, 0, 0, 0] := by
      unfold sg sign at hs
      rwa [Bool.or_eq_true, decide_eq_true_eq, decide_eq_true_eq] at hs
    simp only [okW, Bool.and_eq_true, Bool.not_eq_true', Bool.and_eq_false_imp, beq_iff_eq, beq_eq_false_iff_ne] at hw
    obtain ⟨⟨⟨⟨⟨w1, w2⟩, w3⟩, w4⟩, w5⟩, w6⟩ := hw
    obtain ⟨gg, hg⟩ := last7_suf (h ++ [a, b, c, d, e, f, g, h', i', j'].take i)
    have long : ∀ (u v : List Int), v.length = 7 → ∀ P : List Int, P.length = 7 → last7 (u ++ v) = P → v = P := fun u v hv P hP e => by
      unfold last7 at e
      rw [List.length_append, hv, show u.length + 7 - 7 = u.length by omega, List.drop_left] at e
      exact e
    have case7 : ∀ v u : List Int, h ++ [a, b, c, d, e, f, g, h', i', j'].take i = u ++ v → v.length = 7 → sign v = false → False := fun v u e hv hn => by
      rw [e] at hs
      unfold sg last7 at hs
      rw [List.length_append, hv, show u.length + 7 - 7 = u.length by omega, List.drop_left, hn] at hs
      cases hs
    have short : ∀ P u v : List Int, P = u ++ v → last7 (h ++ [a, b, c, d, e, f, g, h', i', j'].take i) = P → v.length = ([a, b, c, d, e, f, g, h', i', j'].take i).length → h = gg ++ u ∧ [a, b, c, d, e, f, g, h', i', j'].take i = v := fun P u v hP e hl => by
      rw [e, hP, ← List.append_assoc] at hg
      exact List.append_inj' hg (by rw [hl])
    obtain e | e | e | e | e | e | e | e | e | e : i = 1 ∨ i = 2 ∨ i = 3 ∨ i = 4 ∨ i = 5 ∨ i = 6 ∨ i = 7 ∨ i = 8 ∨ i = 9 ∨ i = 10 := by omega
    · subst e
      exfalso
      rcases hs' with q | q
      · obtain ⟨q1, _⟩ := short _ [0, 0, 1, 1, 1, 1] [1] rfl q rfl
        exact ht (gg ++ [0, 0, 1]) 1 1 1 (by rw [q1, List.append_assoc]; rfl) ⟨rfl, rfl⟩
      · obtain ⟨q1, _⟩ := short _ [1, 1, 0, 0, 0, 0] [0] rfl q rfl
        exact ht (gg ++ [1, 1, 0]) 0 0 0 (by rw [q1, List.append_assoc]; rfl) ⟨rfl, rfl⟩
    · subst e
      exfalso
      rcases hs' with q | q
      · obtain ⟨q1, _⟩ := short _ [0, 0, 1, 1, 1] [1, 1] rfl q rfl
        exact ht (gg ++ [0, 0]) 1 1 1 (by rw [q1, List.append_assoc]; rfl) ⟨rfl, rfl⟩
      · obtain ⟨q1, _⟩ := short _ [1, 1, 0, 0, 0] [0, 0] rfl q rfl
        exact ht (gg ++ [1, 1]) 0 0 0 (by rw [q1, List.append_assoc]; rfl) ⟨rfl, rfl⟩
    · subst e
      exfalso
      rcases hs' with q | q
      · obtain ⟨_, q2⟩ := short _ [0, 0, 1, 1] [1, 1, 1] rfl q rfl
        simp at q2; simp_all
      · obtain ⟨_, q2⟩ := short _ [1, 1, 0, 0] [0, 0, 0] rfl q rfl
        simp at q2; simp_all
    · subst e
      exfalso
      rcases hs' with q | q
      · obtain ⟨_, q2⟩ := short _ [0, 0, 1] [1, 1, 1, 1] rfl q rfl
        simp at q2; simp_all
      · obtain ⟨_, q2⟩ := short _ [1, 1, 0] [0, 0, 0, 0] rfl q rfl
        simp at q2; simp_all
    · subst e
      exfalso
      rcases hs' with q | q
      · obtain ⟨_, q2⟩ := short _ [0, 0] [1, 1, 1, 1, 1] rfl q rfl
        simp at q2; simp_all
      · obtain ⟨_, q2⟩ := short _ [1, 1] [0, 0, 0, 0, 0] rfl q rfl
        simp at q2; simp_all
    · subst e
      exfalso
      rcases hs' with q | q
      · obtain ⟨_, q2⟩ := short _ [0] [0, 1, 1, 1, 1, 1] rfl q rfl
        simp at q2; simp_all
      · obtain ⟨_, q2⟩ := short _ [1] [1, 0, 0, 0, 0, 0] rfl q rfl
        simp at q2; simp_all
    · exact e
    · subst e
      exact (case7 [b, c, d, e, f, g, h'] (h ++ [a]) (by rw [List.append_assoc]; rfl) rfl w4).elim
    · subst e
      exact (case7 [c, d, e, f, g, h', i'] (h ++ [a, b]) (by rw [List.append_assoc]; rfl) rfl w5).elim
    · subst e
      exact (case7 [d, e, f, g, h', i', j'] (h ++ [a, b, c]) (by rw [List.append_assoc]; rfl) rfl w6).elim

-- needs: align
theorem last7_app {h t : List Int} (ht : 7 ≤ t.length) : last7 (h ++ t) = last7 t := by
  unfold last7
  rw [List.length_append, List.drop_append, List.drop_of_length_le (show h.length ≤ h.length + t.length - 7 by omega), List.nil_append]
  congr 1; omega
theorem last7_self {t : List Int} (ht : t.length ≤ 7) : last7 t = t := by
  unfold last7
  rw [show t.length - 7 = 0 by omega, List.drop_zero]
theorem word_hi {h w : List Int} (hw : okW w = true) (hl : w.length = 10) {i : Nat} (i1 : 8 ≤ i) (i2 : i ≤ 10) : sg (h ++ w.take i) = false := by
  cases q : sg (h ++ w.take i) with
  | false => rfl
  | true =>
    unfold sg at q
    rw [last7_app (by rw [List.length_take]; omega)] at q
    have := word_sg (h := []) hw tail3_nil i (by omega) i2 (by rw [List.nil_append]; exact q)
    omega
theorem word_7 {h w : List Int} (hl : w.length = 10) : sg (h ++ w.take 7) = sign (w.take 7) := by
  unfold sg
  rw [last7_app (by rw [List.length_take]; omega), last7_self (by rw [List.length_take]; omega)]
theorem tail3_word {h w : List Int} (hw : okW w = true) : tail3 (h ++ w) := by
  intro g x y z e
  match w, hw with
  | [a, b, c, d, e1, f, g1, h', i', j'], hw =>
    have e : h ++ [a, b, c, d, e1, f, g1] ++ [h', i', j'] = g ++ [x, y, z] := by rw [List.append_assoc]; exact e
    obtain ⟨_, e2⟩ := List.append_inj' e rfl
    simp only [okW, Bool.and_eq_true, Bool.not_eq_true', Bool.and_eq_false_imp, beq_iff_eq, beq_eq_false_iff_ne] at hw
    simp at e2
    obtain ⟨q1, q2, q3⟩ := e2
    subst q1 q2 q3
    intro hh
    exact hw.1.1.1.1.2 hh.1 hh.2
theorem split9 {w : List Int} (hl : w.length = 10) : ∃ x, w = w.take 9 ++ [x] := by
  obtain ⟨x, hx⟩ : ∃ x, w.drop 9 = [x] := by
    have : (w.drop 9).length = 1 := by rw [List.length_drop, hl]
    exact List.length_eq_one_iff.mp this
  exact ⟨x, by rw [← hx, List.take_append_drop]⟩
theorem runR_one (s : RS) (b : Int) : runR s [b] = stepR s b := by
  show ((stepR s b).1 ++ [], (stepR s b).2) = stepR s b
  rw [List.append_nil]
/-- an item's word, in step -/
theorem word_run {h : List Int} {n : Nat} {p : Int} (ht : tail3 h) (hn : n < 260) (hp : pm p) : runR ⟨last7 h, some [], some p⟩ (ten (putW n p)) = ([n], ⟨last7 (h ++ ten (putW n p)), some [], some (putP n p)⟩) := by
  have hw := ok_item hn hp
  have hl := ten_len (putW n p)
  have hwd := word_item (p := p) hn
  generalize ten (putW n p) = w at hw hl hwd ⊢
  obtain ⟨x, hx⟩ := split9 hl
  have l9 : (w.take 9).length = 9 := by rw [List.length_take]; omega
  have q := run_quiet (bs := w.take 9) (h := h) (ps := []) (o := some p) (by rw [l9]; decide) (fun i i1 i2 z => by
    rw [l9] at i2
    rw [List.take_take, show min i 9 = i by omega] at z
    have := word_sg hw ht i i1 (by omega) z
    simp only [List.length_nil]; omega)
  rw [List.nil_append] at q
  have s9 : sg (h ++ w.take 9 ++ [x]) = false := by
    rw [List.append_assoc, ← hx]
    have := word_hi (h := h) hw hl (i := 10) (by decide) (by decide)
    rwa [List.take_of_length_le (by omega)] at this
  have e : runR ⟨last7 h, some [], some p⟩ w = runR ⟨last7 h, some [], some p⟩ (w.take 9 ++ [x]) := by rw [← hx]
  rw [e, runR_app, q, runR_one, step_word l9 s9, ← hx, hwd, judge_item hn hp, List.append_assoc, ← hx]
  rfl
theorem items_run : ∀ {is : List Nat} {h : List Int} {p : Int}, tail3 h → (∀ n ∈ is, n < 260) → pm p → runR ⟨last7 h, some [], some p⟩ (sentB is p) = (is, ⟨last7 (h ++ sentB is p), some [], some (sentP is p)⟩) ∧ tail3 (h ++ sentB is p)
  | [], h, p, ht, _, _ => by
    show (([] : List Nat), _) = _ ∧ _
    rw [show sentB [] p = [] from rfl, List.append_nil]
    exact ⟨rfl, ht⟩
  | n :: r, h, p, ht, hi, hp => by
    have hn := hi n List.mem_cons_self
    have h1 := word_run ht hn hp
    obtain ⟨h2, h3⟩ := items_run (is := r) (h := h ++ ten (putW n p)) (tail3_word (ok_item hn hp)) (fun m hm => hi m (List.mem_cons_of_mem _ hm)) (putP_pm (n := n) hp)
    have e : sentB (n :: r) p = ten (putW n p) ++ sentB r (putP n p) := rfl
    rw [List.append_assoc] at h2 h3
    rw [e, runR_app, h1]
    exact ⟨by rw [h2]; rfl, h3⟩
/-- no mark, out of step -/
theorem word_none {h : List Int} {n : Nat} {p : Int} (ht : tail3 h) (hn : n < 260) (hb : n ≠ 256) (hp : pm p) : runR ⟨last7 h, none, none⟩ (ten (putW n p)) = ([], ⟨last7 (h ++ ten (putW n p)), none, none⟩) := by
  have hw := ok_item hn hp
  have hg := beg_item hn hp
  have hl := ten_len (putW n p)
  generalize ten (putW n p) = w at hw hg hl ⊢
  refine run_none fun i i1 i2 => ?_
  cases q : sg (h ++ w.take i) with
  | false => rfl
  | true =>
    have := word_sg hw ht i i1 (by omega) q
    subst this
    rw [word_7 hl, hg, decide_eq_false hb] at q
    cases q
theorem outs_run : ∀ {is : List Nat} {h : List Int} {p : Int}, tail3 h → (∀ n ∈ is, n < 260 ∧ n ≠ 256) → pm p → runR ⟨last7 h, none, none⟩ (sentB is p) = ([], ⟨last7 (h ++ sentB is p), none, none⟩) ∧ tail3 (h ++ sentB is p)
  | [], h, p, ht, _, _ => by
    show (([] : List Nat), _) = _ ∧ _
    rw [show sentB [] p = [] from rfl, List.append_nil]
    exact ⟨rfl, ht⟩
  | n :: r, h, p, ht, hi, hp => by
    have hn := hi n List.mem_cons_self
    have h1 := word_none ht hn.1 hn.2 hp
    obtain ⟨h2, h3⟩ := outs_run (is := r) (h := h ++ ten (putW n p)) (tail3_word (ok_item hn.1 hp)) (fun m hm => hi m (List.mem_cons_of_mem _ hm)) (putP_pm (n := n) hp)
    have e : sentB (n :: r) p = ten (putW n p) ++ sentB r (putP n p) := rfl
    rw [List.append_assoc] at h2 h3
    rw [e, runR_app, h1]
    exact ⟨by rw [h2]; rfl, h3⟩
/-- behind a mark's seventh bit -/
theorem mark_end {h : List Int} {p : Int} (hp : pm p) (o : Option Int) : ∃ t, runR ⟨last7 (h ++ (ten (putW 256 p)).take 7), some ((ten (putW 256 p)).take 7), o⟩ ((ten (putW 256 p)).drop 7) = (t ++ [256], ⟨last7 (h ++ ten (putW 256 p)), some [], some (putP 256 p)⟩) ∧ (o = none → t = []) := by
  have hw := ok_item (n := 256) (by decide) hp
  have hl := ten_len (putW 256 p)
  have hwd := word_item (n := 256) (p := p) (by decide)
  obtain ⟨t, ht, ht0⟩ := judge_beg hp o
  generalize ten (putW 256 p) = w at hw hl hwd ⊢
  obtain ⟨x, hx⟩ := split9 hl
  have l7 : (w.take 7).length = 7 := by rw [List.length_take]; omega
  have l9 : (w.take 9).length = 9 := by rw [List.length_take]; omega
  have e79 : w.take 7 ++ (w.take 9).drop 7 = w.take 9 := by
    have := List.take_append_drop 7 (w.take 9)
    rwa [List.take_take, show min 7 9 = 7 by decide] at this
  have l2 : ((w.take 9).drop 7).length = 2 := by rw [List.length_drop, l9]
  have ed : w.drop 7 = (w.take 9).drop 7 ++ [x] := by
    have : w.drop 7 = (w.take 9 ++ [x]).drop 7 := by rw [← hx]
    rw [this, List.drop_append_of_le_length (by omega)]
  have q := run_quiet (bs := (w.take 9).drop 7) (h := h ++ w.take 7) (ps := w.take 7) (o := o) (by rw [l7, l2]; decide) (fun i i1 i2 z => by
    rw [l2] at i2
    have e1 : h ++ w.take 7 ++ ((w.take 9).drop 7).take i = h ++ w.take (7 + i) := by
      rw [List.append_assoc]
      congr 1
      have := List.take_add (l := w.take 9) (i := 7) (j := i)
      rw [List.take_take, List.take_take, show min 7 9 = 7 by decide, show min (7 + i) 9 = 7 + i by omega] at this
      exact this.symm
    rw [e1, word_hi hw hl (by omega) (by omega)] at z
    cases z)
  have s9 : sg (h ++ w.take 9 ++ [x]) = false := by
    rw [List.append_assoc, ← hx]
    have := word_hi (h := h) hw hl (i := 10) (by decide) (by decide)
    rwa [List.take_of_length_le (by omega)] at this
  rw [e79, List.append_assoc, e79] at q
  refine ⟨t, ?_, ht0⟩
  rw [ed, runR_app, q, runR_one, step_word l9 s9, ← hx, hwd, ht, List.append_assoc, ← hx]
  rfl
theorem split6 {w : List Int} (hl : w.length = 10) : ∃ x, w.take 7 = w.take 6 ++ [x] := by
  obtain ⟨x, hx⟩ : ∃ x, (w.drop 6).take 1 = [x] := by
    have : ((w.drop 6).take 1).length = 1 := by rw [List.length_take, List.length_drop, hl]; decide
    exact List.length_eq_one_iff.mp this
  exact ⟨x, by rw [← hx]; exact List.take_add (l := w) (i := 6) (j := 1)⟩
/-- a mark, whatever was ahead -/
theorem mark_any {h : List Int} {s : RS} {p : Int} (i : RInv h s) (hp : pm p) : ∃ t, runR s (ten (putW 256 p)) = (t ++ [256], ⟨last7 (h ++ ten (putW 256 p)), some [], some (putP 256 p)⟩) := by
  have hg := beg_item (n := 256) (by decide) hp
  have hl := ten_len (putW 256 p)
  have hend := fun o => mark_end (h := h) hp o
  generalize ten (putW 256 p) = w at hg hl hend ⊢
  obtain ⟨x, hx⟩ := split6 hl
  have i6 := runR_inv (bs := w.take 6) i
  have s7 : sg (h ++ w.take 6 ++ [x]) = true := by
    rw [List.append_assoc, ← hx, word_7 hl, hg]; rfl
  have ew : w = w.take 6 ++ ([x] ++ w.drop 7) := by
    rw [← List.append_assoc, ← hx, List.take_append_drop]
  have at7 : ∃ t o, stepR (runR s (w.take 6)).2 x = (t, ⟨last7 (h ++ w.take 7), some (w.take 7), o⟩) := by
    by_cases hq : (runR s (w.take 6)).2.part.map List.length = some 6
    · generalize hs6 : (runR s (w.take 6)).2 = s6 at hq i6 ⊢
      obtain ⟨la, pt, po⟩ := s6
      have e1 : la = last7 (h ++ w.take 6) := i6.last
      cases pt with
      | none => cases hq
      | some ps =>
        have hps : ps.length = 6 := by simpa using hq
        obtain ⟨g, hgg⟩ := i6.part ps rfl
        have e2 : ps = w.take 6 := (List.append_inj' hgg (by rw [hps, List.length_take]; omega)).2.symm
        refine ⟨[], po, ?_⟩
        rw [e1, step_quiet (by omega) (fun _ => by omega), e2, List.append_assoc, ← hx]
    · obtain ⟨t, ht, _⟩ := step_sign i6 s7 hq
      refine ⟨t, none, ?_⟩
      rw [ht, List.append_assoc, ← hx, last7_app (by rw [List.length_take]; omega), last7_self (by rw [List.length_take]; omega)]
  obtain ⟨t7, o, h7⟩ := at7
  obtain ⟨te, he, _⟩ := hend o
  refine ⟨(runR s (w.take 6)).1 ++ (t7 ++ te), ?_⟩
  have e : runR s w = runR s (w.take 6 ++ ([x] ++ w.drop 7)) := by rw [← ew]
  rw [e, runR_app, runR_app, runR_one, h7, he]
  simp
/-- .. out of step, behind words -/
theorem mark_out {h : List Int} {p : Int} (ht : tail3 h) (hp : pm p) : runR ⟨last7 h, none, none⟩ (ten (putW 256 p)) = ([256], ⟨last7 (h ++ ten (putW 256 p)), some [], some (putP 256 p)⟩) := by
  have hw := ok_item (n := 256) (by decide) hp
  have hg := beg_item (n := 256) (by decide) hp
  have hl := ten_len (putW 256 p)
  obtain ⟨te, he, he0⟩ := mark_end (h := h) hp none
  generalize ten (putW 256 p) = w at hw hg hl he ⊢
  obtain ⟨x, hx⟩ := split6 hl
  have l6 : (w.take 6).length = 6 := by rw [List.length_take]; omega
  have q := run_none (bs := w.take 6) (h := h) (o := none) (fun i i1 i2 => by
    rw [l6] at i2
    rw [List.take_take, show min i 6 = i by omega]
    cases q : sg (h ++ w.take i) with
    | false => rfl
    | true => have := word_sg hw ht i i1 (by omega) q; omega)
  have s7 : sg (h ++ w.take 6 ++ [x]) = true := by
    rw [List.append_assoc, ← hx, word_7 hl, hg]; rfl
  have ew : w = w.take 6 ++ ([x] ++ w.drop 7) := by
    rw [← List.append_assoc, ← hx, List.take_append_drop]
  obtain ⟨t, h7, h70⟩ := step_sign (s := ⟨last7 (h ++ w.take 6), none, none⟩) (h := h ++ w.take 6) ⟨rfl, fun _ z => nomatch z⟩ s7 (by simp)
  have e7 : last7 (h ++ w.take 7) = w.take 7 := by
    rw [last7_app (by rw [List.length_take]; omega), last7_self (by rw [List.length_take]; omega)]
  rw [show h ++ w.take 6 ++ [x] = h ++ w.take 7 by rw [List.append_assoc, ← hx], e7] at h7
  have h70 := h70 rfl
  have he0 := he0 rfl
  subst h70 he0
  have e : runR ⟨last7 h, none, none⟩ w = runR ⟨last7 h, none, none⟩ (w.take 6 ++ ([x] ++ w.drop 7)) := by rw [← ew]
  rw [e7] at he
  rw [e, runR_app, q, runR_app, runR_one, h7, he]
  rfl

-- needs: align2 taker frameit Ear_hear
theorem mark_last {h : List Int} {s : RS} {Y : List Nat} {n : Nat} {p : Int} (i : RInv h s) (hY : ∀ m ∈ Y, m < 260) (hn : n < 260) (hp : pm p) :
    ∃ t b x s9 s10, sentB (256 :: Y ++ [n]) p = b ++ [x] ∧ runR s b = (t ++ 256 :: Y, s9) ∧ stepR s9 x = ([n], s10) ∧ s10.part = some [] := by
  obtain ⟨t, e1⟩ := mark_any i hp
  have hp1 := putP_pm (n := 256) hp
  obtain ⟨e2, ht2⟩ := items_run (is := Y) (h := h ++ ten (putW 256 p)) (tail3_word (ok_item (n := 256) (by decide) hp)) hY hp1
  have hp2 := sentP_pm Y hp1
  have eb : sentB (256 :: Y ++ [n]) p = ten (putW 256 p) ++ (sentB Y (putP 256 p) ++ ten (putW n (sentP Y (putP 256 p)))) := by
    show ten (putW 256 p) ++ sentB (Y ++ [n]) (putP 256 p) = _
    rw [sentB_app]
    show _ ++ (_ ++ (ten _ ++ [])) = _
    rw [List.append_nil]
  generalize sentP Y (putP 256 p) = p2 at e2 hp2 eb
  have hw := ok_item hn hp2
  have hl := ten_len (putW n p2)
  have hwd := word_item (p := p2) hn
  have hj := judge_item hn hp2
  generalize ten (putW n p2) = w at hw hl hwd eb
  obtain ⟨x, hx⟩ := split9 hl
  have l9 : (w.take 9).length = 9 := by rw [List.length_take]; omega
  generalize h ++ ten (putW 256 p) ++ sentB Y (putP 256 p) = h2 at e2 ht2
  have q := run_quiet (bs := w.take 9) (h := h2) (ps := []) (o := some p2) (by rw [l9]; decide) (fun i i1 i2 z => by
    rw [l9] at i2
    rw [List.take_take, show min i 9 = i by omega] at z
    have := word_sg hw ht2 i i1 (by omega) z
    simp only [List.length_nil]; omega)
  rw [List.nil_append] at q
  have s9 : sg (h2 ++ w.take 9 ++ [x]) = false := by
    rw [List.append_assoc, ← hx]
    have := word_hi (h := h2) hw hl (i := 10) (by decide) (by decide)
    rwa [List.take_of_length_le (by omega)] at this
  refine ⟨t, ten (putW 256 p) ++ (sentB Y (putP 256 p) ++ w.take 9), x, ⟨last7 (h2 ++ w.take 9), some (w.take 9), some p2⟩, _, ?_, ?_, by rw [step_word l9 s9, ← hx, hwd, hj], rfl⟩
  · rw [eb, List.append_assoc, List.append_assoc, ← hx]
  · rw [runR_app, e1, runR_app, e2, q]
    simp
/-- bytes within a frame -/
theorem runT_bytes : ∀ {ns l : List Int}, byteL ns → l.length + ns.length ≤ 67 → runT (some l) (ns.map Int.toNat) = ([], some (l ++ ns))
  | [], l, _, _ => by simp [runT]
  | n :: r, l, hb, hl => by
    rw [List.length_cons] at hl
    have hn := hb n List.mem_cons_self
    have e : tookT (some l) n.toNat = ([], some (l ++ [n])) := by
      unfold tookT tookB
      rw [if_neg (by omega)]
      dsimp only
      rw [if_neg (by omega), if_pos ⟨by omega, by omega⟩, show ((n.toNat : Nat) : Int) = n by omega]
    show ((tookT (some l) n.toNat).1 ++ (runT (tookT (some l) n.toNat).2 (r.map Int.toNat)).1, (runT (tookT (some l) n.toNat).2 (r.map Int.toNat)).2) = _
    rw [e]
    dsimp only
    rw [runT_bytes (fun m hm => hb m (List.mem_cons_of_mem _ hm)) (by rw [List.length_append]; simp only [List.length_cons, List.length_nil]; omega), List.append_assoc]
    rfl
def midL (row : List Int) : List Int := (row.length : Int) :: (row ++ checkL row)
theorem midL_ok {row : List Int} (hb : byteL row) (hl : row.length ≤ 64) : byteL (midL row) ∧ (midL row).length ≤ 67 := by
  refine ⟨fun n hn => ?_, ?_⟩
  · rcases List.mem_cons.mp hn with e | hn
    · subst e; omega
    · exact byteL_app hb (checkL_byte row) n hn
  · unfold midL checkL; simp only [List.length_cons, List.length_append, List.length_nil]; omega
theorem frameI_mid (row : List Int) : frameI row = 256 :: (midL row).map Int.toNat ++ [257] := by
  unfold frameI midL
  simp
theorem within_mid {row : List Int} (hl : row.length ≤ 64) : withinL (midL row) = some row := by
  unfold midL withinL
  dsimp only
  have e : (row ++ checkL row).length = row.length + 2 := by rw [List.length_append]; rfl
  rw [if_neg (by rw [e]; omega), e, show row.length + 2 - 2 = row.length by omega, List.take_left, List.drop_left, if_pos rfl]
/-- behind all but the end of a frame -/
theorem runT_mid {s : Option (List Int)} {t : List Nat} {row : List Int} (hb : byteL row) (hl : row.length ≤ 64) : (runT s (t ++ 256 :: (midL row).map Int.toNat)).2 = some (midL row) := by
  obtain ⟨h1, h2⟩ := midL_ok hb hl
  rw [runT_app]
  show (runT (tookT (runT s t).2 256).2 ((midL row).map Int.toNat)).2 = _
  rw [show (tookT (runT s t).2 256).2 = some [] from rfl, runT_bytes h1 (by simpa using h2)]
  rfl
theorem took_end {row : List Int} (hl : row.length ≤ 64) : tookT (some (midL row)) 257 = ([some row], none) := by
  show ([if (257 : Nat) = 257 then withinL (midL row) else none], none) = _
  rw [if_pos rfl, within_mid hl]
theorem cutD_m1 {ds : List D} (h : 1 ≤ ds.length) : cutD ds (some (-1)) none = ds.drop (ds.length - 1) := by
  unfold cutD
  have e1 : HT.sIx ds.length 0 (some (-1 : Int)) = ds.length - 1 := by
    unfold HT.sIx
    first | (simp; omega) | (dsimp only; split <;> omega)
  have e2 : HT.sIx ds.length ds.length none = ds.length := rfl
  rw [e1, e2, List.take_of_length_le (by rw [List.length_drop]; omega)]
/-- THE LAST EVENT, whatever was heard ahead -/
theorem ear_last {h : List Int} {s : RS} {k : Option (List Int)} {row : List Int} {p : Int} {at_ : Nat} (i : RInv h s) (hb : byteL row) (hl : row.length ≤ 64) (hp : pm p) (ha : at_ < (sentB (frameI row) p).length) :
    (∃ E1, (runT (runT k (runR s ((sentB (frameI row) p).take at_)).1).2 (runR (runR s ((sentB (frameI row) p).take at_)).2 ((sentB (frameI row) p).drop at_)).1).1 = E1 ++ [some row]) ∧
    (runR (runR s ((sentB (frameI row) p).take at_)).2 ((sentB (frameI row) p).drop at_)).2.part = some [] := by
  obtain ⟨hm1, hm2⟩ := midL_ok hb hl
  obtain ⟨t, b, x, s9, s10, e1, e2, e3, e4⟩ := mark_last (Y := (midL row).map Int.toNat) (n := 257) i (toNat_260 hm1) (by decide) hp
  rw [← frameI_mid] at e1
  rw [e1] at ha ⊢
  rw [List.length_append] at ha
  have hb1 : at_ ≤ b.length := by simp only [List.length_cons, List.length_nil] at ha; omega
  rw [List.take_append_of_le_length hb1, List.drop_append_of_le_length hb1]
  generalize hA : runR s (b.take at_) = A
  have eb : runR s b = (A.1 ++ (runR A.2 (b.drop at_)).1, (runR A.2 (b.drop at_)).2) := by
    rw [← hA, ← runR_app, List.take_append_drop]
  rw [e2] at eb
  injection eb with eb1 eb2
  rw [runR_app, runR_one, ← eb2, e3]
  dsimp only
  refine ⟨⟨(runT (runT k A.1).2 (runR A.2 (b.drop at_)).1).1, ?_⟩, e4⟩
  rw [runT_app]
  dsimp only
  have e5 : (runT (runT k A.1).2 (runR A.2 (b.drop at_)).1).2 = some (midL row) := by
    have := runT_app A.1 (runR A.2 (b.drop at_)).1 k
    rw [← eb1] at this
    have e6 := congrArg Prod.snd this
    dsimp only at e6
    rw [← e6, runT_mid hb hl]
  rw [e5]
  show _ ++ ((tookT (some (midL row)) 257).1 ++ []) = _
  rw [took_end hl]
  rfl

-- needs: align2
/-! how a reader stands within what was sent -/
theorem word_pre {h : List Int} {n : Nat} {p : Int} {j : Nat} (ht : tail3 h) (hn : n < 260) (hp : pm p) (hj : j < 10) : runR ⟨last7 h, some [], some p⟩ ((ten (putW n p)).take j) = ([], ⟨last7 (h ++ (ten (putW n p)).take j), some ((ten (putW n p)).take j), some p⟩) := by
  have hw := ok_item hn hp
  have hl := ten_len (putW n p)
  generalize ten (putW n p) = w at hw hl ⊢
  have lj : (w.take j).length = j := by rw [List.length_take]; omega
  have q := run_quiet (bs := w.take j) (h := h) (ps := []) (o := some p) (by rw [lj]; simp only [List.length_nil]; omega) (fun i i1 i2 z => by
    rw [lj] at i2
    rw [List.take_take, show min i j = i by omega] at z
    have := word_sg hw ht i i1 (by omega) z
    simp only [List.length_nil]; omega)
  rw [List.nil_append] at q
  exact q
theorem items_pre : ∀ {Y : List Nat} {h : List Int} {p : Int} {j : Nat}, tail3 h → (∀ n ∈ Y, n < 260) → pm p → j ≤ 10 * Y.length → (runR ⟨last7 h, some [], some p⟩ ((sentB Y p).take j)).1 = Y.take (j / 10) ∧ (runR ⟨last7 h, some [], some p⟩ ((sentB Y p).take j)).2.part.map List.length = some (j % 10)
  | [], h, p, j, _, _, _, hj => by
    have : j = 0 := by simpa using hj
    subst this
    exact ⟨rfl, rfl⟩
  | n :: r, h, p, j, ht, hi, hp, hj => by
    have hn := hi n List.mem_cons_self
    have e : sentB (n :: r) p = ten (putW n p) ++ sentB r (putP n p) := rfl
    rw [e]
    by_cases h10 : j < 10
    · rw [List.take_append_of_le_length (by rw [ten_len]; omega), word_pre ht hn hp h10, show j / 10 = 0 by omega, show j % 10 = j by omega]
      refine ⟨rfl, ?_⟩
      show some ((ten (putW n p)).take j).length = _
      rw [List.length_take, ten_len]; congr 1; omega
    · obtain ⟨i, rfl⟩ : ∃ i, j = 10 + i := ⟨j - 10, by omega⟩
      rw [show 10 + i = (ten (putW n p)).length + i from rfl, List.take_length_add_append, runR_app, word_run ht hn hp]
      rw [List.length_cons] at hj
      obtain ⟨q1, q2⟩ := items_pre (Y := r) (h := h ++ ten (putW n p)) (j := i) (tail3_word (ok_item hn hp)) (fun m hm => hi m (List.mem_cons_of_mem _ hm)) (putP_pm (n := n) hp) (by omega)
      dsimp only
      rw [q1, ten_len, show (10 + i) / 10 = i / 10 + 1 by omega, show (10 + i) % 10 = i % 10 by omega]
      exact ⟨rfl, q2⟩
/-- a mark heard from the first bit on -/
theorem mark_pre {Y : List Nat} {p : Int} {j : Nat} (hi : ∀ n ∈ Y, n < 260) (hp : pm p) (hj : j ≤ 10 * (Y.length + 1)) :
    (runR ⟨[], none, none⟩ ((sentB (256 :: Y) p).take j)).1 = (256 :: Y).take (j / 10) ∧ (runR ⟨[], none, none⟩ ((sentB (256 :: Y) p).take j)).2.part.isSome = decide (7 ≤ j) := by
  have e0 : (⟨[], none, none⟩ : RS) = ⟨last7 [], none, none⟩ := rfl
  rw [e0]
  have hw := ok_item (n := 256) (by decide) hp
  have hg := beg_item (n := 256) (by decide) hp
  have hl := ten_len (putW 256 p)
  have e : sentB (256 :: Y) p = ten (putW 256 p) ++ sentB Y (putP 256 p) := rfl
  rw [e]
  by_cases h10 : j < 10
  · rw [List.take_append_of_le_length (by rw [ten_len]; omega), show j / 10 = 0 by omega]
    generalize ten (putW 256 p) = w at hw hg hl ⊢
    have q6 : ∀ m, m ≤ 6 → runR ⟨last7 [], none, none⟩ (w.take m) = ([], ⟨last7 ([] ++ w.take m), none, none⟩) := fun m hm => run_none (fun i i1 i2 => by
      rw [List.length_take] at i2
      rw [List.take_take, show min i m = i by omega]
      cases q : sg ([] ++ w.take i) with
      | false => rfl
      | true => have := word_sg hw tail3_nil i i1 (by omega) q; omega)
    by_cases h7 : j < 7
    · rw [q6 j (by omega), decide_eq_false (by omega)]
      exact ⟨rfl, rfl⟩
    · obtain ⟨i, rfl⟩ : ∃ i, j = 7 + i := ⟨j - 7, by omega⟩
      obtain ⟨x, hx⟩ := split6 hl
      have s7 : sg (w.take 6 ++ [x]) = true := by
        have := word_7 (h := []) hl
        rw [List.nil_append] at this
        rw [← hx, this, hg]; rfl
      obtain ⟨t, h7s, h70⟩ := step_sign (s := ⟨last7 (w.take 6), none, none⟩) (h := w.take 6) ⟨rfl, fun _ z => nomatch z⟩ s7 (by simp)
      have h70 := h70 rfl
      subst h70
      rw [← hx, last7_self (t := w.take 7) (by rw [List.length_take]; omega)] at h7s
      have l7 : (w.take 7).length = 7 := by rw [List.length_take]; omega
      have li : ((w.drop 7).take i).length = i := by rw [List.length_take, List.length_drop]; omega
      have q := run_quiet (bs := (w.drop 7).take i) (h := w.take 7) (ps := w.take 7) (o := none) (by rw [l7, li]; omega) (fun m m1 m2 z => by
        rw [li] at m2
        rw [List.take_take, show min m i = m by omega, ← List.take_add] at z
        have := word_hi (h := []) hw hl (i := 7 + m) (by omega) (by omega)
        rw [List.nil_append, z] at this
        cases this)
      rw [last7_self (t := w.take 7) (by omega)] at q
      have q66 := q6 6 (Nat.le_refl _)
      rw [List.nil_append] at q66
      rw [List.take_add, hx, runR_app, runR_app, q66, runR_one, h7s]
      dsimp only
      rw [q, decide_eq_true (by omega)]
      exact ⟨rfl, rfl⟩
  · obtain ⟨i, rfl⟩ : ∃ i, j = 10 + i := ⟨j - 10, by omega⟩
    rw [show 10 + i = (ten (putW 256 p)).length + i from rfl, List.take_length_add_append, runR_app, mark_out tail3_nil hp]
    obtain ⟨q1, q2⟩ := items_pre (Y := Y) (h := [] ++ ten (putW 256 p)) (j := i) (tail3_word hw) hi (putP_pm (n := 256) hp) (by omega)
    dsimp only
    rw [q1, ten_len, show (10 + i) / 10 = i / 10 + 1 by omega, decide_eq_true (by omega)]
    refine ⟨rfl, ?_⟩
    generalize (runR _ _).2.part = pt at q2 ⊢
    cases pt with
    | none => cases q2
    | some ps => rfl

-- needs: prefixR ears
/-- a frame's items cut in two, taken -/
theorem take_pre {row : List Int} {a : Nat} (hb : byteL row) (hl : row.length ≤ 64) (ha : a < (frameI row).length) : (runT none ((frameI row).take a)).1 = [] ∧ (runT none ((frameI row).take a)).2.isSome = decide (0 < a) ∧ (runT (runT none ((frameI row).take a)).2 ((frameI row).drop a)) = ([some row], none) := by
  obtain ⟨h1, h2⟩ := midL_ok hb hl
  have full : runT none (frameI row) = ([some row], none) := by
    rw [frameI_mid, List.cons_append]
    show ((tookT none 256).1 ++ (runT (tookT none 256).2 ((midL row).map Int.toNat ++ [257])).1, (runT (tookT none 256).2 ((midL row).map Int.toNat ++ [257])).2) = _
    rw [show tookT none 256 = ([], some []) from rfl]
    dsimp only
    rw [runT_app, runT_bytes h1 (by simpa using h2)]
    show ([] ++ ([] ++ ((tookT (some ([] ++ midL row)) 257).1 ++ [])), (tookT (some ([] ++ midL row)) 257).2) = _
    simp only [List.nil_append]
    rw [took_end hl]
    all_goals rfl
  have pre : (runT none ((frameI row).take a)).1 = [] ∧ (runT none ((frameI row).take a)).2.isSome = decide (0 < a) := by
    cases a with
    | zero => exact ⟨rfl, rfl⟩
    | succ a =>
      rw [frameI_mid] at ha ⊢
      rw [List.length_append, List.length_cons, List.length_map] at ha
      rw [List.cons_append, List.take_succ_cons, List.take_append_of_le_length (by rw [List.length_map]; simp only [List.length_cons, List.length_nil] at ha; omega), ← List.map_take]
      show ((tookT none 256).1 ++ (runT (tookT none 256).2 (((midL row).take a).map Int.toNat)).1) = [] ∧ (runT (tookT none 256).2 (((midL row).take a).map Int.toNat)).2.isSome = _
      rw [show tookT none 256 = ([], some []) from rfl]
      dsimp only
      rw [runT_bytes (byteL_take h1 a) (by simp only [List.length_nil, List.length_take]; omega)]
      exact ⟨rfl, by simp⟩
  refine ⟨pre.1, pre.2, ?_⟩
  have e := runT_app ((frameI row).take a) ((frameI row).drop a) none
  rw [List.take_append_drop, full, pre.1, List.nil_append] at e
  exact e.symm

-- needs: align2 ears taker frameit sent reader prefix Ear_hear rdmore
/-- a reader that tells all items of what is sent from p on, if it begins with a mark or is in step -/
def Rdy (s : RS) (p : Int) : Prop := s = ⟨[], none, none⟩ ∨ ∃ h, tail3 h ∧ s = ⟨last7 h, some [], some p⟩
theorem rdy_run {s : RS} {p : Int} {Y : List Nat} (hs : Rdy s p) (hp : pm p) (hY : ∀ n ∈ Y, n < 260) : (runR s (sentB (256 :: Y) p)).1 = 256 :: Y ∧ Rdy (runR s (sentB (256 :: Y) p)).2 (sentP (256 :: Y) p) := by
  have hY' : ∀ n ∈ 256 :: Y, n < 260 := fun n hn => by
    rcases List.mem_cons.mp hn with e | hn
    · omega
    · exact hY n hn
  rcases hs with rfl | ⟨h, ht, rfl⟩
  · have e1 := mark_out (h := []) tail3_nil hp
    have e2 : sentB (256 :: Y) p = ten (putW 256 p) ++ sentB Y (putP 256 p) := rfl
    have t1 : tail3 ([] ++ ten (putW 256 p)) := tail3_word (ok_item (by decide) hp)
    obtain ⟨e3, e4⟩ := items_run (is := Y) t1 hY (putP_pm hp)
    rw [e2, runR_app, show (RS.mk [] none none) = ⟨last7 [], none, none⟩ from rfl, e1]
    dsimp only
    rw [e3]
    exact ⟨rfl, .inr ⟨_, e4, rfl⟩⟩
  · obtain ⟨e3, e4⟩ := items_run ht hY' hp
    rw [e3]
    exact ⟨rfl, .inr ⟨_, e4, rfl⟩⟩
theorem rdy_go {s : RS} {p : Int} {Y : List Nat} (hs : ∃ h, tail3 h ∧ s = ⟨last7 h, some [], some p⟩) (hp : pm p) (hY : ∀ n ∈ Y, n < 260) : (runR s (sentB Y p)).1 = Y ∧ ∃ h, tail3 h ∧ (runR s (sentB Y p)).2 = ⟨last7 h, some [], some (sentP Y p)⟩ := by
  obtain ⟨h, ht, rfl⟩ := hs
  obtain ⟨e3, e4⟩ := items_run ht hY hp
  rw [e3]
  exact ⟨rfl, _, e4, rfl⟩
/-- outside a frame, nothing is told of rests and skips -/
theorem runT_gap : ∀ {g : List Nat}, (∀ n ∈ g, n ≠ 256) → runT none g = ([], none)
  | [], _ => rfl
  | n :: g, h => by
    have h1 : tookT none n = ([], none) := by
      unfold tookT
      rw [if_neg (h n List.mem_cons_self)]
      rfl
    show ((tookT none n).1 ++ (runT (tookT none n).2 g).1, (runT (tookT none n).2 g).2) = _
    rw [h1, runT_gap fun m hm => h m (List.mem_cons_of_mem _ hm)]
    rfl
theorem runT_frame {row : List Int} (hb : byteL row) (hl : row.length ≤ 64) : runT none (frameI row) = ([some row], none) := by
  have := (take_pre (a := 0) hb hl (by rw [frameI_len]; omega)).2.2
  rw [List.take_zero, List.drop_zero] at this
  exact this
theorem runT_frame_gap {row : List Int} {g : List Nat} (hb : byteL row) (hl : row.length ≤ 64) (hg : ∀ n ∈ g, n ≠ 256) : runT none (frameI row ++ g) = ([some row], none) := by
  rw [runT_app, runT_frame hb hl]
  dsimp only
  rw [runT_gap hg]; rfl
theorem ErAt.keep {M M' : Mh} {e r k : Addr} {sr : RS} {fr : Option Addr} {sk : Option (List Int)} {fk : Option Addr} (h : ErAt M e r k sr fr sk fk) (kp : ∀ y o, M y = some o → (y = e ∨ y = r ∨ y = k ∨ fr = some y ∨ fk = some y) → M' y = some o) : ErAt M' e r k sr fr sk fk :=
  ⟨h.rk, h.er, h.ek, h.nre, h.nrk, h.nke, h.nkr, h.ff, kp _ _ h.me (.inl rfl), h.R.keep fun y o hy hz => kp y o hy (hz.elim (fun z => .inr (.inl z)) fun z => .inr (.inr (.inr (.inl z)))), h.T.keep fun y o hy hz => kp y o hy (hz.elim (fun z => .inr (.inr (.inl z))) fun z => .inr (.inr (.inr (.inr z))))⟩
/-- what stands at an ear's own places -/
theorem ErAt.own {M : Mh} {e r k : Addr} {sr : RS} {fr : Option Addr} {sk : Option (List Int)} {fk : Option Addr} (h : ErAt M e r k sr fr sk fk) {y : Addr} {o : MO} (hy : M y = some o) (hz : y = e ∨ y = r ∨ y = k ∨ fr = some y ∨ fk = some y) : (∃ fs, o = .ins "Ear" fs) ∨ (∃ fs, o = .ins "Reader" fs) ∨ (∃ fs, o = .ins "Taker" fs) ∨ ((∃ l, o = .lst l) ∧ (fr = some y ∨ fk = some y)) := by
  rcases hz with e1 | e1 | e1 | e1 | e1
  · subst e1; rw [h.me] at hy; cases hy; exact .inl ⟨_, rfl⟩
  · subst e1; rw [h.R.me] at hy; cases hy; exact .inr (.inl ⟨_, rfl⟩)
  · subst e1; rw [h.T.me] at hy; cases hy; exact .inr (.inr (.inl ⟨_, rfl⟩))
  · subst e1
    obtain ⟨⟨l, hl⟩, _⟩ := part_tr h.R.part
    rw [hl] at hy; cases hy
    exact .inr (.inr (.inr ⟨⟨_, rfl⟩, .inl rfl⟩))
  · subst e1
    obtain ⟨⟨l, hl⟩, _⟩ := part_tr h.T.part
    rw [hl] at hy; cases hy
    exact .inr (.inr (.inr ⟨⟨_, rfl⟩, .inr rfl⟩))

-- needs: earsteps ears taker reader frameit align2 _law_gap
/-! of so few bits no frame is told -/
def isTok (n : Nat) : Bool := decide (n ≠ 256) && decide (n ≠ 260)
def cntT (ts : List Nat) : Nat := ts.countP isTok
def phiR (s : RS) : Nat := match s.poise, s.part with
  | some _, some ps => ps.length
  | _, _ => 0
theorem cntT_app (a b : List Nat) : cntT (a ++ b) = cntT a + cntT b := List.countP_append
theorem judge_none (w : Int) : cntT (judge none w).1 = 0 := by
  unfold judge
  split <;> rfl
theorem judge_cnt (o : Option Int) (w : Int) : cntT (judge o w).1 ≤ 1 := by
  cases o with
  | none => rw [judge_none]; exact Nat.zero_le _
  | some p =>
    unfold judge
    split
    · rw [cntT_app]
      dsimp only
      split <;> split <;> decide
    · dsimp only
      split
      · decide
      · split
        · show List.countP isTok [_] ≤ 1
          exact List.countP_le_length
        · decide
theorem phi_end (l : List Int) (b : Bool) (o : Option Int) : phiR ⟨l, if b then some [] else none, o⟩ = 0 := by
  cases b <;> cases o <;> rfl
theorem phi_none (l : List Int) (o : Option (List Int)) : phiR ⟨l, o, none⟩ = 0 := by cases o <;> rfl
theorem find_cnt (s : RS) : 10 * cntT (findR s).1 + phiR (findR s).2 ≤ phiR s := by
  unfold findR
  by_cases c : (sign s.last && decide (s.part.map List.length ≠ some 7)) = true
  · rw [if_pos c]
    dsimp only
    have e0 : cntT (if s.part.isSome then [260] else []) = 0 := by split <;> rfl
    split
    · rw [cntT_app, e0, judge_none, phi_end]; omega
    · rw [e0, phi_none]; omega
  · rw [if_neg c]
    dsimp only
    cases e : s.part with
    | none => show 10 * 0 + phiR s ≤ phiR s; omega
    | some ps =>
      dsimp only
      split
      · rename_i hl
        rw [phi_end, List.nil_append]
        cases e2 : s.poise with
        | none => rw [judge_none]; omega
        | some p =>
          have := judge_cnt (some p) (wordOf ps)
          have e3 : phiR s = 10 := by unfold phiR; rw [e, e2]; exact hl
          dsimp only
          omega
      · show 10 * 0 + phiR s ≤ phiR s; omega
theorem put_phi (s : RS) (b : Int) : phiR (putR s b) ≤ phiR s + 1 := by
  unfold phiR putR
  dsimp only
  cases s.poise with
  | none => simp
  | some p => cases s.part with
    | none => simp
    | some ps => simp
theorem run_cnt : ∀ (bs : List Int) (s : RS), 10 * cntT (runR s bs).1 + phiR (runR s bs).2 ≤ phiR s + bs.length
  | [], s => by show 0 + _ ≤ _; simp [runR]
  | b :: r, s => by
    have h1 := find_cnt (putR s b)
    have h2 := put_phi s b
    have h3 := run_cnt r (stepR s b).2
    show 10 * cntT ((stepR s b).1 ++ (runR (stepR s b).2 r).1) + phiR (runR (stepR s b).2 r).2 ≤ _
    rw [cntT_app, List.length_cons]
    have h1 : 10 * cntT (stepR s b).1 + phiR (stepR s b).2 ≤ phiR (putR s b) := h1
    omega
def psiT (s : Option (List Int)) : Nat := match s with
  | none => 0
  | some l => l.length
theorem within_len {l r : List Int} (hb : byteL l) (h : withinL l = some r) : 3 ≤ l.length := by
  cases l with
  | nil => cases h
  | cons n t =>
    unfold withinL at h
    dsimp only at h
    have := hb n List.mem_cons_self
    split at h
    · cases h
    · rename_i hn
      rw [List.length_cons]; omega
theorem took_quiet {s : Option (List Int)} {n : Nat} (h : TOk s) : psiT (tookT s n).2 ≤ psiT s + (if isTok n then 1 else 0) ∧ ((∀ e ∈ (tookT s n).1, e = none) ∨ 3 ≤ psiT s) := by
  unfold tookT
  by_cases e : n = 256
  · rw [if_pos e]
    refine ⟨Nat.zero_le _, .inl fun x hx => ?_⟩
    dsimp only at hx
    split at hx
    · exact List.mem_singleton.mp hx
    · cases hx
  · rw [if_neg e]
    unfold tookB
    cases s with
    | none => exact ⟨Nat.zero_le _, .inl fun x hx => nomatch hx⟩
    | some l =>
      dsimp only
      by_cases e1 : n = 259
      · rw [if_pos e1]; exact ⟨Nat.le_add_right _ _, .inl fun x hx => nomatch hx⟩
      · rw [if_neg e1]
        by_cases e2 : n < 256 ∧ l.length < 67
        · rw [if_pos e2]
          refine ⟨?_, .inl fun x hx => nomatch hx⟩
          have : isTok n = true := by
            unfold isTok
            rw [decide_eq_true e, decide_eq_true (show n ≠ 260 by omega)]; rfl
          rw [this]
          show (l ++ [(n : Int)]).length ≤ l.length + 1
          rw [List.length_append]; exact Nat.le_refl _
        · rw [if_neg e2]
          refine ⟨Nat.zero_le _, ?_⟩
          by_cases e3 : n = 257
          · rw [if_pos e3]
            cases e4 : withinL l with
            | none => exact .inl fun x hx => List.mem_singleton.mp hx
            | some r => exact .inr (within_len (h l rfl).1 e4)
          · rw [if_neg e3]; exact .inl fun x hx => List.mem_singleton.mp hx
theorem runT_quiet : ∀ {ts : List Nat} {s : Option (List Int)}, TOk s → psiT s + cntT ts ≤ 2 → (runT s ts).1.filterMap id = []
  | [], s, _, _ => rfl
  | n :: r, s, h, hc => by
    obtain ⟨h1, h2⟩ := took_quiet (n := n) h
    have e : cntT (n :: r) = cntT r + (if isTok n then 1 else 0) := List.countP_cons
    show List.filterMap id ((tookT s n).1 ++ (runT (tookT s n).2 r).1) = []
    rw [List.filterMap_append, runT_quiet (tookT_ok h).1 (by omega)]
    rcases h2 with h2 | h2
    · rw [List.append_nil, List.filterMap_eq_nil_iff]
      exact fun x hx => by rw [h2 x hx]; rfl
    · omega
/-! what goes over a lane: frames, items between -/
def laneI (fs : List (List Int × List Nat)) : List Nat := (fs.map fun x => frameI x.1 ++ x.2).flatten
theorem laneI_snoc (fs : List (List Int × List Nat)) (f : List Int) (g : List Nat) : laneI (fs ++ [(f, g)]) = laneI fs ++ (frameI f ++ g) := by
  unfold laneI
  rw [List.map_append, List.flatten_append]; simp
def okF (fs : List (List Int × List Nat)) : Prop := ∀ x ∈ fs, byteL x.1 ∧ x.1.length ≤ 64 ∧ gapL x.2
theorem runT_lane : ∀ {fs : List (List Int × List Nat)}, okF fs → runT none (laneI fs) = (fs.map fun x => some x.1, none)
  | [], _ => rfl
  | (f, g) :: fs, h => by
    obtain ⟨h1, h2, h3⟩ := h (f, g) List.mem_cons_self
    show runT none ((frameI f ++ g) ++ laneI fs) = _
    rw [runT_app, runT_frame_gap h1 h2 (fun n hn => by rcases h3.1 n hn with e | e <;> omega)]
    dsimp only
    rw [runT_lane fun x hx => h x (List.mem_cons_of_mem _ hx)]
    rfl
theorem laneI_260 {fs : List (List Int × List Nat)} (h : okF fs) : ∀ n ∈ laneI fs, n < 260 := fun n hn => by
  obtain ⟨l, hl, hn⟩ := List.mem_flatten.mp hn
  obtain ⟨x, hx, rfl⟩ := List.mem_map.mp hl
  obtain ⟨h1, h2, h3⟩ := h x hx
  rcases List.mem_append.mp hn with hn | hn
  · exact frameI_260 h1 h2 n hn
  · rcases h3.1 n hn with e | e <;> omega
theorem laneI_len {fs : List (List Int × List Nat)} (h : okF fs) : (laneI fs).length ≤ 71 * fs.length := by
  induction fs with
  | nil => exact Nat.zero_le _
  | cons x fs ih =>
    obtain ⟨h1, h2, h3⟩ := h x List.mem_cons_self
    have := ih fun y hy => h y (List.mem_cons_of_mem _ hy)
    show ((frameI x.1 ++ x.2) ++ laneI fs).length ≤ _
    rw [List.length_append, List.length_append, frameI_len, List.length_cons]
    have := h3.2
    omega
/-- the frames that are told of what is still to be heard -/
def yetL (sr : RS) (sk : Option (List Int)) (bs : List Int) : List (List Int) := (runT sk (runR sr bs).1).1.filterMap id
theorem yet_app (sr : RS) (sk : Option (List Int)) (a b : List Int) : yetL sr sk (a ++ b) = yetL sr sk a ++ yetL (runR sr a).2 (runT sk (runR sr a).1).2 b := by
  unfold yetL
  rw [runR_app, runT_app, List.filterMap_append]
abbrev RZ : RS := ⟨[], none, none⟩
theorem yet_few {J : List Int} (h : J.length ≤ 29) : yetL RZ none J = [] := by
  refine runT_quiet (fun _ z => nomatch z) ?_
  have := run_cnt J RZ
  have e : phiR RZ = 0 := rfl
  show 0 + _ ≤ 2
  omega
theorem lane_all {J : List Int} {fs : List (List Int × List Nat)} {p : Int} (hJ : J.length ≤ 12) (hf : okF fs) (hp : pm p) : yetL RZ none (J ++ sentB (laneI fs) p) = fs.map (·.1) := by
  cases fs with
  | nil => exact yet_few (by rw [show sentB (laneI []) p = [] from rfl, List.append_nil]; omega)
  | cons x fs =>
    obtain ⟨Y, eY⟩ : ∃ Y, laneI (x :: fs) = 256 :: Y := ⟨_, by
      show (frameI x.1 ++ x.2) ++ laneI fs = _
      rw [frameI_mid]; rfl⟩
    have hT := runT_lane hf
    have h260 := laneI_260 hf
    rw [eY] at hT h260 ⊢
    have hY : ∀ n ∈ Y, n < 260 := fun n hn => h260 n (List.mem_cons_of_mem _ hn)
    have i2 : RInv J (runR RZ J).2 := by
      have := runR_inv (bs := J) RInv.nil
      rwa [List.nil_append] at this
    obtain ⟨t, e1⟩ := mark_any i2 hp
    obtain ⟨e2, _⟩ := items_run (is := Y) (h := J ++ ten (putW 256 p)) (tail3_word (ok_item (n := 256) (by decide) hp)) hY (putP_pm hp)
    have e3 : sentB (256 :: Y) p = ten (putW 256 p) ++ sentB Y (putP 256 p) := rfl
    rw [e3, ← List.append_assoc, yet_app, yet_few (by rw [List.length_append, ten_len]; omega), List.nil_append]
    have e4 : runR RZ (J ++ ten (putW 256 p)) = ((runR RZ J).1 ++ (t ++ [256]), ⟨last7 (J ++ ten (putW 256 p)), some [], some (putP 256 p)⟩) := by rw [runR_app, e1]
    have e5 : (runT none ((runR RZ J).1 ++ (t ++ [256]))).2 = some [] := by
      rw [← List.append_assoc, runT_app]; rfl
    rw [e4]
    dsimp only
    rw [e5]
    unfold yetL
    rw [e2]
    dsimp only
    have hT : runT (some []) Y = ((x :: fs).map fun x => some x.1, none) := hT
    rw [hT]
    dsimp only
    rw [List.filterMap_map]
    show List.filterMap (fun y => some y.1) (x :: fs) = _
    rw [List.filterMap_eq_map']
/-- behind some bits, the frames of a lane -/
theorem lane_rest {J : List Int} {fs : List (List Int × List Nat)} {p : Int} (hJ : J.length ≤ 12) (hf : okF fs) (hp : pm p) : yetL (runR RZ J).2 (runT none (runR RZ J).1).2 (sentB (laneI fs) p) = fs.map (·.1) := by
  have := lane_all hJ hf hp
  rw [yet_app, yet_few (by omega), List.nil_append] at this
  exact this

-- needs: lane48 earsteps Ear_hear rowat Lanes_come lanesm joinm Joiner_take Sender_say Sender_say_row
/-! whose each thing is: every address has a tag -/
abbrev Tg := Addr → Nat
/-- what is not c's stays -/
def Ch (G : Tg) (c : Nat) (M M' : Mh) : Prop := ∀ y o, M y = some o → G y ≠ c → M' y = some o
/-- what is new is c's -/
def nG (G : Tg) (M : Mh) (c : Nat) : Tg := fun y => if (M y).isSome then G y else c
theorem nG_old {G : Tg} {M : Mh} {c : Nat} {y : Addr} {o : MO} (h : M y = some o) : nG G M c y = G y := by
  unfold nG; rw [h]; rfl
theorem nG_own {G : Tg} {M : Mh} {c : Nat} {y : Addr} (h : M y = none ∨ G y = c) : nG G M c y = c := by
  unfold nG
  split
  · rename_i h2
    rcases h with h | h
    · rw [h] at h2; cases h2
    · exact h
  · rfl
theorem Ch.mup {G : Tg} {M : Mh} {c : Nat} {y : Addr} {o : MO} (h : M y = none ∨ G y = c) : Ch G c M (mup M y o) := fun z o' hz hg => (mup_ne fun e => by
  subst e
  rcases h with h | h
  · rw [h] at hz; cases hz
  · exact hg h).trans hz
theorem Ch.trans {G : Tg} {M M1 M2 : Mh} {c : Nat} (h : Ch G c M M1) (h' : Ch (nG G M c) c M1 M2) : Ch G c M M2 := fun y o hy hg => h' y o (h y o hy hg) (by rw [nG_old hy]; exact hg)
structure At (M : Mh) (G : Tg) (d : Nat) (y : Addr) (o : MO) : Prop where
  m : M y = some o
  g : G y = d
theorem At.keep {M M' : Mh} {G : Tg} {c d : Nat} {y : Addr} {o : MO} (h : At M G d y o) (k : Ch G c M M') (ne : d ≠ c) : At M' (nG G M c) d y o := ⟨k y o h.m (by rw [h.g]; exact ne), (nG_old h.m).trans h.g⟩
theorem At.new {M : Mh} {G : Tg} {d : Nat} {y : Addr} {o : MO} (h : M y = none) : At (mup M y o) (nG G M d) d y o := ⟨mup_same, nG_own (.inl h)⟩
theorem At.set {M : Mh} {G : Tg} {d : Nat} {y : Addr} {o o' : MO} (h : At M G d y o) : At (mup M y o') (nG G M d) d y o' := ⟨mup_same, nG_own (.inr h.g)⟩
/-! ears -/
structure Er1 where
  e : Addr
  r : Addr
  k : Addr
  sr : RS
  fr : Option Addr
  sk : Option (List Int)
  fk : Option Addr
def Er1.own (x : Er1) (y : Addr) : Prop := y = x.e ∨ y = x.r ∨ y = x.k ∨ x.fr = some y ∨ x.fk = some y
structure EarT (M : Mh) (G : Tg) (d : Nat) (x : Er1) : Prop where
  er : ErAt M x.e x.r x.k x.sr x.fr x.sk x.fk
  ok : ROk x.sr
  ok2 : TOk x.sk
  g : ∀ y, x.own y → G y = d
theorem EarT.has {M : Mh} {G : Tg} {d : Nat} {x : Er1} (h : EarT M G d x) {y : Addr} (hy : x.own y) : ∃ o, M y = some o := by
  rcases hy with e | e | e | e | e
  · subst e; exact ⟨_, h.er.me⟩
  · subst e; exact ⟨_, h.er.R.me⟩
  · subst e; exact ⟨_, h.er.T.me⟩
  · have hp := h.er.R.part
    rw [e] at hp
    obtain ⟨⟨l, hl⟩, _⟩ := part_tr hp
    exact ⟨_, hl⟩
  · have hp := h.er.T.part
    rw [e] at hp
    obtain ⟨⟨l, hl⟩, _⟩ := part_tr hp
    exact ⟨_, hl⟩
theorem EarT.keep {M M' : Mh} {G : Tg} {c d : Nat} {x : Er1} (h : EarT M G d x) (k : Ch G c M M') (ne : d ≠ c) : EarT M' (nG G M c) d x :=
  ⟨h.er.keep fun y o hy hz => k y o hy (by rw [h.g y hz]; exact ne), h.ok, h.ok2, fun y hy => by
    obtain ⟨o, ho⟩ := h.has hy
    rw [nG_old ho]; exact h.g y hy⟩
theorem EarT.init {M M' : Mh} {G : Tg} {d : Nat} {e r k : Addr} (he : M e = none) (hE : ErAt M' e r k RZ none none none) (hk : ∀ y o, mup M e (.ins "Ear" []) y = some o → y ≠ e → M' y = some o ∧ y ≠ r ∧ y ≠ k) : EarT M' (nG G M d) d ⟨e, r, k, RZ, none, none, none⟩ ∧ Ch G d M M' := by
  have key : ∀ y o, M y = some o → M' y = some o ∧ y ≠ r ∧ y ≠ k := fun y o hy => hk y o (mup_get he hy) (ne_of_m hy he)
  refine ⟨⟨hE, .init, (fun _ z => nomatch z), fun y hy => nG_own (.inl ?_)⟩, fun y o hy _ => (key y o hy).1⟩
  cases hM : M y with
  | none => rfl
  | some o =>
    exfalso
    obtain ⟨_, h2, h3⟩ := key y o hM
    rcases hy with e | e | e | e | e
    · rw [e, he] at hM; cases hM
    · exact h2 e
    · exact h3 e
    · cases e
    · cases e
def Er1.hear (x : Er1) (bs : List Int) (fr' fk' : Option Addr) : Er1 := ⟨x.e, x.r, x.k, (runR x.sr bs).2, fr', (runT x.sk (runR x.sr bs).1).2, fk'⟩
theorem l_hearT {M : Mh} {G : Tg} {d : Nat} {x : Er1} {bs : List Int} {Q : QZ} {E : ZX} (h : EarT M G d x) (hb : bitL bs) (hl : bs.length ≤ 100000)
    (q : ∀ M' fr' fk', EarT M' (nG G M d) d (x.hear bs fr' fk') → Ch G d M M' → Q (.lst ((runT x.sk (runR x.sr bs).1).1.map evD)) M') : z_Ear_hear [.ref x.e, .lst (bs.map D.int)] M Q E := by
  refine l_Ear_hear h.er h.ok h.ok2 hb hl fun M' fr' fk' hE hk => ?_
  have hk2 : ∀ y o, M y = some o → G y ≠ d → M' y = some o ∧ fr' ≠ some y ∧ fk' ≠ some y := fun y o hy hg => hk y o hy (fun e => hg (h.g y (.inr (.inl e)))) (fun e => hg (h.g y (.inr (.inr (.inl e))))) (fun e => hg (h.g y (.inr (.inr (.inr (.inl e)))))) (fun e => hg (h.g y (.inr (.inr (.inr (.inr e))))))
  refine q M' fr' fk' ⟨hE, (runR_ok h.ok hb).1, (runT_ok h.ok2).1, fun y hy => nG_own ?_⟩ fun y o hy hg => (hk2 y o hy hg).1
  cases hM : M y with
  | none => exact .inl rfl
  | some o =>
    by_cases hg : G y = d
    · exact .inr hg
    · exfalso
      obtain ⟨_, h2, h3⟩ := hk2 y o hM hg
      rcases hy with e | e | e | e | e
      · exact hg (h.g y (.inl e))
      · exact hg (h.g y (.inr (.inl e)))
      · exact hg (h.g y (.inr (.inr (.inl e))))
      · exact h2 e
      · exact h3 e
/-! lanes -/
structure LanT (M : Mh) (G : Tg) (d : Nat) (A : Addr) (ws : List Addr) (t : Int) (f : LF) : Prop where
  ln : LnAt M A ws t f
  ga : G A = d
  gw : ∀ w ∈ ws, G w = d
theorem LnAt.hasW {M : Mh} {A : Addr} {ws : List Addr} {t : Int} {f : LF} (h : LnAt M A ws t f) {w : Addr} (hw : w ∈ ws) : ∃ o, M w = some o := by
  obtain ⟨i, hi, e⟩ := List.getElem_of_mem hw
  exact ⟨_, h.q i w (by rw [List.getElem?_eq_getElem hi, e])⟩
theorem LanT.keep {M M' : Mh} {G : Tg} {c d : Nat} {A : Addr} {ws : List Addr} {t : Int} {f : LF} (h : LanT M G d A ws t f) (k : Ch G c M M') (ne : d ≠ c) : LanT M' (nG G M c) d A ws t f :=
  ⟨⟨k _ _ h.ln.me (by rw [h.ga]; exact ne), fun i w hw => k _ _ (h.ln.q i w hw) (by rw [h.gw w (List.mem_of_getElem? hw)]; exact ne), h.ln.inj, h.ln.L, h.ln.t0, h.ln.t1, h.ln.ok, h.ln.sz⟩, (nG_old h.ln.me).trans h.ga, fun w hw => by
    obtain ⟨o, ho⟩ := h.ln.hasW hw
    rw [nG_old ho]; exact h.gw w hw⟩
theorem l_comeT {M : Mh} {G : Tg} {d : Nat} {A : Addr} {ws : List Addr} {t : Int} {f : LF} {lane : Nat} {v : D} {fr : List Int} {Q : QZ} {E : ZX} (h : LanT M G d A ws t f) (hla : lane < ws.length) (hd : RowAt M v fr) (hb : byteL fr) (hl : fr.length ≤ 64) (hne : fr ≠ []) (hs : ∀ i, i < ws.length → (f i).length < 4000)
    (q : ∀ M' es t' f', Runs ws.length t (dropF t (setF f lane (f lane ++ [fr]))) es t' f' → LanT M' (nG G M d) d A ws t' f' → Ch G d M M' → Q (.lst es) M') : z_Lanes_come [.ref A, .int (lane : Nat), v] M Q E := by
  refine l_Lanes_come h.ln hla hd hb hl hne hs fun M' es t' f' h1 h2 h3 => q M' es t' f' h1 ⟨h2, (nG_old h.ln.me).trans h.ga, fun w hw => by
    obtain ⟨o, ho⟩ := h.ln.hasW hw
    rw [nG_old ho]; exact h.gw w hw⟩ fun y o hy hg => ?_
  exact (h3 y (fun e => hg (by rw [e]; exact h.ga)) (fun e => hg (h.gw y e)) (by rw [hy]; simp)).trans hy
/-! a joiner -/
structure JoT (M : Mh) (G : Tg) (d : Nat) (j w : Addr) (ps : List (List Int)) : Prop where
  jn : JnAt M j w ps
  gj : G j = d
  gw : G w = d
theorem JoT.keep {M M' : Mh} {G : Tg} {c d : Nat} {j w : Addr} {ps : List (List Int)} (h : JoT M G d j w ps) (k : Ch G c M M') (ne : d ≠ c) : JoT M' (nG G M c) d j w ps :=
  ⟨⟨k _ _ h.jn.me (by rw [h.gj]; exact ne), k _ _ h.jn.w (by rw [h.gw]; exact ne), h.jn.len, h.jn.ok⟩, (nG_old h.jn.me).trans h.gj, (nG_old h.jn.w).trans h.gw⟩
theorem l_takeT {M : Mh} {G : Tg} {d : Nat} {j w : Addr} {ps : List (List Int)} {fr : List Int} {Q : QZ} {E : ZX} (h : JoT M G d j w ps) (hb : byteL fr) (hl : fr.length ≤ 64)
    (q : ∀ M' w', JoT M' (nG G M d) d j w' (joinL ps fr).2 → Ch G d M M' → Q (joinD (joinL ps fr).1) M') : z_Joiner_take [.ref j, rowD fr] M Q E := by
  refine l_Joiner_take h.jn (.inl rfl) (fun z => nomatch z) hb hl fun M' w' hw J hk => q M' w' ⟨J, (nG_old h.jn.me).trans h.gj, nG_own (hw.imp id fun e => by rw [e]; exact h.gw)⟩ fun y o hy hg => ?_
  exact (hk y (fun e => hg (by rw [e]; exact h.gj)) (fun e => hg (by rw [e]; exact h.gw)) (by rw [hy]; simp)).trans hy
/-! rows -/
structure RowT (M : Mh) (G : Tg) (d : Nat) (v : D) (fr : List Int) : Prop where
  ra : RowAt M v fr
  g : ∀ p, v = .ref p → G p = d
theorem RowT.keep {M M' : Mh} {G : Tg} {c d : Nat} {v : D} {fr : List Int} (h : RowT M G d v fr) (k : Ch G c M M') (ne : d ≠ c) : RowT M' (nG G M c) d v fr := by
  obtain ⟨h1, h2⟩ := h
  rcases h1 with e | ⟨p, e, hp⟩
  · exact ⟨.inl e, fun p z => by rw [e] at z; cases z⟩
  · subst e
    exact ⟨.inr ⟨p, rfl, k _ _ hp (by rw [h2 p rfl]; exact ne)⟩, fun p' z => by cases z; exact (nG_old hp).trans (h2 p rfl)⟩
/-! a sender -/
theorem l_say_rowT {M : Mh} {G : Tg} {d : Nat} {a : Addr} {p c : Int} {ns : List Int} {Q : QZ} {E : ZX} (h : At M G d a (sndF p c)) (hp : pm p) (hb : byteL ns) (hl : ns.length ≤ 64)
    (q : ∀ x M' c', x ≠ a → M' x = some (.lst ((sentB (frameI ns) p).map D.int)) → At M' (nG G M d) d a (sndF (sentP (frameI ns) p) c') → Ch G d M M' → Q (.ref x) M') : z_Sender_say_row [.ref a, rowD ns] M Q E :=
  l_Sender_say_row h.m hp hb hl fun x M' hx h1 h2 h3 => q x M' _ (fun e => by rw [e, h.m] at hx; cases hx) h1 ⟨h2, nG_own (.inr h.g)⟩ fun y o hy hg => (h3 y (ne_of_m hy hx) (fun e => hg (by rw [e]; exact h.g))).trans hy
theorem l_sayT {M : Mh} {G : Tg} {d : Nat} {a : Addr} {p c : Int} {is : List Nat} {Q : QZ} {E : ZX} (h : At M G d a (sndF p c)) (hp : pm p) (hi : ∀ n ∈ is, n < 260) (hl : is.length ≤ 1000)
    (q : ∀ x M' c', M' x = some (.lst ((sentB is p).map D.int)) → At M' (nG G M d) d a (sndF (sentP is p) c') → Ch G d M M' → (∀ y o, M y = some o → y ≠ a → M' y = some o) → Q (.ref x) M') : z_Sender_say [.ref a, .lst (is.map itD)] M Q E :=
  l_Sender_say h.m hp hi hl fun x M' hx h1 h2 h3 => q x M' _ h1 ⟨h2, nG_own (.inr h.g)⟩ (fun y o hy hg => (h3 y (ne_of_m hy hx) (fun e => hg (by rw [e]; exact h.g))).trans hy) fun y o hy hne => (h3 y (ne_of_m hy hx) hne).trans hy
/-! loops and comprehensions by index -/
def refsD (L : Nat) (a : Nat → Addr) : List D := (List.range L).map fun i => D.ref (a i)
def updF {α : Type} (f : Nat → α) (n : Nat) (x : α) : Nat → α := fun i => if i = n then x else f i
theorem updF_at {α : Type} {f : Nat → α} {n : Nat} {x : α} : updF f n x n = x := if_pos rfl
theorem updF_ne {α : Type} {f : Nat → α} {n i : Nat} {x : α} (h : i ≠ n) : updF f n x i = f i := if_neg h
theorem refsD_get {L i : Nat} {a : Nat → Addr} (h : i < L) : (refsD L a)[i]? = some (.ref (a i)) := by
  unfold refsD
  rw [List.getElem?_map, List.getElem?_range h]; rfl
theorem refsD_len {L : Nat} {a : Nat → Addr} : (refsD L a).length = L := by unfold refsD; rw [List.length_map, List.length_range]
theorem refsD_snoc {n : Nat} {a : Nat → Addr} {x : Addr} : refsD n a ++ [.ref x] = refsD (n + 1) (updF a n x) := by
  unfold refsD
  rw [List.range_succ, List.map_append]
  congr 1
  · apply List.map_congr_left
    intro i hi
    rw [updF_ne (by have := List.mem_range.mp hi; omega)]
  · simp [updF]
theorem zLoop_idx {step : D → (Zl.Env → Mh → Prop) → Zl.Env → Mh → Prop} {nx : Zl.Env → Mh → Prop} {ds : List D} (P : Nat → Zl.Env → Mh → Prop) (hd : ∀ r M, P ds.length r M → nx r M)
    (hs : ∀ i d r M (k : Zl.Env → Mh → Prop), ds[i]? = some d → P i r M → (∀ r' M', P (i + 1) r' M' → k r' M') → step d k r M) {r : Zl.Env} {M : Mh} (h : P 0 r M) : zLoop none step nx ds r M := by
  refine zLoop_ind (fun l r M => ∃ i, i ≤ ds.length ∧ l = ds.drop i ∧ P i r M) ?_ ?_ ⟨0, Nat.zero_le _, rfl, h⟩
  · rintro r M ⟨i, hi, e, hp⟩
    have : i = ds.length := by
      have := congrArg List.length e
      rw [List.length_drop, List.length_nil] at this; omega
    subst this
    exact hd r M hp
  · rintro d l r M k ⟨i, hi, e, hp⟩ hk
    have hi2 : i < ds.length := by
      have := congrArg List.length e
      rw [List.length_drop, List.length_cons] at this; omega
    rw [List.drop_eq_getElem_cons hi2] at e
    injection e with e1 e2
    exact hs i d r M k (by rw [List.getElem?_eq_getElem hi2, e1]) hp fun r' M' h' => hk r' M' ⟨i + 1, hi2, e2, h'⟩
theorem zLcL_range {step : D → Mh → (Option D → Mh → Prop) → Prop} {k : List D → Mh → Prop} {L : Nat} (P : Nat → List D → Mh → Prop) (hd : ∀ acc M, P L acc M → k acc M)
    (hs : ∀ j acc M (q : Option D → Mh → Prop), j < L → P j acc M → (∀ y M', P (j + 1) (acc ++ [y]) M' → q (some y) M') → step (.int (j : Nat)) M q) {M : Mh} (h : P 0 [] M) : zLcL none step k (rangeD 0 1 L) [] M := by
  refine zLcL_ind (fun l acc M => ∃ i, i ≤ L ∧ l = rangeD (i : Int) 1 (L - i) ∧ P i acc M) ?_ ?_ ⟨0, Nat.zero_le _, rfl, h⟩
  · rintro acc M ⟨i, hi, e, hp⟩
    have : i = L := by
      have := congrArg List.length e
      rw [rangeD_len, List.length_nil] at this; omega
    subst this
    exact hd acc M hp
  · rintro d l acc M q ⟨i, hi, e, hp⟩ _ h2
    have hi2 : i < L := by
      have := congrArg List.length e
      rw [rangeD_len, List.length_cons] at this; omega
    rw [show L - i = (L - (i + 1)) + 1 by omega, rangeD_succ] at e
    injection e with e1 e2
    subst e1
    exact hs i acc M q hi2 hp fun y M' h' => h2 y M' ⟨i + 1, hi2, by rw [e2]; congr 1, h'⟩

-- needs: Lanes_come dealgath
theorem Runs.idle {L : Nat} {t t' : Int} {f f' : LF} {es : List D} (h : Runs L t f es t' f') (hf : fullB L f = false) : es = [] ∧ t' = t ∧ f' = f := by
  cases h with
  | stop _ => exact ⟨rfl, rfl, rfl⟩
  | step h1 _ => rw [hf] at h1; cases h1
theorem Runs.go {L : Nat} {t t' : Int} {f f' : LF} {es : List D} (h : Runs L t f es t' f') (hf : fullB L f = true) : ∃ es1, es = evL t (headsF L f) :: es1 ∧ Runs L ((t + 1) % 256) (dropF ((t + 1) % 256) (popF t f)) es1 t' f' := by
  cases h with
  | stop h1 => rw [hf] at h1; cases h1
  | step _ h2 => exact ⟨_, rfl, h2⟩
theorem drop_keep {t : Int} {x : List Int} {q : List (List Int)} (h : (x.headD 0 - t) % 256 < 128) : dropL t (x :: q) = x :: q := by
  unfold dropL
  rw [List.dropWhile_cons_of_neg (by unfold lateB; rw [decide_eq_false (by omega)]; decide)]
theorem full2 {f : LF} : fullB 2 f = (decide (f 0 ≠ []) && (decide (f 1 ≠ []) && true)) := rfl
theorem heads2 {f : LF} : headsF 2 f = [(f 0).headD [], (f 1).headD []] := rfl
def rowEv (t : Int) (row : List Int) : D := .tup [.str "row", .int t, rowD row]
def lostEv (t : Int) : D := .tup [.str "lost", .int t, .lst []]
theorem ev_deal {row : List Int} {L : Nat} {t : Int} (hL : okL L) (hb : byteL row) (hl : row.length ≤ 63 * L) (h0 : 0 ≤ t) (h1 : t ≤ 255) : evL t (dealL row L t) = rowEv t row := by
  have G := dealL_go hL hb hl h0 h1
  have : wholeB t (dealL row L t) = true := by
    unfold wholeB
    rw [G.f, Bool.and_true, List.all_eq_true]
    intro r hr
    obtain ⟨i, _, rfl⟩ := List.mem_map.mp hr
    exact decide_eq_true rfl
  unfold evL rowEv
  rw [this, gath_deal hL]; rfl
theorem ev_lost {t : Int} {hs : List (List Int)} {r : List Int} (hr : r ∈ hs) (h : r.headD 0 ≠ t) : evL t hs = lostEv t := by
  have : wholeB t hs = false := by
    unfold wholeB
    rw [show hs.all (fun h => decide (h.headD 0 = t)) = false by
      rw [List.all_eq_false]
      exact ⟨r, hr, by rw [decide_eq_false h]; decide⟩]
    rfl
  unfold evL lostEv
  rw [this]; rfl
abbrev fA (row : List Int) (t : Int) : List Int := t :: laneL row 2 0
abbrev fB (row : List Int) (t : Int) : List Int := t :: laneL row 2 1
theorem r2_idle {t t' : Int} {f f' : LF} {es : List D} (h : Runs 2 t f es t' f') (he : f 0 = [] ∨ f 1 = []) : es = [] ∧ t' = t ∧ f' = f := h.idle (by
  rw [full2]
  rcases he with e | e <;> rw [e]
  · rfl
  · cases f 0 <;> rfl)
theorem pop_eq {t : Int} {f : LF} {i : Nat} {x : List Int} {q : List (List Int)} (e : f i = x :: q) (h : x.headD 0 = t) : popF t f i = q := by unfold popF; rw [e]; exact if_pos h
theorem pop_ne {t : Int} {f : LF} {i : Nat} {x : List Int} {q : List (List Int)} (e : f i = x :: q) (h : x.headD 0 ≠ t) : popF t f i = x :: q := by unfold popF; rw [e]; exact if_neg h
theorem r2_row {row : List Int} {t t' : Int} {f f' : LF} {es : List D} (h : Runs 2 t f es t' f') (hb : byteL row) (hl : row.length ≤ 126) (h0 : 0 ≤ t) (h1 : t ≤ 255) (e0 : f 0 = [fA row t]) (e1 : f 1 = [fB row t]) : es = [rowEv t row] ∧ t' = (t + 1) % 256 ∧ f' 0 = [] ∧ f' 1 = [] := by
  obtain ⟨es1, rfl, h2⟩ := h.go (by rw [full2, e0, e1]; rfl)
  have p0 : popF t f 0 = [] := pop_eq e0 rfl
  have p1 : popF t f 1 = [] := pop_eq e1 rfl
  have d0 : dropF ((t + 1) % 256) (popF t f) 0 = [] := by unfold dropF; rw [p0]; rfl
  have d1 : dropF ((t + 1) % 256) (popF t f) 1 = [] := by unfold dropF; rw [p1]; rfl
  obtain ⟨rfl, rfl, rfl⟩ := r2_idle h2 (.inl d0)
  refine ⟨?_, rfl, d0, d1⟩
  rw [heads2, e0, e1]
  show [evL t (dealL row 2 t)] = _
  rw [ev_deal (.inl rfl) hb (by omega) h0 h1]
theorem r2_lost0 {x y : List Int} {t t' : Int} {f f' : LF} {es : List D} (h : Runs 2 t f es t' f') (h0 : 0 ≤ t) (h1 : t ≤ 255) (e0 : f 0 = [x]) (e1 : f 1 = [y]) (hx : x.headD 0 = (t + 1) % 256) (hy : y.headD 0 = t) : es = [lostEv t] ∧ t' = (t + 1) % 256 ∧ f' 0 = [x] ∧ f' 1 = [] := by
  obtain ⟨es1, rfl, h2⟩ := h.go (by rw [full2, e0, e1]; rfl)
  have p0 : popF t f 0 = [x] := pop_ne e0 (by omega)
  have p1 : popF t f 1 = [] := pop_eq e1 hy
  have d0 : dropF ((t + 1) % 256) (popF t f) 0 = [x] := by unfold dropF; rw [p0]; exact drop_keep (by omega)
  have d1 : dropF ((t + 1) % 256) (popF t f) 1 = [] := by unfold dropF; rw [p1]; rfl
  obtain ⟨rfl, rfl, rfl⟩ := r2_idle h2 (.inr d1)
  refine ⟨?_, rfl, d0, d1⟩
  rw [heads2, e0, e1]
  show [evL t [x, y]] = _
  rw [ev_lost (r := x) List.mem_cons_self (by omega)]
theorem r2_lost1 {row x : List Int} {t t' : Int} {f f' : LF} {es : List D} (h : Runs 2 t f es t' f') (hb : byteL row) (hl : row.length ≤ 126) (h0 : 0 ≤ t) (h1 : t ≤ 255) (e0 : f 0 = [x, fA row ((t + 1) % 256)]) (e1 : f 1 = [fB row ((t + 1) % 256)]) (hx : x.headD 0 = t) : es = [lostEv t, rowEv ((t + 1) % 256) row] ∧ t' = ((t + 1) % 256 + 1) % 256 ∧ f' 0 = [] ∧ f' 1 = [] := by
  obtain ⟨es1, rfl, h2⟩ := h.go (by rw [full2, e0, e1]; rfl)
  have p0 : popF t f 0 = [fA row ((t + 1) % 256)] := pop_eq e0 hx
  have p1 : popF t f 1 = [fB row ((t + 1) % 256)] := pop_ne e1 (by show (t + 1) % 256 ≠ t; omega)
  have d0 : dropF ((t + 1) % 256) (popF t f) 0 = [fA row ((t + 1) % 256)] := by unfold dropF; rw [p0]; exact drop_keep (by show ((t + 1) % 256 - (t + 1) % 256) % 256 < 128; omega)
  have d1 : dropF ((t + 1) % 256) (popF t f) 1 = [fB row ((t + 1) % 256)] := by unfold dropF; rw [p1]; exact drop_keep (by show ((t + 1) % 256 - (t + 1) % 256) % 256 < 128; omega)
  obtain ⟨rfl, rfl, z⟩ := r2_row h2 hb hl (by omega) (by omega) d0 d1
  refine ⟨?_, rfl, z⟩
  rw [heads2, e0, e1]
  show evL t [x, fB row ((t + 1) % 256)] :: _ = _
  rw [ev_lost (r := fB row ((t + 1) % 256)) (by simp) (by show (t + 1) % 256 ≠ t; omega)]

-- needs: runs2
def frK (rows : List (List Int)) (L k i : Nat) : List Int := (k : Int) :: laneL (rows.getD k []) L i
def quF (rows : List (List Int)) (L mn : Nat) (ca : Nat → Nat) : LF := fun i => (List.range' mn (ca i - mn)).map fun k => frK rows L k i
def incF (ca : Nat → Nat) (l : Nat) : Nat → Nat := fun i => if i = l then ca l + 1 else ca i
def isMin (L mn : Nat) (ca : Nat → Nat) : Prop := (∀ i, i < L → mn ≤ ca i) ∧ ∃ i, i < L ∧ ca i = mn
theorem qu_drop {rows : List (List Int)} {L mn m i : Nat} {ca : Nat → Nat} (h : m ≤ mn) (h' : mn ≤ m + 100) : dropL (m : Int) (quF rows L mn ca i) = quF rows L mn ca i := by
  unfold quF
  cases e : ca i - mn with
  | zero => rfl
  | succ n =>
    rw [List.range'_succ, List.map_cons]
    exact drop_keep (by show ((mn : Int) - (m : Int)) % 256 < 128; omega)
theorem qu_inc {rows : List (List Int)} {L mn l : Nat} {ca : Nat → Nat} (h : mn ≤ ca l) (i : Nat) : setF (quF rows L mn ca) l (quF rows L mn ca l ++ [frK rows L (ca l) l]) i = quF rows L mn (incF ca l) i := by
  unfold setF quF incF
  by_cases e : i = l
  · subst e
    rw [if_pos rfl, if_pos rfl, show ca i + 1 - mn = (ca i - mn) + 1 by omega, List.range'_concat, List.map_append]
    simp only [List.map_cons, List.map_nil]
    rw [show mn + 1 * (ca i - mn) = ca i by omega]
  · rw [if_neg e, if_neg e]
theorem come32 {rows : List (List Int)} {L mn l : Nat} {ca : Nat → Nat} {es : List D} {t' : Int} {g f' : LF} (hL : okL L) (hrow : ∀ k, byteL (rows.getD k []) ∧ (rows.getD k []).length ≤ 63 * L) (hmn : mn < 100) (hm : isMin L mn ca) (hl : l < L) (hg : ∀ i, g i = quF rows L mn (incF ca l) i) (hr : Runs L (mn : Int) g es t' f') :
    (isMin L mn (incF ca l) ∧ es = [] ∧ t' = (mn : Int) ∧ ∀ i, i < L → f' i = quF rows L mn (incF ca l) i) ∨ (isMin L (mn + 1) (incF ca l) ∧ es = [rowEv (mn : Int) (rows.getD mn [])] ∧ t' = ((mn + 1 : Nat) : Int) ∧ ∀ i, i < L → f' i = quF rows L (mn + 1) (incF ca l) i) := by
  have hge : ∀ i, i < L → mn ≤ incF ca l i := fun i hi => by
    have := hm.1 i hi
    unfold incF
    split
    · rename_i e; rw [← e]; omega
    · exact this
  by_cases hx : ∃ i, i < L ∧ incF ca l i = mn
  · obtain ⟨i, hi, e⟩ := hx
    have hf : fullB L g = false := by
      unfold fullB
      rw [List.all_eq_false]
      refine ⟨i, List.mem_range.mpr hi, ?_⟩
      rw [hg i]
      unfold quF
      rw [e, Nat.sub_self]; simp
    obtain ⟨rfl, rfl, rfl⟩ := hr.idle hf
    exact .inl ⟨⟨hge, i, hi, e⟩, rfl, rfl, fun i _ => hg i⟩
  · have hgt : ∀ i, i < L → mn + 1 ≤ incF ca l i := fun i hi => by
      have := hge i hi
      have : incF ca l i ≠ mn := fun z => hx ⟨i, hi, z⟩
      omega
    have hq : ∀ i, i < L → g i = frK rows L mn i :: quF rows L (mn + 1) (incF ca l) i := fun i hi => by
      have := hgt i hi
      rw [hg i]
      unfold quF
      rw [show incF ca l i - mn = (incF ca l i - (mn + 1)) + 1 by omega, List.range'_succ, List.map_cons]
    have hf : fullB L g = true := by
      unfold fullB
      rw [List.all_eq_true]
      intro i hi
      rw [hq i (List.mem_range.mp hi)]; rfl
    obtain ⟨es1, rfl, hr1⟩ := hr.go hf
    have e1 : ((mn : Int) + 1) % 256 = ((mn + 1 : Nat) : Int) := by omega
    rw [e1] at hr1
    have hd : ∀ i, i < L → dropF ((mn + 1 : Nat) : Int) (popF (mn : Int) g) i = quF rows L (mn + 1) (incF ca l) i := fun i hi => by
      show dropL _ (popF (mn : Int) g i) = _
      rw [pop_eq (t := (mn : Int)) (hq i hi) rfl]
      exact qu_drop (Nat.le_refl _) (by omega)
    have hlm : incF ca l l = mn + 1 := by
      obtain ⟨i, hi, e⟩ := hm.2
      have := hgt i hi
      have hil : i = l := by
        by_cases e2 : i = l
        · exact e2
        · unfold incF at this
          rw [if_neg e2] at this; omega
      subst hil
      unfold incF
      rw [if_pos rfl, e]
    have hf2 : fullB L (dropF ((mn + 1 : Nat) : Int) (popF (mn : Int) g)) = false := by
      unfold fullB
      rw [List.all_eq_false]
      refine ⟨l, List.mem_range.mpr hl, ?_⟩
      rw [hd l hl]
      unfold quF
      rw [hlm, Nat.sub_self]; simp
    obtain ⟨rfl, rfl, rfl⟩ := hr1.idle hf2
    refine .inr ⟨⟨hgt, l, hl, hlm⟩, ?_, rfl, hd⟩
    have : headsF L g = dealL (rows.getD mn []) L (mn : Int) := by
      unfold headsF dealL
      apply List.map_congr_left
      intro i hi
      rw [hq i (List.mem_range.mp hi)]; rfl
    rw [this, ev_deal hL (hrow mn).1 (hrow mn).2 (by omega) (by omega)]

-- needs: joinm partdef
theorem chunks : ∀ (m : Nat) (ns : List Int), ns.length ≤ 61 * m → ((List.range m).map fun k => (ns.drop (61 * k)).take 61).flatten = ns
  | 0, ns, h => by
    have : ns = [] := List.length_eq_zero_iff.mp (by omega)
    subst this; rfl
  | m + 1, ns, h => by
    rw [List.range_succ_eq_map, List.map_cons, List.map_map, List.flatten_cons]
    have e : ((fun k => (ns.drop (61 * k)).take 61) ∘ Nat.succ) = fun k => ((ns.drop 61).drop (61 * k)).take 61 := by
      funext k
      show (ns.drop (61 * (k + 1))).take 61 = _
      rw [List.drop_drop, show 61 * (k + 1) = 61 + 61 * k by omega]
    rw [e, chunks m (ns.drop 61) (by rw [List.length_drop]; omega)]
    rw [Nat.mul_zero, List.drop_zero, List.take_append_drop]
theorem manyP_le {ns : List Int} (h : ns.length ≤ 610) : 1 ≤ manyP ns ∧ manyP ns ≤ 10 ∧ ns.length ≤ 61 * manyP ns := by
  unfold manyP; split <;> omega
theorem body_parts {ns : List Int} (n : Int) (h : ns.length ≤ 610) : bodyL (partsL ns n) = ns := by
  unfold bodyL partsL
  rw [List.map_map]
  rw [show ((fun p : List Int => p.drop 3) ∘ partL ns n) = fun k => (ns.drop (61 * k)).take 61 from rfl]
  exact chunks _ ns (manyP_le h).2.2
theorem partsL_len (ns : List Int) (n : Int) : (partsL ns n).length = manyP ns := by unfold partsL; rw [List.length_map, List.length_range]
theorem partsL_take (ns : List Int) (n : Int) {k : Nat} (h : k < manyP ns) : (partsL ns n).take k ++ [partL ns n k] = (partsL ns n).take (k + 1) := by
  have e : (partsL ns n)[k]? = some (partL ns n k) := by
    unfold partsL
    rw [List.getElem?_map, List.getElem?_range h]; rfl
  rw [List.take_add_one, e]; rfl
theorem partsL_get (ns : List Int) (n : Int) {k : Nat} (h : k < manyP ns) : (partsL ns n)[k]? = some (partL ns n k) := by
  unfold partsL
  rw [List.getElem?_map, List.getElem?_range h]; rfl
/-- a joiner's step at the part in turn -/
theorem join_part {ns : List Int} {n : Int} {k : Nat} (h : ns.length ≤ 610) (hk : k < manyP ns) : joinL ((partsL ns n).take k) (partL ns n k) = if k + 1 = manyP ns then (some (n, ns), []) else (none, (partsL ns n).take (k + 1)) := by
  obtain ⟨m1, m2, m3⟩ := manyP_le h
  have hP : partB (partL ns n k) = true := by
    show (decide ((k : Int) < (manyP ns : Int)) && decide ((manyP ns : Int) ≤ 10)) = true
    rw [decide_eq_true (by omega), decide_eq_true (by omega)]; rfl
  have hd : ∀ ps : List (List Int), doneL ps (partL ns n k) = if (ps.length : Int) < (manyP ns : Int) then (none, ps) else (some (n, bodyL ps), []) := fun _ => rfl
  have fin : doneL ((partsL ns n).take (k + 1)) (partL ns n k) = if k + 1 = manyP ns then (some (n, ns), []) else (none, (partsL ns n).take (k + 1)) := by
    rw [hd]
    have hl : ((partsL ns n).take (k + 1)).length = k + 1 := by rw [List.length_take, partsL_len]; omega
    rw [hl]
    by_cases e : k + 1 = manyP ns
    · rw [if_neg (by omega), if_pos e, e, ← partsL_len ns n, List.take_length, body_parts n h]
    · rw [if_pos (by omega), if_neg e]
  unfold joinL
  rw [hP, if_pos rfl]
  have e1 : (partL ns n k).getD 1 0 = (k : Int) := rfl
  rw [e1]
  by_cases e0 : k = 0
  · subst e0
    rw [if_pos (show ((0 : Nat) : Int) = 0 from rfl), ← fin, ← partsL_take ns n hk]; rfl
  · rw [if_neg (by omega)]
    have hg : goesB ((partsL ns n).take k) (partL ns n k) = true := by
      have hlen : ((partsL ns n).take k).length = k := by rw [List.length_take, partsL_len]; omega
      have h0 : (partsL ns n).take k = partL ns n 0 :: ((partsL ns n).take k).tail := by
        have : ((partsL ns n).take k)[0]? = some (partL ns n 0) := by
          rw [List.getElem?_take, if_pos (by omega)]; exact partsL_get ns n (by omega)
        cases e : (partsL ns n).take k with
        | nil => rw [e] at this; cases this
        | cons a l => rw [e] at this; injection this with this; subst this; rfl
      rw [h0]
      show (decide ((k : Int) = ((partL ns n 0 :: ((partsL ns n).take k).tail).length : Int)) && (decide (n = n) && decide ((manyP ns : Int) = (manyP ns : Int)))) = true
      rw [← h0, hlen, decide_eq_true rfl, decide_eq_true rfl, decide_eq_true rfl]; rfl
    rw [hg, if_pos rfl, partsL_take ns n hk, fin]

theorem zLcL_filterC {α : Type} {f g : α → D} {p : α → Bool} {step : D → Mh → (Option D → Mh → Prop) → Prop} {k : List D → Mh → Prop} {M : Mh} {c : Addr} {ds : List D} (hc : M c = some (.lst ds)) : ∀ {as : List α} {acc : List D}, (∀ a, a ∈ as → ∀ Q : Option D → Mh → Prop, (p a = true → Q (some (g a)) M) → (p a = false → Q none M) → step (f a) M Q) → k (acc ++ (as.filter p).map g) M → zLcL (some (c, ds)) step k (as.map f) acc M
  | [], acc, _, h => by
    show zck (some (c, ds)) M (k acc M)
    exact ⟨hc, by simpa using h⟩
  | a :: as, acc, hs, h => by
    show zck (some (c, ds)) M _
    refine ⟨hc, hs a List.mem_cons_self _ (fun hp => ?_) fun hp => ?_⟩
    · show zLcL (some (c, ds)) step k _ (acc ++ [g a]) M
      exact zLcL_filterC hc (fun b hb => hs b (List.mem_cons_of_mem _ hb)) (by simpa [List.filter_cons, hp] using h)
    · show zLcL (some (c, ds)) step k _ acc M
      exact zLcL_filterC hc (fun b hb => hs b (List.mem_cons_of_mem _ hb)) (by simpa [List.filter_cons, hp] using h)

mutual
theorem eqD_self : ∀ {d : D}, Zl.plain d = true → eqD d d = true
  | .non, _ => rfl
  | .bl b, _ => by simp
  | .int i, _ => by simp
  | .str s, _ => by simp
  | .lst ds, h => by rw [eqD_lst]; exact eqDs_selfP (ds := ds) h
  | .tup ds, h => by rw [eqD_tup]; exact eqDs_selfP (ds := ds) h
  | .dct, h => by cases h
  | .exc _, h => by cases h
  | .scr _, h => by cases h
  | .ref _, h => by cases h
theorem eqDs_selfP : ∀ {ds : List D}, plains ds = true → eqDs ds ds = true
  | [], _ => rfl
  | d :: r, h => by
    have q := Bool.and_eq_true_iff.mp (show (Zl.plain d && plains r) = true from h)
    rw [eqDs_cons, eqD_self q.1, eqDs_selfP q.2]; rfl
end

-- needs: rows
theorem rep_flatB (k : Nat) (l : List Int) : (List.replicate k (l.map D.int)).flatten = ((List.replicate k l).flatten).map D.int := by
  induction k with
  | zero => rfl
  | succ k ih => rw [List.replicate_succ, List.flatten_cons, ih, List.replicate_succ, List.flatten_cons, List.map_append]
theorem byteL_rep {k : Nat} {l : List Int} (h : byteL l) : byteL (List.replicate k l).flatten := fun n hn => by
  obtain ⟨l', h1, h2⟩ := List.mem_flatten.mp hn
  rw [List.eq_of_mem_replicate h1] at h2
  exact h n h2
theorem len_rep (k : Nat) (l : List Int) : (List.replicate k l).flatten.length = k * l.length := by
  induction k with
  | zero => simp
  | succ k ih => rw [List.replicate_succ, List.flatten_cons, List.length_append, ih, Nat.succ_mul, Nat.add_comm]
theorem i_mulIs {M : Mh} {Q : QZ} {l : List Int} {k : Int} {n : Bool} (h0 : 0 ≤ k) (h : l.length * k.toNat ≤ 16777216) (h2 : k < 9223372036854775808) (q : zNew n ((List.replicate k.toNat l).flatten.map D.int) M Q) : dMul n (.lst (l.map D.int)) (.int k) M Q := i_mulL (by omega) (by omega) (by rw [List.length_map, sizeLine_eq]; exact h) (by rw [rep_flatB]; exact q)

-- needs: heap48 lanes32 joinparts filterC plainrefl bytes_rep
/-- senders and ears -/
structure E48 (M : Mh) (G : Tg) (t : Addr) (L : Nat) (a e : Nat → Addr) (x : Nat → Er1) (Js : Nat → List Int) (p : Nat → Int) : Prop where
  ht : At M G 0 t .town
  hs : ∀ i, i < L → ∃ c, At M G (200 + i) (a i) (sndF (p i) c)
  ea : ∀ i, i < L → EarT M G (5 + i) (x i)
  ee : ∀ i, i < L → (x i).e = e i
  js : ∀ i, i < L → (Js i).length ≤ 12 ∧ (x i).sr = (runR RZ (Js i)).2 ∧ (x i).sk = (runT none (runR RZ (Js i)).1).2
theorem E48.keep {M M' : Mh} {G : Tg} {c : Nat} {t : Addr} {L : Nat} {a e : Nat → Addr} {x : Nat → Er1} {Js : Nat → List Int} {p : Nat → Int} (h : E48 M G t L a e x Js p) (k : Ch G c M M') (h0 : c ≠ 0) (h1 : ∀ i, i < L → c ≠ 200 + i ∧ c ≠ 5 + i) : E48 M' (nG G M c) t L a e x Js p :=
  ⟨h.ht.keep k (Ne.symm h0), fun i hi => let ⟨c, hc⟩ := h.hs i hi; ⟨c, hc.keep k (Ne.symm (h1 i hi).1)⟩, fun i hi => (h.ea i hi).keep k (Ne.symm (h1 i hi).2), h.ee, h.js⟩
/-- and the bits sent so far -/
structure B48 (M : Mh) (G : Tg) (t b : Addr) (L : Nat) (a e q : Nat → Addr) (x : Nat → Er1) (Js : Nat → List Int) (fs : Nat → List (List Int × List Nat)) : Prop where
  E : E48 M G t L a e x Js fun i => sentP (laneI (fs i)) (-1)
  hb : At M G 1 b (.lst (refsD L q))
  hq : ∀ i, i < L → At M G (100 + i) (q i) (.lst ((sentB (laneI (fs i)) (-1)).map D.int))
theorem B48.keep {M M' : Mh} {G : Tg} {c : Nat} {t b : Addr} {L : Nat} {a e q : Nat → Addr} {x : Nat → Er1} {Js : Nat → List Int} {fs : Nat → List (List Int × List Nat)} (h : B48 M G t b L a e q x Js fs) (k : Ch G c M M') (h0 : c ≠ 0 ∧ c ≠ 1) (h1 : ∀ i, i < L → c ≠ 200 + i ∧ c ≠ 5 + i ∧ c ≠ 100 + i) : B48 M' (nG G M c) t b L a e q x Js fs :=
  ⟨h.E.keep k h0.1 fun i hi => ⟨(h1 i hi).1, (h1 i hi).2.1⟩, h.hb.keep k (Ne.symm h0.2), fun i hi => (h.hq i hi).keep k (Ne.symm (h1 i hi).2.2)⟩
/-- one more frame over lane i -/
theorem B48.more {M M6 M7 : Mh} {G : Tg} {t b : Addr} {L : Nat} {a e q : Nat → Addr} {x : Nat → Er1} {Js : Nat → List Int} {fs : Nat → List (List Int × List Nat)} (h : B48 M G t b L a e q x Js fs) {i : Nat} (hi : i < L) (hL : L ≤ 4) {f : List Int} {g : List Nat} {c : Int} {d : Int}
    (k6 : Ch G (200 + i) M M6) (k7 : Ch (nG G M (200 + i)) (200 + i) M6 M7) (hs : At M7 (nG (nG G M (200 + i)) M6 (200 + i)) (200 + i) (a i) (sndF (sentP g (sentP (frameI f) (sentP (laneI (fs i)) (-1)))) c)) :
    B48 (mup M7 (q i) (.lst ((sentB (laneI (fs i)) (-1)).map D.int ++ (sentB (frameI f ++ g) (sentP (laneI (fs i)) (-1))).map D.int))) (nG (nG (nG G M (200 + i)) M6 (200 + i)) M7 (100 + i)) t b L a e q x Js (updF fs i (fs i ++ [(f, g)])) := by
  have hq7 := ((h.hq i hi).keep k6 (by omega)).keep k7 (by omega)
  have kq : Ch (nG (nG G M (200 + i)) M6 (200 + i)) (100 + i) M7 (mup M7 (q i) (.lst ((sentB (laneI (fs i)) (-1)).map D.int ++ (sentB (frameI f ++ g) (sentP (laneI (fs i)) (-1))).map D.int))) := .mup (.inr hq7.g)
  refine ⟨⟨((h.E.ht.keep k6 (by omega)).keep k7 (by omega)).keep kq (by omega), fun j hj => ?_, fun j hj => (((h.E.ea j hj).keep k6 (by omega)).keep k7 (by omega)).keep kq (by omega), h.E.ee, h.E.js⟩, ((h.hb.keep k6 (by omega)).keep k7 (by omega)).keep kq (by omega), fun j hj => ?_⟩
  · by_cases ej : j = i
    · subst ej
      rw [updF_at, laneI_snoc, sentP_app, sentP_app]
      exact ⟨_, hs.keep kq (by omega)⟩
    · rw [updF_ne ej]
      obtain ⟨c, hc⟩ := h.E.hs j hj
      exact ⟨c, ((hc.keep k6 (by omega)).keep k7 (by omega)).keep kq (by omega)⟩
  · by_cases ej : j = i
    · subst ej
      rw [updF_at, laneI_snoc, sentB_app (laneI (fs j)), List.map_append (l₁ := sentB (laneI (fs j)) (-1))]
      exact hq7.set
    · rw [updF_ne ej]
      exact (((h.hq j hj).keep k6 (by omega)).keep k7 (by omega)).keep kq (by omega)
/-- all that the last loop goes over -/
structure W48 (M : Mh) (G : Tg) (t b A j w o : Addr) (ws : List Addr) (L : Nat) (e : Nat → Addr) (x : Nat → Er1) (ds : Nat → D) (bs : Nat → List Int) (ps : List (List Int)) (ts : List D) (mn : Nat) (f : LF) : Prop where
  ht : At M G 0 t .town
  hb : At M G 1 b (.lst ((List.range L).map ds))
  ho : At M G 2 o (.lst ts)
  ln : LanT M G 3 A ws (mn : Int) f
  jn : JoT M G 4 j w ps
  ea : ∀ i, i < L → EarT M G (5 + i) (x i)
  ee : ∀ i, i < L → (x i).e = e i
  hd : ∀ i, i < L → RowT M G (100 + i) (ds i) (bs i)
section
variable {M M' : Mh} {G : Tg} {t b A j w o : Addr} {ws : List Addr} {L : Nat} {e : Nat → Addr} {x : Nat → Er1} {ds : Nat → D} {bs : Nat → List Int} {ps : List (List Int)} {ts : List D} {mn : Nat} {f : LF}
theorem W48.hear (h : W48 M G t b A j w o ws L e x ds bs ps ts mn f) (hL : L ≤ 4) {l : Nat} (hl : l < L) {y : Er1} (hy : EarT M' (nG G M (5 + l)) (5 + l) y) (ey : y.e = (x l).e) (k : Ch G (5 + l) M M') : W48 M' (nG G M (5 + l)) t b A j w o ws L e (updF x l y) ds bs ps ts mn f := by
  refine ⟨h.ht.keep k (by omega), h.hb.keep k (by omega), h.ho.keep k (by omega), h.ln.keep k (by omega), h.jn.keep k (by omega), fun i hi => ?_, fun i hi => ?_, fun i hi => (h.hd i hi).keep k (by omega)⟩
  · by_cases e : i = l
    · subst e; rw [updF_at]; exact hy
    · rw [updF_ne e]; exact (h.ea i hi).keep k (by omega)
  · by_cases e : i = l
    · subst e; rw [updF_at, ey]; exact h.ee i hi
    · rw [updF_ne e]; exact h.ee i hi
theorem W48.come (h : W48 M G t b A j w o ws L e x ds bs ps ts mn f) {mn' : Nat} {f' : LF} (k : Ch G 3 M M') (hn : LanT M' (nG G M 3) 3 A ws (mn' : Int) f') : W48 M' (nG G M 3) t b A j w o ws L e x ds bs ps ts mn' f' :=
  ⟨h.ht.keep k (by omega), h.hb.keep k (by omega), h.ho.keep k (by omega), hn, h.jn.keep k (by omega), fun i hi => (h.ea i hi).keep k (by omega), h.ee, fun i hi => (h.hd i hi).keep k (by omega)⟩
theorem W48.take (h : W48 M G t b A j w o ws L e x ds bs ps ts mn f) {w' : Addr} {ps' : List (List Int)} (k : Ch G 4 M M') (hn : JoT M' (nG G M 4) 4 j w' ps') : W48 M' (nG G M 4) t b A j w' o ws L e x ds bs ps' ts mn f :=
  ⟨h.ht.keep k (by omega), h.hb.keep k (by omega), h.ho.keep k (by omega), h.ln.keep k (by omega), hn, fun i hi => (h.ea i hi).keep k (by omega), h.ee, fun i hi => (h.hd i hi).keep k (by omega)⟩
theorem W48.app (h : W48 M G t b A j w o ws L e x ds bs ps ts mn f) {ts' : List D} : W48 (mup M o (.lst ts')) (nG G M 2) t b A j w o ws L e x ds bs ps ts' mn f :=
  have k : Ch G 2 M (mup M o (.lst ts')) := .mup (.inr h.ho.g)
  ⟨h.ht.keep k (by omega), h.hb.keep k (by omega), h.ho.set, h.ln.keep k (by omega), h.jn.keep k (by omega), fun i hi => (h.ea i hi).keep k (by omega), h.ee, fun i hi => (h.hd i hi).keep k (by omega)⟩
theorem set_upd {l : Nat} {v : D} : ((List.range L).map ds).set l v = (List.range L).map (updF ds l v) := by
  apply List.ext_getElem?
  intro i
  rw [List.getElem?_set, List.length_map, List.length_range, List.getElem?_map, List.getElem?_map]
  by_cases h : l = i
  · subst h
    rw [if_pos rfl]
    by_cases h2 : l < L
    · rw [if_pos h2, List.getElem?_range h2, Option.map_some, updF_at]
    · rw [if_neg h2, List.getElem?_eq_none (by rw [List.length_range]; omega)]; rfl
  · rw [if_neg h]
    by_cases h2 : i < L
    · rw [List.getElem?_range h2, Option.map_some, Option.map_some, updF_ne (Ne.symm h)]
    · rw [List.getElem?_eq_none (by rw [List.length_range]; omega)]; rfl
theorem W48.set (h : W48 M G t b A j w o ws L e x ds bs ps ts mn f) {l : Nat} {r : List Int} : W48 (mup M b (.lst (((List.range L).map ds).set l (rowD r)))) (nG G M 1) t b A j w o ws L e x (updF ds l (rowD r)) (updF bs l r) ps ts mn f := by
  have k : Ch G 1 M (mup M b (.lst (((List.range L).map ds).set l (rowD r)))) := .mup (.inr h.hb.g)
  refine ⟨h.ht.keep k (by omega), ?_, h.ho.keep k (by omega), h.ln.keep k (by omega), h.jn.keep k (by omega), fun i hi => (h.ea i hi).keep k (by omega), h.ee, fun i hi => ?_⟩
  · have := h.hb.set (o' := .lst (((List.range L).map ds).set l (rowD r)))
    rw [set_upd] at this ⊢
    exact this
  · by_cases e : i = l
    · subst e
      rw [updF_at, updF_at]
      exact ⟨.inl rfl, fun p z => nomatch z⟩
    · rw [updF_ne e, updF_ne e]
      exact (h.hd i hi).keep k (by omega)
end
theorem LanT.congr {M : Mh} {G : Tg} {d : Nat} {A : Addr} {ws : List Addr} {t : Int} {f g : LF} (h : LanT M G d A ws t f) (e : ∀ i, i < ws.length → f i = g i) : LanT M G d A ws t g := ⟨h.ln.congr e, h.ga, h.gw⟩
/-! plain -/
theorem drop_cons48 {α : Type} {m c : Nat} {f : Nat → α} {a : α} {l : List α} (h : a :: l = ((List.range m).drop c).map f) : c < m ∧ a = f c ∧ l = ((List.range m).drop (c + 1)).map f := by
  by_cases hc : c < m
  · rw [List.drop_eq_getElem_cons (by rw [List.length_range]; exact hc), List.map_cons, List.getElem_range] at h
    injection h with h1 h2
    exact ⟨hc, h1, h2⟩
  · rw [List.drop_eq_nil_of_le (by rw [List.length_range]; omega)] at h
    cases h
def psL (row : List Int) (nu : Int) (mn : Nat) : List (List Int) := if mn = manyP row then [] else (partsL row nu).take mn
def endD (row : List Int) (nu : Int) (k : Nat) : D := if k + 1 = manyP row then .tup [.int nu, rowD row] else .non
def toldL (row : List Int) (nu : Int) (mn : Nat) : List D := (List.range mn).map (endD row nu)
theorem toldL_snoc (row : List Int) (nu : Int) (mn : Nat) : toldL row nu (mn + 1) = toldL row nu mn ++ [endD row nu mn] := by
  unfold toldL; rw [List.range_succ, List.map_append]; rfl
theorem join48 {row : List Int} {nu : Int} {k : Nat} (h : row.length ≤ 610) (hk : k < manyP row) : (joinL (psL row nu k) (partL row nu k)).2 = psL row nu (k + 1) ∧ joinD (joinL (psL row nu k) (partL row nu k)).1 = endD row nu k := by
  unfold psL endD
  rw [if_neg (by omega), join_part h hk]
  by_cases e : k + 1 = manyP row
  · rw [if_pos e, if_pos e, if_pos e]; exact ⟨rfl, rfl⟩
  · rw [if_neg e, if_neg e, if_neg e]; exact ⟨rfl, rfl⟩
theorem told_end {row : List Int} {nu : Int} (h : 1 ≤ manyP row) : toldL row nu (manyP row) = (List.replicate (manyP row - 1) [D.non]).flatten ++ [.tup [.int nu, rowD row]] := by
  obtain ⟨n, e⟩ : ∃ n, manyP row = n + 1 := ⟨manyP row - 1, by omega⟩
  rw [e, toldL_snoc, Nat.add_sub_cancel]
  have e1 : endD row nu n = .tup [.int nu, rowD row] := if_pos e.symm
  rw [e1]
  congr 1
  unfold toldL
  have e2 : ∀ k ≤ n, (List.range k).map (endD row nu) = (List.replicate k [D.non]).flatten := by
    intro k
    induction k with
    | zero => intro _; rfl
    | succ k ih =>
      intro hk
      rw [List.range_succ, List.map_append, ih (by omega), List.replicate_succ', List.flatten_append]
      have : endD row nu k = .non := if_neg (by omega)
      rw [List.map_singleton, this]; rfl
  exact e2 n (Nat.le_refl _)
def sum48 (L : Nat) (bs : Nat → List Int) : Nat := ((List.range L).map fun i => (bs i).length).sum
theorem sum48_lt {L l : Nat} {bs : Nat → List Int} {r : List Int} (hL : okL L) (hl : l < L) (h : r.length < (bs l).length) : sum48 L (updF bs l r) < sum48 L bs := by
  unfold sum48
  rcases hL with e | e | e <;> subst e <;> simp [List.range_succ]
  · rcases (show l = 0 ∨ l = 1 by omega) with e | e <;> subst e <;> simp [updF] <;> omega
  · rcases (show l = 0 ∨ l = 1 ∨ l = 2 by omega) with e | e | e <;> subst e <;> simp [updF] <;> omega
  · rcases (show l = 0 ∨ l = 1 ∨ l = 2 ∨ l = 3 by omega) with e | e | e | e <;> subst e <;> simp [updF] <;> omega
theorem i_neNil48 {M : Mh} {Q : QZ} {d : D} {fr : List Int} (h : RowAt M d fr) (q : Q (.bl (decide (fr ≠ []))) M) : dNe d (.lst []) M Q := by
  have e : (!eqD (.lst (fr.map D.int)) (.lst [])) = decide (fr ≠ []) := by rw [eqD_nil]; cases fr <;> rfl
  rcases h with rfl | ⟨p, rfl, hp⟩
  · exact i_ne (.ints _) (.lflat rfl) (by unfold rowD; rw [e]; exact q)
  · exact i_neR hp (.ints _) (.lflat rfl) (by rw [e]; exact q)
theorem RsL_rows {M : Mh} {ds : Nat → D} {bs : Nat → List Int} : ∀ {l : List Nat}, (∀ i ∈ l, RowAt M (ds i) (bs i)) → RsL M (l.map ds) (rowsD (l.map bs))
  | [], _ => .nil
  | i :: l, h => by
    refine .cons ?_ (RsL_rows fun j hj => h j (List.mem_cons_of_mem _ hj))
    rcases h i List.mem_cons_self with e | ⟨p, e, hp⟩
    · rw [e]; exact .refl _
    · rw [e]; exact .ref hp (.refl _ _)
theorem i_neNilL {M : Mh} {Q : QZ} {ds : Nat → D} {bs : Nat → List Int} {l : List Nat} (h : ∀ i ∈ l, RowAt M (ds i) (bs i)) (q : Q (.bl (decide (l ≠ []))) M) : dNe (.lst (l.map ds)) (.lst []) M Q := by
  refine i_neG (.lst (RsL_rows h)) (.refl _) (.mono (Pl_rows 0 _) (by decide)) (.lflat rfl) ?_
  have e : (!eqD (.lst (rowsD (l.map bs))) (.lst [])) = decide (l ≠ []) := by rw [eqD_nil]; cases l <;> rfl
  rw [e]; exact q
theorem i_slA {M : Mh} {Q : QZ} {d : D} {fr : List Int} {lo hi : Option Int} (h : RowAt M d fr) (q : Q (.lst (cutD (fr.map D.int) lo hi)) M) : dSl false d lo hi M Q := by
  rcases h with rfl | ⟨p, rfl, hp⟩
  · exact q
  · exact i_slR hp q
theorem ixN48 {n j : Nat} (h : j < n) : ixN n (j : Int) = some j := by
  unfold ixN
  rw [if_pos (by omega), if_pos (by omega), Int.toNat_natCast]
theorem zLoop_one {step : D → (Zl.Env → Mh → Prop) → Zl.Env → Mh → Prop} {nx : Zl.Env → Mh → Prop} {d : D} {r : Zl.Env} {M : Mh} (h : step d nx r M) : zLoop none step nx [d] r M := h
theorem LanT.init {M M' : Mh} {G : Tg} {d : Nat} {A : Addr} {ws : List Addr} {o : MO} {f : LF} (hA : M A = none) (h : LnAt M' A ws 0 f) (hw : ∀ w ∈ ws, mup M A o w = none) (hk : LnKeep (mup M A o) M' A ws) : LanT M' (nG G M d) d A ws 0 f ∧ Ch G d M M' := by
  refine ⟨⟨h, nG_own (.inl hA), fun w hw2 => nG_own (.inl ?_)⟩, fun y o' hy _ => ?_⟩
  · by_cases e : w = A
    · rw [e]; exact hA
    · have := hw w hw2
      rwa [mup_ne e] at this
  · have yA : y ≠ A := ne_of_m hy hA
    rw [hk y yA (fun z => by have := hw y z; rw [mup_ne yA, hy] at this; cases this), mup_ne yA]; exact hy
theorem JoT.init {M M' : Mh} {G : Tg} {d : Nat} {j w : Addr} {o : MO} {ps : List (List Int)} (hj : M j = none) (hw : mup M j o w = none) (h : JnAt M' j w ps) (hk : ∀ y, y ≠ j → y ≠ w → M' y = mup M j o y) : JoT M' (nG G M d) d j w ps ∧ Ch G d M M' := by
  have hw0 : M w = none := by
    by_cases e : w = j
    · rw [e]; exact hj
    · rwa [mup_ne e] at hw
  refine ⟨⟨h, nG_own (.inl hj), nG_own (.inl hw0)⟩, fun y o' hy _ => ?_⟩
  have yj : y ≠ j := ne_of_m hy hj
  rw [hk y yj (ne_of_m hy hw0), mup_ne yj]; exact hy

-- needs: st48 heap48 lane48 Lanes_come Lanes___init__ Lanes_held dealt lanes32 joinparts bytes_rep plainrefl Joiner___init__ Ear___init__ Sender___init__ _law_some_bits _law_gap
theorem law_holds : ∀ ns : List Int, ns.length ≤ 63 → z_law [.scr ns] (fun _ => none) (fun d _ => d = .bl true) fun _ _ _ => False := by
  intro ns hns
  show zFn _ zb_law _ _ _ _
  unfold zFn zb_law
  walk_at "z"
  refine ⟨(fun _ h => nomatch h), fun t ht => ?_⟩
  have hT : mup (fun x => none) t MO.town t = some .town := mup_same
  generalize mup (fun x => none) t MO.town = M at hT
  walk_at "y"
  refine l__law_draw hT (by decide) (by decide) fun d1 h1 h2 => ?_
  obtain ⟨L, hLe, hL, hL3⟩ : ∃ L : Nat, (2 : Int) + d1 = (L : Int) ∧ okL L ∧ L ≤ 3 := ⟨(2 + d1).toNat, by omega, by unfold okL; omega, by omega⟩
  have hL2 : 2 ≤ L := by rcases hL with e | e | e <;> omega
  walk_at "y"
  rw [hLe]
  refine l__law_draw hT (by decide) (by decide) fun nu hn0 hn1 => ?_
  walk_at "y"
  refine l__law_pick hT (by simp) (by exact Nat.le_of_ble_eq_true rfl) fun d hd => ?_
  obtain ⟨m0, rfl, hm0⟩ : ∃ m : Nat, d = .int m ∧ m ≤ 62 := by
    simp only [List.mem_cons, List.not_mem_nil, or_false] at hd
    rcases hd with e | e | e | e | e
    · exact ⟨0, e, by decide⟩
    · exact ⟨1, e, by decide⟩
    · exact ⟨5, e, by decide⟩
    · exact ⟨20, e, by decide⟩
    · exact ⟨62, e, by decide⟩
  clear hd
  walk_at "y"
  refine zLcL_ind (fun l acc M' => M' = M ∧ ∃ bs : List Int, acc = bs.map D.int ∧ byteL bs ∧ bs.length + l.length = 5) ?_ ?_ ⟨rfl, [], rfl, (fun _ h => nomatch h), rfl⟩
  rotate_left
  · rintro d l acc M' q2 ⟨rfl, bs, rfl, hb, hbl⟩ h1 h2
    walk_at "y"
    refine l__law_byte hT fun n hn => ?_
    refine h2 _ _ ⟨rfl, bs ++ [(n : Int)], by rw [List.map_append]; rfl, byteL_app hb (fun m hm => by rw [List.mem_singleton.mp hm]; omega), by rw [List.length_append]; rw [List.length_cons] at hbl; simp only [List.length_cons, List.length_nil]; omega⟩
  rintro acc M' ⟨rfl, bs, rfl, hb, hbl⟩
  simp only [List.length_nil, Nat.add_zero] at hbl
  walk_at "y"
  refine i_mulIs (by decide) (by rw [hbl]; decide) (by decide) ?_
  walk_at "y"
  rw [cutD_to, ← List.map_take]
  obtain ⟨row, hrow, hrb, hrl⟩ : ∃ row, (List.replicate (13 : Int).toNat bs).flatten.take m0 = row ∧ byteL row ∧ row.length ≤ 62 := ⟨_, rfl, byteL_take (byteL_rep hb) m0, by rw [List.length_take]; omega⟩
  rw [hrow]
  clear hrow hb hbl
  walk_at "y"
  refine l_parted hrb (by omega) hn0 (by omega) ?_
  obtain ⟨m1, m2, m3⟩ := manyP_le (show row.length ≤ 610 by omega)
  walk_at "y"
  rw [Int.toNat_natCast]
  -- senders
  refine zLcL_range (P := fun n acc M' => ∃ G a, acc = refsD n a ∧ At M' G 0 t .town ∧ ∀ i, i < n → At M' G (200 + i) (a i) (sndF (-1) 0)) ?_ ?_ ⟨fun _ => 0, fun _ => t, rfl, ⟨hT, rfl⟩, fun i hi => by omega⟩
  rotate_left
  · rintro n acc M' q hn ⟨G, a, rfl, hT', ha⟩ hq
    walk_at "y"
    intro p hp
    refine l_Sender___init__ mup_same ⟨rfl, ?_⟩
    rw [mup_mup]
    refine hq _ _ ⟨nG G M' (200 + n), updF a n p, refsD_snoc, hT'.keep (.mup (.inl hp)) (by omega), fun i hi => ?_⟩
    by_cases e : i = n
    · subst e; rw [updF_at]; exact .new hp
    · rw [updF_ne e]; exact (ha i (by omega)).keep (.mup (.inl hp)) (by omega)
  rintro acc M1 ⟨G, a, rfl, hT1, ha⟩
  clear hT
  walk_at "y"
  rw [Int.toNat_natCast]
  -- ears
  refine zLcL_range (P := fun n acc M' => ∃ (G : Tg) (x : Nat → Er1), acc = refsD n (fun i => (x i).e) ∧ At M' G 0 t .town ∧ (∀ i, i < L → At M' G (200 + i) (a i) (sndF (-1) 0)) ∧ (∀ i, i < n → EarT M' G (5 + i) (x i)) ∧ ∀ i, (x i).sr = RZ ∧ (x i).sk = none) ?_ ?_ ⟨G, fun _ => ⟨t, t, t, RZ, none, none, none⟩, rfl, hT1, ha, (fun i hi => by omega), fun _ => ⟨rfl, rfl⟩⟩
  rotate_left
  · rintro n acc M' q hn ⟨G, x, rfl, hT', ha, hx, hx0⟩ hq
    walk_at "y"
    intro p hp
    refine l_Ear___init__ mup_same fun M2 r k hE hk => ⟨rfl, ?_⟩
    obtain ⟨hE2, hc2⟩ := EarT.init (G := G) (d := 5 + n) hp hE hk
    refine hq _ _ ⟨nG G M' (5 + n), updF x n ⟨p, r, k, RZ, none, none, none⟩, ?_, hT'.keep hc2 (by omega), fun i hi => (ha i hi).keep hc2 (by omega), fun i hi => ?_, fun i => ?_⟩
    · rw [refsD_snoc]
      congr 1
      funext i
      unfold updF
      split <;> rfl
    · by_cases e : i = n
      · subst e; rw [updF_at]; exact hE2
      · rw [updF_ne e]; exact (hx i (by omega)).keep hc2 (by omega)
    · unfold updF
      split
      · exact ⟨rfl, rfl⟩
      · exact hx0 i
  rintro acc M2 ⟨G, x, rfl, hT2, ha, hx, hx0⟩
  clear hT1
  walk_at "y"
  -- each hears some bits
  refine zLoop_idx (P := fun n r M' => (∃ (G : Tg) (y : Nat → Er1) (Js : Nat → List Int), E48 M' G t L a (fun i => (x i).e) y Js (fun _ => -1) ∧ ∀ i, n ≤ i → Js i = []) ∧ ∃ x9, r = [some (.scr ns), some (.ref t), some (.int (L : Nat)), some (.int nu), some (.int (m0 : Nat)), some (rowD row), some (.lst (rowsD (partsL row nu))), some (.lst (refsD L a)), some (.lst (refsD L fun i => (x i).e)), x9, none, none, none, none, none, none, none, none, none, none, none, none, none, none, none]) ?_ ?_ ⟨⟨G, x, fun _ => [], ⟨hT2, fun i hi => ⟨0, ha i hi⟩, hx, fun _ _ => rfl, fun i _ => ⟨Nat.zero_le _, (hx0 i).1, (hx0 i).2⟩⟩, fun _ _ => rfl⟩, none, rfl⟩
  rotate_left
  · rintro i d r M' kk hd ⟨⟨G, y, Js, hE, hJs⟩, x9, rfl⟩ hk
    have hi : i < L := by
      have := (List.getElem?_eq_some_iff.mp hd).1
      rwa [refsD_len] at this
    rw [refsD_get hi] at hd
    cases hd
    have hme : M' (x i).e = some (.ins "Ear" [("reader", .ref (y i).r), ("taker", .ref (y i).k)]) := by rw [← hE.ee i hi]; exact (hE.ea i hi).er.me
    walk_at "y"
    refine l__law_some_bits (most := 12) hE.ht.m (by decide) fun J hJ hJl => ?_
    walk_at "y"
    have ee := hE.ee i hi
    rw [← ee]
    refine l_hearT (hE.ea i hi) hJ (by omega) fun M3 f3 g3 hE3 hc3 => ?_
    rw [ee]
    have hsr := (hE.js i hi).2
    rw [hJs i (Nat.le_refl _)] at hsr
    refine hk _ _ ⟨⟨nG G M' (5 + i), updF y i ((y i).hear J f3 g3), updF Js i J, ⟨hE.ht.keep hc3 (by omega), fun l hl => ?_, fun l hl => ?_, fun l hl => ?_, fun l hl => ?_⟩, fun l hl => ?_⟩, _, rfl⟩
    · obtain ⟨c, hc⟩ := hE.hs l hl
      exact ⟨c, hc.keep hc3 (by omega)⟩
    · by_cases e : l = i
      · subst e; rw [updF_at]; exact hE3
      · rw [updF_ne e]; exact (hE.ea l hl).keep hc3 (by omega)
    · by_cases e : l = i
      · subst e; rw [updF_at]; exact ee
      · rw [updF_ne e]; exact hE.ee l hl
    · by_cases e : l = i
      · subst e
        rw [updF_at, updF_at]
        refine ⟨hJl, ?_, ?_⟩
        · show (runR (y l).sr J).2 = _
          rw [hsr.1]; rfl
        · show (runT (y l).sk (runR (y l).sr J).1).2 = _
          rw [hsr.1, hsr.2]; rfl
      · rw [updF_ne e, updF_ne e]; exact hE.js l hl
    · rw [updF_ne (by omega)]; exact hJs l (by omega)
  rintro r M3 ⟨⟨G3, y, Js, hE, _⟩, x9, rfl⟩
  clear hT2 ha hx hx0 G
  generalize (fun i => (x i).e) = e at hE ⊢
  walk_at "y"
  rw [Int.toNat_natCast]
  -- the bits of each lane
  refine zLcL_range (P := fun n acc M' => ∃ (G : Tg) (q : Nat → Addr), acc = refsD n q ∧ E48 M' G t L a e y Js (fun _ => -1) ∧ ∀ i, i < n → At M' G (100 + i) (q i) (.lst [])) ?_ ?_ ⟨G3, fun _ => t, rfl, hE, fun i hi => by omega⟩
  rotate_left
  · rintro n acc M' q hn ⟨G, qa, rfl, hE, hqa⟩ hq
    walk_at "y"
    refine i_newT fun p hp => ?_
    walk_at "y"
    have kp : Ch G (100 + n) M' (mup M' p (.lst [])) := .mup (.inl hp)
    refine hq _ _ ⟨nG G M' (100 + n), updF qa n p, refsD_snoc, hE.keep kp (by omega) (fun i hi => ⟨by omega, by omega⟩), fun i hi => ?_⟩
    by_cases e : i = n
    · subst e; rw [updF_at]; exact .new hp
    · rw [updF_ne e]; exact (hqa i (by omega)).keep kp (by omega)
  rintro acc M4 ⟨G4, q, rfl, hE4, hq⟩
  clear hE
  refine i_newT fun b hb => ?_
  have kb : Ch G4 1 M4 (mup M4 b (.lst (refsD L q))) := .mup (.inl hb)
  have B0 : B48 (mup M4 b (.lst (refsD L q))) (nG G4 M4 1) t b L a e q y Js (fun _ => []) := ⟨hE4.keep kb (by omega) (fun i hi => ⟨by omega, by omega⟩), .new hb, fun i hi => (hq i hi).keep kb (by omega)⟩
  generalize mup M4 b (.lst (refsD L q)) = M5 at B0 ⊢
  generalize nG G4 M4 1 = G5 at B0
  clear hE4 hq hb kb
  walk_at "y"
  have hlen : (rowsD (partsL row nu)).length = manyP row := by unfold rowsD; rw [List.length_map, partsL_len]
  rw [hlen]
  refine i_rg (by omega) (by omega) ?_
  rw [Int.toNat_natCast]
  have hrows : ∀ k, byteL ((partsL row nu).getD k []) ∧ ((partsL row nu).getD k []).length ≤ 64 := fun k => by
    rw [List.getD_eq_getElem?_getD]
    by_cases hk : k < manyP row
    · rw [partsL_get row nu hk]
      refine ⟨fun x hx => ?_, ?_⟩
      · rcases List.mem_cons.mp hx with e | hx
        · subst e; omega
        rcases List.mem_cons.mp hx with e | hx
        · subst e; omega
        rcases List.mem_cons.mp hx with e | hx
        · subst e; omega
        exact hrb x (List.mem_of_mem_drop (List.mem_of_mem_take hx))
      · show ((row.drop (61 * k)).take 61).length + 3 ≤ 64
        rw [List.length_take]; omega
    · rw [List.getElem?_eq_none (by rw [partsL_len]; omega)]
      exact ⟨(fun _ h => nomatch h), Nat.zero_le _⟩
  have hfrK : ∀ k i, k < 256 → byteL (frK (partsL row nu) L k i) ∧ (frK (partsL row nu) L k i).length ≤ 64 := fun k i hk => by
    unfold frK
    refine ⟨fun x hx => ?_, ?_⟩
    · rcases List.mem_cons.mp hx with e | hx
      · subst e; omega
      · exact laneL_byte hL (hrows k).1 x hx
    · rw [List.length_cons, laneL_len]
      have := (hrows k).2
      rcases hL with e | e | e <;> subst e <;> omega
  -- the lanes' bits are made
  refine zLoop_range (P := fun k r M' => (∃ (G : Tg) (fs : Nat → List (List Int × List Nat)), B48 M' G t b L a e q y Js fs ∧ ∀ i, i < L → okF (fs i) ∧ (fs i).map (·.1) = (List.range k).map fun k => frK (partsL row nu) L k i) ∧ ∃ x11 x12 x13 x14, r = [some (.scr ns), some (.ref t), some (.int (L : Nat)), some (.int nu), some (.int (m0 : Nat)), some (rowD row), some (.lst (rowsD (partsL row nu))), some (.lst (refsD L a)), some (.lst (refsD L e)), x9, some (.ref b), x11, x12, x13, x14, none, none, none, none, none, none, none, none, none, none]) ?_ ?_ ⟨⟨G5, fun _ => [], B0, fun i _ => ⟨(fun _ h => nomatch h), rfl⟩⟩, none, none, none, none, rfl⟩
  rotate_left
  · rintro k r M' kk hk ⟨⟨G, fs, hB, hfs⟩, x11, x12, x13, x14, rfl⟩ hkk
    rw [Int.zero_add]
    walk_at "y"
    have hpart : (rowsD (partsL row nu))[k]? = some (rowD ((partsL row nu).getD k [])) := by
      unfold rowsD
      rw [List.getElem?_map, List.getD_eq_getElem?_getD, partsL_get row nu hk]; rfl
    refine i_ixL (atI_nat hpart) ?_
    walk_at "y"
    refine l_dealtG (fun _ => false) hL (hrows k).1 (by have := (hrows k).2; omega) (by omega) (by omega) fun M6 ds k6 hR hm _ => ?_
    have hds : ∀ i, i < L → ds[i]? = some (rowD (frK (partsL row nu) L k i)) := fun i hi => by
      obtain ⟨d, hd, _⟩ := hR.get (dealL_get (row := (partsL row nu).getD k []) (t := (k : Int)) hi)
      rw [hd, (hm i hi d hd).1 rfl]; rfl
    have hB6 := hB.keep (c := 300) (M' := M6) (fun y o hy _ => k6 y o hy) (by omega) (fun i hi => by omega)
    generalize nG G M' 300 = G6 at hB6
    clear hm hR k6 hB
    walk_at "y"
    rw [Int.toNat_natCast]
    refine zLoop_range (P := fun i r M' => (∃ (G : Tg) (fs : Nat → List (List Int × List Nat)), B48 M' G t b L a e q y Js fs ∧ ∀ j, j < L → okF (fs j) ∧ (fs j).map (·.1) = (List.range (if j < i then k + 1 else k)).map fun k => frK (partsL row nu) L k j) ∧ ∃ x13 x14, r = [some (.scr ns), some (.ref t), some (.int (L : Nat)), some (.int nu), some (.int (m0 : Nat)), some (rowD row), some (.lst (rowsD (partsL row nu))), some (.lst (refsD L a)), some (.lst (refsD L e)), x9, some (.ref b), some (.int (k : Nat)), some (.lst ds), x13, x14, none, none, none, none, none, none, none, none, none, none]) ?_ ?_ ⟨⟨G6, fs, hB6, fun j hj => by rw [if_neg (Nat.not_lt_zero j)]; exact hfs j hj⟩, _, _, rfl⟩
    · rintro r M7 ⟨⟨G, fs, hB, hfs⟩, x13, x14, rfl⟩
      exact hkk _ _ ⟨⟨G, fs, hB, fun i hi => by have := hfs i hi; rw [if_pos hi] at this; exact this⟩, _, _, _, _, rfl⟩
    rintro i r M7 k7 hi ⟨⟨G, fs, hB, hfs⟩, x13, x14, rfl⟩ hk7
    rw [Int.zero_add]
    obtain ⟨c, hA⟩ := hB.E.hs i hi
    obtain ⟨okf, hmf⟩ := hfs i hi
    rw [if_neg (Nat.lt_irrefl i)] at hmf
    have hfl : (fs i).length ≤ 10 := by
      have := congrArg List.length hmf
      rw [List.length_map, List.length_map, List.length_range] at this; omega
    obtain ⟨fb, fl⟩ := hfrK k i (by omega)
    have hA' : M7 (a i) = some (.ins "Sender" [("poise", .int (sentP (laneI (fs i)) (-1))), ("count", .int c)]) := hA.m
    walk_at "y"
    refine i_ixL (d := .ref (a i)) (atI_nat (refsD_get hi)) ?_
    walk_at "y"
    refine i_ixL (atI_nat (hds i hi)) ?_
    generalize hF : frK (partsL row nu) L k i = fr at fb fl
    walk_at "y"
    have hpm := sentP_pm (laneI (fs i)) (p := -1) (.inr rfl)
    refine l_say_rowT hA hpm fb fl fun u M8 c8 hua h8u hA8 k8 => ?_
    have hA8' : M8 (a i) = some (.ins "Sender" [("poise", .int (sentP (frameI fr) (sentP (laneI (fs i)) (-1)))), ("count", .int c8)]) := hA8.m
    have hb8 := hB.hb.keep k8 (by omega)
    have hq8 := (hB.hq i hi).keep k8 (by omega)
    have ht8 := hB.E.ht.keep k8 (by omega)
    walk_at "y"
    refine i_ixR hb8.m (atI_nat (refsD_get hi)) ?_
    refine i_ty (tyD_ref hq8.m) ?_
    walk_at "y"
    refine i_ixL (d := .ref (a i)) (atI_nat (refsD_get hi)) ?_
    walk_at "y"
    refine l__law_gap ht8.m fun g hg => ?_
    have hg260 : ∀ n ∈ g, n < 260 := fun n hn => by rcases hg.1 n hn with e | e <;> omega
    walk_at "y"
    refine l_sayT hA8 (sentP_pm _ hpm) hg260 (by have := hg.2; omega) fun v M9 c9 h9v hA9 k9 hk9 => ?_
    have h9u := hk9 u _ h8u hua
    have hq9 := hq8.keep k9 (by omega)
    have hll := laneI_len okf
    refine i_addRR h9u h9v (by rw [List.length_map, List.length_map, sentB_len, sentB_len, frameI_len, sizeLine_eq]; have := hg.2; omega) ?_
    rw [← List.map_append, ← sentB_app]
    walk_at "y"
    refine i_ext hq9.m (by rw [List.length_map, List.length_map, sentB_len, sentB_len, List.length_append, frameI_len, sizeLine_eq]; have := hg.2; omega) ?_
    walk_at "y"
    have hB9 := hB.more hi (by omega) (f := fr) (g := g) (d := 0) k8 k9 hA9
    refine hk7 _ _ ⟨⟨_, _, hB9, fun j hj => ?_⟩, _, _, rfl⟩
    by_cases ej : j = i
    · subst ej
      rw [updF_at, if_pos (Nat.lt_succ_self j), List.range_succ, List.map_append, List.map_append, hmf, List.map_singleton, List.map_singleton, hF]
      refine ⟨fun z hz => ?_, rfl⟩
      rcases List.mem_append.mp hz with hz | hz
      · exact okf z hz
      · rw [List.mem_singleton.mp hz]; exact ⟨fb, fl, hg⟩
    · rw [updF_ne ej]
      have := hfs j hj
      rw [show (if j < i + 1 then k + 1 else k) = if j < i then k + 1 else k by split <;> split <;> omega]
      exact this
  rintro r M6 ⟨⟨G6, fs, hB, hfs⟩, x11, x12, x13, x14, rfl⟩
  clear B0 G5 M5
  walk_at "y"
  intro A hA
  refine l_Lanes___init__ (L := L) mup_same hL fun M7 ws hws hLn hwn hk7 => ⟨rfl, ?_⟩
  obtain ⟨hL7, k7⟩ := LanT.init (G := G6) (d := 3) hA hLn hwn hk7
  have hB7 := hB.keep k7 (by omega) (fun i hi => by omega)
  generalize nG G6 M6 3 = G7 at hL7 hB7
  clear hB hLn hwn hk7 k7 hA
  walk_at "y"
  intro j hj
  refine l_Joiner___init__ mup_same fun M8 w hw hJ hk8 => ⟨rfl, ?_⟩
  obtain ⟨hJ8, k8⟩ := JoT.init (G := G7) (d := 4) hj hw hJ hk8
  have hB8 := hB7.keep k8 (by omega) (fun i hi => by omega)
  have hL8 := hL7.keep k8 (by omega)
  generalize nG G7 M7 4 = G8 at hJ8 hB8 hL8
  clear hB7 hL7 hw hJ hk8 k8 hj M7 M6 G6 G7
  walk_at "y"
  refine i_newT fun o ho => ?_
  have ko : Ch G8 2 M8 (mup M8 o (.lst [])) := .mup (.inl ho)
  have hB9 := hB8.keep ko (by omega) (fun i hi => by omega)
  have hL9 := hL8.keep ko (by omega)
  have hJ9 := hJ8.keep ko (by omega)
  have ho9 : At (mup M8 o (.lst [])) (nG G8 M8 2) 2 o (.lst []) := .new ho
  generalize mup M8 o (.lst []) = M9 at hB9 hL9 hJ9 ho9 ⊢
  generalize nG G8 M8 2 = G9 at hB9 hL9 hJ9 ho9
  clear hB8 hL8 hJ8 ho ko
  have W0 : W48 M9 G9 t b A j w o ws L e y (fun i => .ref (q i)) (fun i => sentB (laneI (fs i)) (-1)) (psL row nu 0) (toldL row nu 0) 0 (quF (partsL row nu) L 0 fun _ => 0) :=
    ⟨hB9.E.ht, hB9.hb, ho9, hL9.congr (fun i _ => rfl), by rw [show psL row nu 0 = [] by unfold psL; rw [if_neg (by omega)]; rfl]; exact hJ9, hB9.E.ea, hB9.E.ee, fun i hi => ⟨.inr ⟨_, rfl, (hB9.hq i hi).m⟩, fun p z => by cases z; exact (hB9.hq i hi).g⟩⟩
  have hjs := hB9.E.js
  clear hB9 hL9 hJ9 ho9
  walk_at "zs"
  refine zWhile_ind (P := fun n r M' => ∃ (G : Tg) (w : Addr) (x : Nat → Er1) (ds : Nat → D) (bs : Nat → List Int) (ca : Nat → Nat) (mn : Nat), n = sum48 L bs ∧ W48 M' G t b A j w o ws L e x ds bs (psL row nu mn) (toldL row nu mn) mn (quF (partsL row nu) L mn ca) ∧ (∀ i, i < L → ca i ≤ manyP row) ∧ isMin L mn ca ∧ (∀ i, i < L → bitL (bs i) ∧ (bs i).length ≤ 10000) ∧ (∀ i, i < L → yetL (x i).sr (x i).sk (bs i) = ((List.range (manyP row)).drop (ca i)).map fun k => frK (partsL row nu) L k i) ∧ ∃ x4 x13 x18 x19 x20 x21 x22, r = [some (.scr ns), some (.ref t), some (.int (L : Nat)), some (.int nu), x4, some (rowD row), some (.lst (rowsD (partsL row nu))), some (.lst (refsD L a)), some (.lst (refsD L e)), x9, some (.ref b), x11, x12, x13, x14, some (.ref A), some (.ref j), some (.ref o), x18, x19, x20, x21, x22, none, none]) ?_ (sum48 L fun i => sentB (laneI (fs i)) (-1)) ⟨G9, w, y, _, _, fun _ => 0, 0, rfl, W0, (fun _ _ => Nat.zero_le _), ⟨fun _ _ => Nat.zero_le _, 0, by omega, rfl⟩, fun i hi => ⟨sentB_bits _ _, ?_⟩, fun i hi => ?_, _, _, _, _, _, _, _, rfl⟩
  rotate_left
  · have := laneI_len (hfs i hi).1
    have h2 := congrArg List.length (hfs i hi).2
    rw [List.length_map, List.length_map, List.length_range] at h2
    rw [sentB_len]; omega
  · obtain ⟨h1, h2, h3⟩ := hjs i hi
    rw [h2, h3, lane_rest h1 (hfs i hi).1 (.inr rfl), List.drop_zero]
    exact (hfs i hi).2
  clear W0 hjs hfs
  rintro n r M kk ⟨G, w, x, ds, bs, ca, mn, rfl, W, hle, hmi, hbs, hyet, x4, x13, x18, x19, x20, x21, x22, rfl⟩ hkk
  have hget : ∀ {ds : Nat → D} {i : Nat}, i < L → ((List.range L).map ds)[i]? = some (ds i) := fun {ds i} hi => by rw [List.getElem?_map, List.getElem?_range hi]; rfl
  have hbM := W.hb.m
  walk_at "y"
  refine zLcL_filterC (p := fun i => decide (bs i ≠ [])) (g := ds) hbM (fun i hi Q h1 h2 => ?_) ?_
  · have hi := List.mem_range.mp hi
    walk_at "y"
    refine i_neNil48 (W.hd i hi).ra ?_
    walk_at "y"
    refine i_bd (fun e => ?_) fun e => ?_
    · walk_at "y"
      exact h1 (decide_eq_true e)
    · walk_at "y"
      exact h2 (decide_eq_false e)
  rw [List.nil_append]
  walk_at "y"
  refine i_neNilL (bs := bs) (fun i hi => (W.hd i (List.mem_range.mp (List.mem_filter.mp hi).1)).ra) ?_
  walk_at "y"
  refine i_bd (fun hne => ?_) fun hne => ?_
  · walk_at "y"
    rw [Int.toNat_natCast, rangeD_mapI]
    refine zLcL_filterm (p := fun i : Nat => decide (bs i ≠ [])) (g := fun i : Nat => .int (i : Nat)) (fun i hi Q h1 h2 => ?_) ?_
    · have hi := List.mem_range.mp hi
      walk_at "y"
      refine i_ixR hbM (atI_nat (hget hi)) ?_
      walk_at "y"
      refine i_neNil48 (W.hd i hi).ra ?_
      walk_at "y"
      refine i_bd (fun e => ?_) fun e => ?_
      · walk_at "y"
        exact h1 (decide_eq_true e)
      · walk_at "y"
        exact h2 (decide_eq_false e)
    rw [List.nil_append]
    walk_at "y"
    refine l__law_pick W.ht.m (fun z => hne (List.map_eq_nil_iff.mp z)) (by rw [List.length_map]; have := List.length_filter_le (fun i : Nat => decide (bs i ≠ [])) (List.range L); rw [List.length_range] at this; omega) fun d hd => ?_
    obtain ⟨l, hlf, rfl⟩ := List.mem_map.mp hd
    have hl := List.mem_range.mp (List.mem_filter.mp hlf).1
    have hlb : bs l ≠ [] := of_decide_eq_true (List.mem_filter.mp hlf).2
    clear hd hlf hne
    walk_at "y"
    refine l__law_pick W.ht.m (by simp) (by exact Nat.le_of_ble_eq_true rfl) fun d hd => ?_
    obtain ⟨mm, rfl, hm1⟩ : ∃ m : Nat, d = .int m ∧ 1 ≤ m := by
      simp only [List.mem_cons, List.not_mem_nil, or_false] at hd
      rcases hd with e | e | e | e
      · exact ⟨30, e, by decide⟩
      · exact ⟨45, e, by decide⟩
      · exact ⟨100, e, by decide⟩
      · exact ⟨300, e, by decide⟩
    clear hd
    have ee := W.ee l hl
    have hme : M (e l) = some (.ins "Ear" [("reader", .ref (x l).r), ("taker", .ref (x l).k)]) := by rw [← ee]; exact (W.ea l hl).er.me
    walk_at "y"
    refine i_ixL (d := .ref (e l)) (atI_nat (refsD_get hl)) ?_
    walk_at "y"
    refine i_ixR hbM (atI_nat (hget hl)) ?_
    walk_at "y"
    refine i_slA (W.hd l hl).ra ?_
    rw [cutD_to, ← List.map_take]
    walk_at "y"
    rw [← ee]
    refine l_hearT (W.ea l hl) (bitL_take (hbs l hl).1 mm) (by rw [List.length_take]; have := (hbs l hl).2; omega) fun M1 f1 g1 hE1 hc1 => ?_
    have W1 := W.hear (by omega) hl hE1 rfl hc1
    have hy1 : (runT (x l).sk (runR (x l).sr ((bs l).take mm)).1).1.filterMap id ++ yetL ((x l).hear ((bs l).take mm) f1 g1).sr ((x l).hear ((bs l).take mm) f1 g1).sk ((bs l).drop mm) = ((List.range (manyP row)).drop (ca l)).map fun k => frK (partsL row nu) L k l := by
      rw [← hyet l hl]
      conv => rhs; rw [← List.take_append_drop mm (bs l)]
      rw [yet_app]; rfl
    generalize (runT (x l).sk (runR (x l).sr ((bs l).take mm)).1).1 = evs at hy1 ⊢
    generalize (x l).hear ((bs l).take mm) f1 g1 = xl at hy1 W1
    generalize nG G M (5 + l) = G1 at W1
    walk_at "y"
    refine zLoop_map (f := evD) (fun l' r M' => ∃ (G : Tg) (w : Addr) (ca : Nat → Nat) (mn : Nat), W48 M' G t b A j w o ws L e (updF x l xl) ds bs (psL row nu mn) (toldL row nu mn) mn (quF (partsL row nu) L mn ca) ∧ (∀ i, i < L → ca i ≤ manyP row) ∧ isMin L mn ca ∧ (∀ i, i < L → (if i = l then l'.filterMap id else []) ++ yetL (updF x l xl i).sr (updF x l xl i).sk (updF bs l ((bs l).drop mm) i) = ((List.range (manyP row)).drop (ca i)).map fun k => frK (partsL row nu) L k i) ∧ ∃ x18 x19 x20 x21 x22, r = [some (.scr ns), some (.ref t), some (.int (L : Nat)), some (.int nu), some (.int (mm : Nat)), some (rowD row), some (.lst (rowsD (partsL row nu))), some (.lst (refsD L a)), some (.lst (refsD L e)), x9, some (.ref b), x11, x12, some (.int (l : Nat)), x14, some (.ref A), some (.ref j), some (.ref o), x18, x19, x20, x21, x22, none, none]) ?_ ?_ ⟨G1, w, ca, mn, W1, hle, hmi, fun i hi => ?_, _, _, _, _, _, rfl⟩
    rotate_left
    rotate_left
    · by_cases ei : i = l
      · subst ei
        rw [if_pos rfl, updF_at, updF_at]; exact hy1
      · rw [if_neg ei, updF_ne ei, updF_ne ei, List.nil_append]; exact hyet i hi
    · rintro r M2 ⟨G2, w2, ca2, mn2, W2, hle2, hmi2, hy2, x18, x19, x20, x21, x22, rfl⟩
      have hbM2 := W2.hb.m
      walk_at "y"
      refine i_ixR hbM2 (atI_nat (hget hl)) ?_
      walk_at "y"
      refine i_slA (W2.hd l hl).ra ?_
      rw [cutD_from, ← List.map_drop]
      walk_at "y"
      refine i_set (j := l) hbM2 (ixN48 (by rw [List.length_map, List.length_range]; exact hl)) ?_
      have W3 := W2.set (l := l) (r := (bs l).drop mm)
      refine hkk _ _ _ (sum48_lt hL hl (by rw [List.length_drop]; have := List.length_pos_iff.mpr hlb; omega)) ⟨_, w2, _, _, _, ca2, mn2, rfl, W3, hle2, hmi2, fun i hi => ?_, fun i hi => ?_, _, _, _, _, _, _, _, rfl⟩
      · by_cases ei : i = l
        · subst ei
          rw [updF_at]
          exact ⟨bitL_drop (hbs i hi).1 mm, by rw [List.length_drop]; have := (hbs i hi).2; omega⟩
        · rw [updF_ne ei]; exact hbs i hi
      · have := hy2 i hi
        rw [show (if i = l then List.filterMap id ([] : List (Option (List Int))) else []) = [] by split <;> rfl, List.nil_append] at this
        exact this
    rintro ev l' r M2 k2 ⟨G2, w2, ca2, mn2, W2, hle2, hmi2, hy2, x18, x19, x20, x21, x22, rfl⟩ hk2
    cases ev with
    | none =>
      refine i_ck0 ?_
      rw [show evD none = .tup [.str "spoilt", .lst []] from rfl]
      walk_at "y"
      exact hk2 _ _ ⟨G2, w2, ca2, mn2, W2, hle2, hmi2, fun i hi => hy2 i hi, _, _, _, _, _, rfl⟩
    | some fr =>
      have h0 := hy2 l hl
      rw [if_pos rfl, updF_at, updF_at] at h0
      obtain ⟨hcm, hfr, hrest⟩ := drop_cons48 (show fr :: (l'.filterMap id ++ yetL xl.sr xl.sk ((bs l).drop mm)) = _ from h0)
      clear h0
      have hmA := W2.ln.ln.me
      obtain ⟨fb, fl⟩ := hfrK (ca2 l) l (by omega)
      rw [← hfr] at fb fl
      refine i_ck0 ?_
      rw [show evD (some fr) = .tup [.str "frame", rowD fr] from rfl]
      walk_at "y"
      have hmn2 : mn2 ≤ manyP row := by
        obtain ⟨i, hi, e⟩ := hmi2.2
        have := hle2 i hi; omega
      refine l_comeT W2.ln (by omega) (.inl rfl) fb fl (by rw [hfr]; unfold frK; simp) (fun i hi => ?_) fun M5 es5 t5 f5 hr5 hl5 hk5 => ?_
      · unfold quF
        rw [List.length_map, List.length_range']
        have := hle2 i (by omega); omega
      rw [hws, hfr] at hr5
      have hg : ∀ i, dropF (mn2 : Int) (setF (quF (partsL row nu) L mn2 ca2) l (quF (partsL row nu) L mn2 ca2 l ++ [frK (partsL row nu) L (ca2 l) l])) i = quF (partsL row nu) L mn2 (incF ca2 l) i := fun i => by
        show dropL _ (setF _ _ _ i) = _
        rw [qu_inc (hmi2.1 l hl)]
        exact qu_drop (Nat.le_refl _) (by omega)
      obtain ⟨mn', hmi', hes', ht5, hf5⟩ : ∃ mn', isMin L mn' (incF ca2 l) ∧ ((mn' = mn2 ∧ es5 = []) ∨ (mn' = mn2 + 1 ∧ es5 = [rowEv (mn2 : Int) ((partsL row nu).getD mn2 [])])) ∧ t5 = (mn' : Int) ∧ ∀ i, i < L → f5 i = quF (partsL row nu) L mn' (incF ca2 l) i := by
        rcases come32 hL (fun k => ⟨(hrows k).1, by have := (hrows k).2; omega⟩) (by omega) hmi2 hl hg hr5 with ⟨h1, h2, h3, h4⟩ | ⟨h1, h2, h3, h4⟩
        · exact ⟨mn2, h1, .inl ⟨rfl, h2⟩, h3, h4⟩
        · exact ⟨mn2 + 1, h1, .inr ⟨rfl, h2⟩, h3, h4⟩
      subst ht5
      have W5 := W2.come hk5 (hl5.congr fun i hi => hf5 i (by omega))
      have hle' : ∀ i, i < L → incF ca2 l i ≤ manyP row := fun i hi => by
        unfold incF
        split
        · omega
        · exact hle2 i hi
      have hy' : ∀ i, i < L → (if i = l then l'.filterMap id else []) ++ yetL (updF x l xl i).sr (updF x l xl i).sk (updF bs l ((bs l).drop mm) i) = ((List.range (manyP row)).drop (incF ca2 l i)).map fun k => frK (partsL row nu) L k i := fun i hi => by
        unfold incF
        by_cases ei : i = l
        · subst ei
          rw [if_pos rfl, if_pos rfl, updF_at, updF_at]; exact hrest
        · have := hy2 i hi
          rw [if_neg ei] at this
          rw [if_neg ei, if_neg ei]; exact this
      have hmn' : mn' ≤ manyP row := by
        obtain ⟨i, hi, e⟩ := hmi'.2
        have := hle' i hi; omega
      generalize nG G2 M2 3 = G5 at W5
      clear hl5 hf5 hr5 hg hk5 W2 hy2 hle2 hmi2 hmA
      rcases hes' with ⟨rfl, rfl⟩ | ⟨rfl, rfl⟩
      · walk_at "y"
        exact hk2 _ _ ⟨G5, w2, incF ca2 l, mn', W5, hle', hmi', hy', _, _, _, _, _, rfl⟩
      · have hmj := W5.jn.jn.me
        have hmo := W5.ho.m
        walk_at "y"
        refine zLoop_one ?_
        rw [show rowEv (mn2 : Int) ((partsL row nu).getD mn2 []) = .tup [.str "row", .int (mn2 : Nat), rowD ((partsL row nu).getD mn2 [])] from rfl]
        walk_at "y"
        refine l_takeT W5.jn (hrows mn2).1 (hrows mn2).2 fun M6 w6 hJ6 hk6 => ?_
        have hpe : (partsL row nu).getD mn2 [] = partL row nu mn2 := by rw [List.getD_eq_getElem?_getD, partsL_get row nu (by omega)]; rfl
        obtain ⟨j1, j2⟩ := join48 (row := row) (nu := nu) (k := mn2) (by omega) (by omega)
        rw [hpe, j1] at hJ6
        rw [hpe, j2]
        have W6 := W5.take hk6 hJ6
        walk_at "y"
        refine i_app W6.ho.m (by unfold toldL; rw [List.length_map, List.length_range, sizeLine_eq]; omega) ?_
        rw [← toldL_snoc]
        exact hk2 _ _ ⟨_, w6, incF ca2 l, mn2 + 1, W6.app, hle', hmi', hy', _, _, _, _, _, rfl⟩
  · have hemp : ∀ i, i < L → bs i = [] := fun i hi => by
      have h1 := List.filter_eq_nil_iff.mp (Decidable.not_not.mp hne) i (List.mem_range.mpr hi)
      by_cases e : bs i = []
      · exact e
      · exact absurd (decide_eq_true e) h1
    have hca : ∀ i, i < L → ca i = manyP row := fun i hi => by
      have h1 := hyet i hi
      rw [hemp i hi] at h1
      have h2 := congrArg List.length h1
      rw [List.length_map, List.length_drop, List.length_range] at h2
      have h3 : 0 = manyP row - ca i := h2
      have := hle i hi
      omega
    obtain rfl : mn = manyP row := by
      obtain ⟨i, hi, e⟩ := hmi.2
      rw [← e, hca i hi]
    have hmA := W.ln.ln.me
    have hmo := W.ho.m
    walk_at "y"
    rw [hlen]
    refine i_mulL (by omega) (by omega) (by rw [sizeLine_eq]; show 1 * _ ≤ _; omega) ?_
    rw [show ((manyP row : Int) - 1).toNat = manyP row - 1 by omega]
    walk_at "y"
    refine i_addL (by rw [sizeLine_eq, List.length_flatten, List.map_replicate, List.sum_replicate_nat]; simp only [List.length_cons, List.length_nil]; omega) ?_
    rw [← told_end m1]
    walk_at "y"
    have hPl : Pl 3 (.lst (toldL row nu (manyP row))) := .lst fun z hz => by
      obtain ⟨k, _, rfl⟩ := List.mem_map.mp hz
      unfold endD
      split
      · exact .two (.int 1 _) (Pl_row 0 _)
      · exact .non _
    refine i_eqG (.at hmo) (.refl _) (hPl.mono (by decide)) (hPl.mono (by decide)) ?_
    rw [eqD_self hPl.p]
    walk_at "y"
    refine l_Lanes_held W.ln.ln ?_
    walk_at "y"
    refine i_mulI1 (by omega) (by omega) ?_
    walk_at "y"
    rw [hws, show ((List.range L).map fun i => D.int ((quF (partsL row nu) L (manyP row) ca i).length : Nat)) = (List.replicate ((L : Nat) : Int).toNat (0 : Int)).map D.int by
      rw [Int.toNat_natCast, List.map_replicate, List.eq_replicate_iff]
      refine ⟨by rw [List.length_map, List.length_range], fun z hz => ?_⟩
      obtain ⟨i, hi, rfl⟩ := List.mem_map.mp hz
      unfold quF
      rw [List.length_map, List.length_range', hca i (List.mem_range.mp hi), Nat.sub_self]; rfl]
    refine i_eqIs rfl ?_
    walk_at "y"
    first | exact i_rtG rfl | rfl

theorem repL_strs {K : PySem.W.Frag} {mg : Str → Option Value} {F : Fz} : ∀ (ns : List Str), ns.all (fun x => PyData.strOk x && decide (x.length ≤ sizeLine)) = true → RepL K mg F (ns.map V.str) (ns.map D.str)
  | [], _ => .nil
  | x :: r, h => by
    rw [List.all_cons, Bool.and_eq_true, Bool.and_eq_true] at h
    exact .cons (.str h.1.1 (of_decide_eq_true h.1.2)) (repL_strs r h.2)
def top (i : Nat) : Stmt := PySem.Challenge.pw_evenline_k48_whole_all_the_way.main.body.getD i (.Pass ⟨0, 0, 0, 0⟩)
abbrev s__wall : Stmt := top 0
def N__wall : List Str := ["k"]
def p__wall : List Str := ["k"]
theorem sc__wall : FnScope N__wall p__wall (defScope s__wall) := ⟨rfl, rfl, rfl, by decide +kernel, rfl, by decide +kernel, by decide +kernel⟩
abbrev s_is_whole : Stmt := top 12
def N_is_whole : List Str := ["thing", "low", "high"]
def p_is_whole : List Str := ["thing", "low", "high"]
theorem sc_is_whole : FnScope N_is_whole p_is_whole (defScope s_is_whole) := ⟨rfl, rfl, rfl, by decide +kernel, rfl, by decide +kernel, by decide +kernel⟩
abbrev s_look_word : Stmt := top 13
def N_look_word : List Str := ["word"]
def p_look_word : List Str := ["word"]
theorem sc_look_word : FnScope N_look_word p_look_word (defScope s_look_word) := ⟨rfl, rfl, rfl, by decide +kernel, rfl, by decide +kernel, by decide +kernel⟩
abbrev s_look_bits : Stmt := top 14
def N_look_bits : List Str := ["bits", "bit"]
def p_look_bits : List Str := ["bits"]
theorem sc_look_bits : FnScope N_look_bits p_look_bits (defScope s_look_bits) := ⟨rfl, rfl, rfl, by decide +kernel, rfl, by decide +kernel, by decide +kernel⟩
abbrev s_bits_of : Stmt := top 15
def N_bits_of : List Str := ["word", "k"]
def p_bits_of : List Str := ["word"]
theorem sc_bits_of : FnScope N_bits_of p_bits_of (defScope s_bits_of) := ⟨rfl, rfl, rfl, by decide +kernel, rfl, by decide +kernel, by decide +kernel⟩
abbrev s_word_of : Stmt := top 16
def N_word_of : List Str := ["bits", "found", "bit"]
def p_word_of : List Str := ["bits"]
theorem sc_word_of : FnScope N_word_of p_word_of (defScope s_word_of) := ⟨rfl, rfl, rfl, by decide +kernel, rfl, by decide +kernel, by decide +kernel⟩
abbrev s_is_item : Stmt := top 24
def N_is_item : List Str := ["thing"]
def p_is_item : List Str := ["thing"]
theorem sc_is_item : FnScope N_is_item p_is_item (defScope s_is_item) := ⟨rfl, rfl, rfl, by decide +kernel, rfl, by decide +kernel, by decide +kernel⟩
abbrev s_look_item : Stmt := top 25
def N_look_item : List Str := ["item"]
def p_look_item : List Str := ["item"]
theorem sc_look_item : FnScope N_look_item p_look_item (defScope s_look_item) := ⟨rfl, rfl, rfl, by decide +kernel, rfl, by decide +kernel, by decide +kernel⟩
abbrev s_look_poise : Stmt := top 26
def N_look_poise : List Str := ["poise"]
def p_look_poise : List Str := ["poise"]
theorem sc_look_poise : FnScope N_look_poise p_look_poise (defScope s_look_poise) := ⟨rfl, rfl, rfl, by decide +kernel, rfl, by decide +kernel, by decide +kernel⟩
abbrev s_heavy_word : Stmt := top 27
def N_heavy_word : List Str := ["item"]
def p_heavy_word : List Str := ["item"]
theorem sc_heavy_word : FnScope N_heavy_word p_heavy_word (defScope s_heavy_word) := ⟨rfl, rfl, rfl, by decide +kernel, rfl, by decide +kernel, by decide +kernel⟩
abbrev s_put_item : Stmt := top 28
def N_put_item : List Str := ["item", "poise", "word"]
def p_put_item : List Str := ["item", "poise"]
theorem sc_put_item : FnScope N_put_item p_put_item (defScope s_put_item) := ⟨rfl, rfl, rfl, by decide +kernel, rfl, by decide +kernel, by decide +kernel⟩
abbrev s_pair_item : Stmt := top 29
def N_pair_item : List Str := ["heavy", "at"]
def p_pair_item : List Str := ["heavy"]
theorem sc_pair_item : FnScope N_pair_item p_pair_item (defScope s_pair_item) := ⟨rfl, rfl, rfl, by decide +kernel, rfl, by decide +kernel, by decide +kernel⟩
abbrev s_item_at : Stmt := top 30
def N_item_at : List Str := ["word"]
def p_item_at : List Str := ["word"]
theorem sc_item_at : FnScope N_item_at p_item_at (defScope s_item_at) := ⟨rfl, rfl, rfl, by decide +kernel, rfl, by decide +kernel, by decide +kernel⟩
abbrev s_look_items : Stmt := top 31
def N_look_items : List Str := ["items", "item"]
def p_look_items : List Str := ["items"]
theorem sc_look_items : FnScope N_look_items p_look_items (defScope s_look_items) := ⟨rfl, rfl, rfl, by decide +kernel, rfl, by decide +kernel, by decide +kernel⟩
abbrev s_sent_from : Stmt := top 32
def N_sent_from : List Str := ["items", "poise", "told", "item", "word"]
def p_sent_from : List Str := ["items", "poise"]
theorem sc_sent_from : FnScope N_sent_from p_sent_from (defScope s_sent_from) := ⟨rfl, rfl, rfl, by decide +kernel, rfl, by decide +kernel, by decide +kernel⟩
abbrev s_is_row : Stmt := top 36
def N_is_row : List Str := ["thing", "most", "byte"]
def p_is_row : List Str := ["thing", "most"]
theorem sc_is_row : FnScope N_is_row p_is_row (defScope s_is_row) := ⟨rfl, rfl, rfl, by decide +kernel, rfl, by decide +kernel, by decide +kernel⟩
abbrev s_look_row : Stmt := top 37
def N_look_row : List Str := ["row", "most"]
def p_look_row : List Str := ["row", "most"]
theorem sc_look_row : FnScope N_look_row p_look_row (defScope s_look_row) := ⟨rfl, rfl, rfl, by decide +kernel, rfl, by decide +kernel, by decide +kernel⟩
abbrev s_sum_of : Stmt := top 38
def N_sum_of : List Str := ["row", "k", "byte"]
def p_sum_of : List Str := ["row"]
theorem sc_sum_of : FnScope N_sum_of p_sum_of (defScope s_sum_of) := ⟨rfl, rfl, rfl, by decide +kernel, rfl, by decide +kernel, by decide +kernel⟩
abbrev s_check_of : Stmt := top 39
def N_check_of : List Str := ["row"]
def p_check_of : List Str := ["row"]
theorem sc_check_of : FnScope N_check_of p_check_of (defScope s_check_of) := ⟨rfl, rfl, rfl, by decide +kernel, rfl, by decide +kernel, by decide +kernel⟩
abbrev s_framed : Stmt := top 40
def N_framed : List Str := ["row", "check"]
def p_framed : List Str := ["row"]
theorem sc_framed : FnScope N_framed p_framed (defScope s_framed) := ⟨rfl, rfl, rfl, by decide +kernel, rfl, by decide +kernel, by decide +kernel⟩
abbrev s_row_within : Stmt := top 41
def N_row_within : List Str := ["some", "row"]
def p_row_within : List Str := ["some"]
theorem sc_row_within : FnScope N_row_within p_row_within (defScope s_row_within) := ⟨rfl, rfl, rfl, by decide +kernel, rfl, by decide +kernel, by decide +kernel⟩
abbrev s_Reader___init__ : Stmt := inClass (top 45) 0
def N_Reader___init__ : List Str := ["self"]
def p_Reader___init__ : List Str := ["self"]
theorem sc_Reader___init__ : FnScope N_Reader___init__ p_Reader___init__ (defScope s_Reader___init__) := ⟨rfl, rfl, rfl, by decide +kernel, rfl, by decide +kernel, by decide +kernel⟩
abbrev s_Reader_heard : Stmt := inClass (top 45) 3
def N_Reader_heard : List Str := ["self", "word", "due", "told", "found"]
def p_Reader_heard : List Str := ["self", "word"]
theorem sc_Reader_heard : FnScope N_Reader_heard p_Reader_heard (defScope s_Reader_heard) := ⟨rfl, rfl, rfl, by decide +kernel, rfl, by decide +kernel, by decide +kernel⟩
abbrev s_Reader_in_step : Stmt := inClass (top 45) 4
def N_Reader_in_step : List Str := ["self"]
def p_Reader_in_step : List Str := ["self"]
theorem sc_Reader_in_step : FnScope N_Reader_in_step p_Reader_in_step (defScope s_Reader_in_step) := ⟨rfl, rfl, rfl, by decide +kernel, rfl, by decide +kernel, by decide +kernel⟩
abbrev s_Reader_poise_now : Stmt := inClass (top 45) 5
def N_Reader_poise_now : List Str := ["self"]
def p_Reader_poise_now : List Str := ["self"]
theorem sc_Reader_poise_now : FnScope N_Reader_poise_now p_Reader_poise_now (defScope s_Reader_poise_now) := ⟨rfl, rfl, rfl, by decide +kernel, rfl, by decide +kernel, by decide +kernel⟩
abbrev s_Reader_waiting : Stmt := inClass (top 45) 6
def N_Reader_waiting : List Str := ["self"]
def p_Reader_waiting : List Str := ["self"]
theorem sc_Reader_waiting : FnScope N_Reader_waiting p_Reader_waiting (defScope s_Reader_waiting) := ⟨rfl, rfl, rfl, by decide +kernel, rfl, by decide +kernel, by decide +kernel⟩
abbrev s_Taker___init__ : Stmt := inClass (top 47) 0
def N_Taker___init__ : List Str := ["self"]
def p_Taker___init__ : List Str := ["self"]
theorem sc_Taker___init__ : FnScope N_Taker___init__ p_Taker___init__ (defScope s_Taker___init__) := ⟨rfl, rfl, rfl, by decide +kernel, rfl, by decide +kernel, by decide +kernel⟩
abbrev s_Taker_took : Stmt := inClass (top 47) 2
def N_Taker_took : List Str := ["self", "item", "told", "row"]
def p_Taker_took : List Str := ["self", "item"]
theorem sc_Taker_took : FnScope N_Taker_took p_Taker_took (defScope s_Taker_took) := ⟨rfl, rfl, rfl, by decide +kernel, rfl, by decide +kernel, by decide +kernel⟩
abbrev s_Taker_within : Stmt := inClass (top 47) 3
def N_Taker_within : List Str := ["self"]
def p_Taker_within : List Str := ["self"]
theorem sc_Taker_within : FnScope N_Taker_within p_Taker_within (defScope s_Taker_within) := ⟨rfl, rfl, rfl, by decide +kernel, rfl, by decide +kernel, by decide +kernel⟩
abbrev s_Ear___init__ : Stmt := inClass (top 48) 0
def N_Ear___init__ : List Str := ["self"]
def p_Ear___init__ : List Str := ["self"]
theorem sc_Ear___init__ : FnScope N_Ear___init__ p_Ear___init__ (defScope s_Ear___init__) := ⟨rfl, rfl, rfl, by decide +kernel, rfl, by decide +kernel, by decide +kernel⟩
abbrev s_Ear_in_step : Stmt := inClass (top 48) 2
def N_Ear_in_step : List Str := ["self"]
def p_Ear_in_step : List Str := ["self"]
theorem sc_Ear_in_step : FnScope N_Ear_in_step p_Ear_in_step (defScope s_Ear_in_step) := ⟨rfl, rfl, rfl, by decide +kernel, rfl, by decide +kernel, by decide +kernel⟩
abbrev s_Sender___init__ : Stmt := inClass (top 50) 0
def N_Sender___init__ : List Str := ["self"]
def p_Sender___init__ : List Str := ["self"]
theorem sc_Sender___init__ : FnScope N_Sender___init__ p_Sender___init__ (defScope s_Sender___init__) := ⟨rfl, rfl, rfl, by decide +kernel, rfl, by decide +kernel, by decide +kernel⟩
abbrev s_Sender_say : Stmt := inClass (top 50) 1
def N_Sender_say : List Str := ["self", "items", "told", "poise"]
def p_Sender_say : List Str := ["self", "items"]
theorem sc_Sender_say : FnScope N_Sender_say p_Sender_say (defScope s_Sender_say) := ⟨rfl, rfl, rfl, by decide +kernel, rfl, by decide +kernel, by decide +kernel⟩
abbrev s_Sender_say_row : Stmt := inClass (top 50) 2
def N_Sender_say_row : List Str := ["self", "row"]
def p_Sender_say_row : List Str := ["self", "row"]
theorem sc_Sender_say_row : FnScope N_Sender_say_row p_Sender_say_row (defScope s_Sender_say_row) := ⟨rfl, rfl, rfl, by decide +kernel, rfl, by decide +kernel, by decide +kernel⟩
abbrev s_Sender_poise_now : Stmt := inClass (top 50) 3
def N_Sender_poise_now : List Str := ["self"]
def p_Sender_poise_now : List Str := ["self"]
theorem sc_Sender_poise_now : FnScope N_Sender_poise_now p_Sender_poise_now (defScope s_Sender_poise_now) := ⟨rfl, rfl, rfl, by decide +kernel, rfl, by decide +kernel, by decide +kernel⟩
abbrev s_Sender_said : Stmt := inClass (top 50) 4
def N_Sender_said : List Str := ["self"]
def p_Sender_said : List Str := ["self"]
theorem sc_Sender_said : FnScope N_Sender_said p_Sender_said (defScope s_Sender_said) := ⟨rfl, rfl, rfl, by decide +kernel, rfl, by decide +kernel, by decide +kernel⟩
abbrev s_parted : Stmt := top 55
def N_parted : List Str := ["row", "number", "many", "k"]
def p_parted : List Str := ["row", "number"]
theorem sc_parted : FnScope N_parted p_parted (defScope s_parted) := ⟨rfl, rfl, rfl, by decide +kernel, rfl, by decide +kernel, by decide +kernel⟩
abbrev s_is_part : Stmt := top 56
def N_is_part : List Str := ["thing"]
def p_is_part : List Str := ["thing"]
theorem sc_is_part : FnScope N_is_part p_is_part (defScope s_is_part) := ⟨rfl, rfl, rfl, by decide +kernel, rfl, by decide +kernel, by decide +kernel⟩
abbrev s_Joiner___init__ : Stmt := inClass (top 57) 0
def N_Joiner___init__ : List Str := ["self"]
def p_Joiner___init__ : List Str := ["self"]
theorem sc_Joiner___init__ : FnScope N_Joiner___init__ p_Joiner___init__ (defScope s_Joiner___init__) := ⟨rfl, rfl, rfl, by decide +kernel, rfl, by decide +kernel, by decide +kernel⟩
abbrev s_Joiner_goes_on : Stmt := inClass (top 57) 2
def N_Joiner_goes_on : List Str := ["self", "frame", "first"]
def p_Joiner_goes_on : List Str := ["self", "frame"]
theorem sc_Joiner_goes_on : FnScope N_Joiner_goes_on p_Joiner_goes_on (defScope s_Joiner_goes_on) := ⟨rfl, rfl, rfl, by decide +kernel, rfl, by decide +kernel, by decide +kernel⟩
abbrev s_Joiner_begun : Stmt := inClass (top 57) 3
def N_Joiner_begun : List Str := ["self"]
def p_Joiner_begun : List Str := ["self"]
theorem sc_Joiner_begun : FnScope N_Joiner_begun p_Joiner_begun (defScope s_Joiner_begun) := ⟨rfl, rfl, rfl, by decide +kernel, rfl, by decide +kernel, by decide +kernel⟩
abbrev s_look_many : Stmt := top 61
def N_look_many : List Str := ["many"]
def p_look_many : List Str := ["many"]
theorem sc_look_many : FnScope N_look_many p_look_many (defScope s_look_many) := ⟨rfl, rfl, rfl, by decide +kernel, rfl, by decide +kernel, by decide +kernel⟩
abbrev s_dealt : Stmt := top 62
def N_dealt : List Str := ["row", "many", "turn", "lane"]
def p_dealt : List Str := ["row", "many", "turn"]
theorem sc_dealt : FnScope N_dealt p_dealt (defScope s_dealt) := ⟨rfl, rfl, rfl, by decide +kernel, rfl, by decide +kernel, by decide +kernel⟩
abbrev s_fits : Stmt := top 63
def N_fits : List Str := ["rows", "longs", "row"]
def p_fits : List Str := ["rows"]
theorem sc_fits : FnScope N_fits p_fits (defScope s_fits) := ⟨rfl, rfl, rfl, by decide +kernel, rfl, by decide +kernel, by decide +kernel⟩
abbrev s_gathered : Stmt := top 64
def N_gathered : List Str := ["rows", "many", "row", "k"]
def p_gathered : List Str := ["rows"]
theorem sc_gathered : FnScope N_gathered p_gathered (defScope s_gathered) := ⟨rfl, rfl, rfl, by decide +kernel, rfl, by decide +kernel, by decide +kernel⟩
abbrev s_Lanes___init__ : Stmt := inClass (top 65) 0
def N_Lanes___init__ : List Str := ["self", "many", "lane"]
def p_Lanes___init__ : List Str := ["self", "many"]
theorem sc_Lanes___init__ : FnScope N_Lanes___init__ p_Lanes___init__ (defScope s_Lanes___init__) := ⟨rfl, rfl, rfl, by decide +kernel, rfl, by decide +kernel, by decide +kernel⟩
abbrev s_Lanes_drop_late : Stmt := inClass (top 65) 2
def N_Lanes_drop_late : List Str := ["self", "waiting"]
def p_Lanes_drop_late : List Str := ["self"]
theorem sc_Lanes_drop_late : FnScope N_Lanes_drop_late p_Lanes_drop_late (defScope s_Lanes_drop_late) := ⟨rfl, rfl, rfl, by decide +kernel, rfl, by decide +kernel, by decide +kernel⟩
abbrev s_Lanes_one : Stmt := inClass (top 65) 3
def N_Lanes_one : List Str := ["self", "heads", "whole", "some", "waiting", "turn", "head"]
def p_Lanes_one : List Str := ["self"]
theorem sc_Lanes_one : FnScope N_Lanes_one p_Lanes_one (defScope s_Lanes_one) := ⟨rfl, rfl, rfl, by decide +kernel, rfl, by decide +kernel, by decide +kernel⟩
abbrev s_Lanes_due : Stmt := inClass (top 65) 4
def N_Lanes_due : List Str := ["self"]
def p_Lanes_due : List Str := ["self"]
theorem sc_Lanes_due : FnScope N_Lanes_due p_Lanes_due (defScope s_Lanes_due) := ⟨rfl, rfl, rfl, by decide +kernel, rfl, by decide +kernel, by decide +kernel⟩
abbrev s_Lanes_held : Stmt := inClass (top 65) 5
def N_Lanes_held : List Str := ["self", "waiting"]
def p_Lanes_held : List Str := ["self"]
theorem sc_Lanes_held : FnScope N_Lanes_held p_Lanes_held (defScope s_Lanes_held) := ⟨rfl, rfl, rfl, by decide +kernel, rfl, by decide +kernel, by decide +kernel⟩
abbrev s__law_town : Stmt := top 67
def N__law_town : List Str := ["script"]
def p__law_town : List Str := ["script"]
theorem sc__law_town : FnScope N__law_town p__law_town (defScope s__law_town) := ⟨rfl, rfl, rfl, by decide +kernel, rfl, by decide +kernel, by decide +kernel⟩
abbrev s__law_draw : Stmt := top 68
def N__law_draw : List Str := ["town", "many", "cells", "at", "cell", "mixed"]
def p__law_draw : List Str := ["town", "many"]
theorem sc__law_draw : FnScope N__law_draw p__law_draw (defScope s__law_draw) := ⟨rfl, rfl, rfl, by decide +kernel, rfl, by decide +kernel, by decide +kernel⟩
abbrev s__law_pick : Stmt := top 69
def N__law_pick : List Str := ["town", "some"]
def p__law_pick : List Str := ["town", "some"]
theorem sc__law_pick : FnScope N__law_pick p__law_pick (defScope s__law_pick) := ⟨rfl, rfl, rfl, by decide +kernel, rfl, by decide +kernel, by decide +kernel⟩
abbrev s__law_ten : Stmt := top 70
def N__law_ten : List Str := ["word", "by"]
def p__law_ten : List Str := ["word"]
theorem sc__law_ten : FnScope N__law_ten p__law_ten (defScope s__law_ten) := ⟨rfl, rfl, rfl, by decide +kernel, rfl, by decide +kernel, by decide +kernel⟩
abbrev s__law_some_bits : Stmt := top 71
def N__law_some_bits : List Str := ["town", "most", "found", "many", "kind"]
def p__law_some_bits : List Str := ["town", "most"]
theorem sc__law_some_bits : FnScope N__law_some_bits p__law_some_bits (defScope s__law_some_bits) := ⟨rfl, rfl, rfl, by decide +kernel, rfl, by decide +kernel, by decide +kernel⟩
abbrev s__law_byte : Stmt := top 72
def N__law_byte : List Str := ["town", "kind"]
def p__law_byte : List Str := ["town"]
theorem sc__law_byte : FnScope N__law_byte p__law_byte (defScope s__law_byte) := ⟨rfl, rfl, rfl, by decide +kernel, rfl, by decide +kernel, by decide +kernel⟩
abbrev s__law_gap : Stmt := top 73
def N__law_gap : List Str := ["town", "k"]
def p__law_gap : List Str := ["town"]
theorem sc__law_gap : FnScope N__law_gap p__law_gap (defScope s__law_gap) := ⟨rfl, rfl, rfl, by decide +kernel, rfl, by decide +kernel, by decide +kernel⟩
abbrev s_Reader_found : Stmt := inClass (top 45) 2
def N_Reader_found : List Str := ["self", "told", "word"]
def p_Reader_found : List Str := ["self"]
theorem sc_Reader_found : FnScope N_Reader_found p_Reader_found (defScope s_Reader_found) := ⟨rfl, rfl, rfl, by decide +kernel, rfl, by decide +kernel, by decide +kernel⟩
abbrev s_Taker_take : Stmt := inClass (top 47) 1
def N_Taker_take : List Str := ["self", "items", "told", "item"]
def p_Taker_take : List Str := ["self", "items"]
theorem sc_Taker_take : FnScope N_Taker_take p_Taker_take (defScope s_Taker_take) := ⟨rfl, rfl, rfl, by decide +kernel, rfl, by decide +kernel, by decide +kernel⟩
abbrev s_Joiner_take : Stmt := inClass (top 57) 1
def N_Joiner_take : List Str := ["self", "frame", "told", "part"]
def p_Joiner_take : List Str := ["self", "frame"]
theorem sc_Joiner_take : FnScope N_Joiner_take p_Joiner_take (defScope s_Joiner_take) := ⟨rfl, rfl, rfl, by decide +kernel, rfl, by decide +kernel, by decide +kernel⟩
abbrev s_Lanes_come : Stmt := inClass (top 65) 1
def N_Lanes_come : List Str := ["self", "lane", "frame", "told", "waiting"]
def p_Lanes_come : List Str := ["self", "lane", "frame"]
theorem sc_Lanes_come : FnScope N_Lanes_come p_Lanes_come (defScope s_Lanes_come) := ⟨rfl, rfl, rfl, by decide +kernel, rfl, by decide +kernel, by decide +kernel⟩
abbrev s_Reader_hear : Stmt := inClass (top 45) 1
def N_Reader_hear : List Str := ["self", "bits", "told", "bit"]
def p_Reader_hear : List Str := ["self", "bits"]
theorem sc_Reader_hear : FnScope N_Reader_hear p_Reader_hear (defScope s_Reader_hear) := ⟨rfl, rfl, rfl, by decide +kernel, rfl, by decide +kernel, by decide +kernel⟩
abbrev s_Ear_hear : Stmt := inClass (top 48) 1
def N_Ear_hear : List Str := ["self", "bits"]
def p_Ear_hear : List Str := ["self", "bits"]
theorem sc_Ear_hear : FnScope N_Ear_hear p_Ear_hear (defScope s_Ear_hear) := ⟨rfl, rfl, rfl, by decide +kernel, rfl, by decide +kernel, by decide +kernel⟩
abbrev s_law : Stmt := top 74
def N_law : List Str := ["script", "town", "lanes", "number", "many", "row", "parts", "senders", "ears", "ear", "bits", "k", "frames", "lane", "sent", "some", "joiner", "told", "word", "frame", "sign", "turn", "part", "due", "one"]
def p_law : List Str := ["script"]
theorem sc_law : FnScope N_law p_law (defScope s_law) := ⟨rfl, rfl, rfl, by decide +kernel, rfl, by decide +kernel, by decide +kernel⟩
abbrev cv_CONTROLS : List V := n_CONTROLS.map V.str
theorem rl_CONTROLS {K : PySem.W.Frag} {mg : Str → Option Value} (F : Fz) : RepL K mg F cv_CONTROLS c_CONTROLS := repL_strs _ (by decide +kernel)
theorem fl_CONTROLS : c_CONTROLS.all flatD = true := by decide +kernel
abbrev cv_EVEN : List V := n_EVEN.map V.int
theorem rl_EVEN {K : PySem.W.Frag} {mg : Str → Option Value} (F : Fz) : RepL K mg F cv_EVEN c_EVEN := RepL.ints _
theorem fl_EVEN : c_EVEN.all flatD = true := by decide +kernel
abbrev cv_HEAVY : List V := n_HEAVY.map V.int
theorem rl_HEAVY {K : PySem.W.Frag} {mg : Str → Option Value} (F : Fz) : RepL K mg F cv_HEAVY c_HEAVY := RepL.ints _
theorem fl_HEAVY : c_HEAVY.all flatD = true := by decide +kernel

structure Tx (K : PySem.W.Frag) (mg : Str → Option Value) where
  f__wall : Addr
  d__wall : FuncData
  F__wall : Fun K "_wall" "_wall" s__wall f__wall d__wall
  b__wall : Binds K d__wall p__wall []
  g__wall : mg "_wall" = some (.ref f__wall)
  f_is_whole : Addr
  d_is_whole : FuncData
  F_is_whole : Fun K "is_whole" "is_whole" s_is_whole f_is_whole d_is_whole
  b_is_whole : Binds K d_is_whole p_is_whole []
  g_is_whole : mg "is_whole" = some (.ref f_is_whole)
  f_look_word : Addr
  d_look_word : FuncData
  F_look_word : Fun K "look_word" "look_word" s_look_word f_look_word d_look_word
  b_look_word : Binds K d_look_word p_look_word []
  g_look_word : mg "look_word" = some (.ref f_look_word)
  f_look_bits : Addr
  d_look_bits : FuncData
  F_look_bits : Fun K "look_bits" "look_bits" s_look_bits f_look_bits d_look_bits
  b_look_bits : Binds K d_look_bits p_look_bits []
  g_look_bits : mg "look_bits" = some (.ref f_look_bits)
  f_bits_of : Addr
  d_bits_of : FuncData
  F_bits_of : Fun K "bits_of" "bits_of" s_bits_of f_bits_of d_bits_of
  b_bits_of : Binds K d_bits_of p_bits_of []
  g_bits_of : mg "bits_of" = some (.ref f_bits_of)
  f_word_of : Addr
  d_word_of : FuncData
  F_word_of : Fun K "word_of" "word_of" s_word_of f_word_of d_word_of
  b_word_of : Binds K d_word_of p_word_of []
  g_word_of : mg "word_of" = some (.ref f_word_of)
  f_is_item : Addr
  d_is_item : FuncData
  F_is_item : Fun K "is_item" "is_item" s_is_item f_is_item d_is_item
  b_is_item : Binds K d_is_item p_is_item []
  g_is_item : mg "is_item" = some (.ref f_is_item)
  f_look_item : Addr
  d_look_item : FuncData
  F_look_item : Fun K "look_item" "look_item" s_look_item f_look_item d_look_item
  b_look_item : Binds K d_look_item p_look_item []
  g_look_item : mg "look_item" = some (.ref f_look_item)
  f_look_poise : Addr
  d_look_poise : FuncData
  F_look_poise : Fun K "look_poise" "look_poise" s_look_poise f_look_poise d_look_poise
  b_look_poise : Binds K d_look_poise p_look_poise []
  g_look_poise : mg "look_poise" = some (.ref f_look_poise)
  f_heavy_word : Addr
  d_heavy_word : FuncData
  F_heavy_word : Fun K "heavy_word" "heavy_word" s_heavy_word f_heavy_word d_heavy_word
  b_heavy_word : Binds K d_heavy_word p_heavy_word []
  g_heavy_word : mg "heavy_word" = some (.ref f_heavy_word)
  f_put_item : Addr
  d_put_item : FuncData
  F_put_item : Fun K "put_item" "put_item" s_put_item f_put_item d_put_item
  b_put_item : Binds K d_put_item p_put_item []
  g_put_item : mg "put_item" = some (.ref f_put_item)
  f_pair_item : Addr
  d_pair_item : FuncData
  F_pair_item : Fun K "pair_item" "pair_item" s_pair_item f_pair_item d_pair_item
  b_pair_item : Binds K d_pair_item p_pair_item []
  g_pair_item : mg "pair_item" = some (.ref f_pair_item)
  f_item_at : Addr
  d_item_at : FuncData
  F_item_at : Fun K "item_at" "item_at" s_item_at f_item_at d_item_at
  b_item_at : Binds K d_item_at p_item_at []
  g_item_at : mg "item_at" = some (.ref f_item_at)
  f_look_items : Addr
  d_look_items : FuncData
  F_look_items : Fun K "look_items" "look_items" s_look_items f_look_items d_look_items
  b_look_items : Binds K d_look_items p_look_items []
  g_look_items : mg "look_items" = some (.ref f_look_items)
  f_sent_from : Addr
  d_sent_from : FuncData
  F_sent_from : Fun K "sent_from" "sent_from" s_sent_from f_sent_from d_sent_from
  b_sent_from : Binds K d_sent_from p_sent_from []
  g_sent_from : mg "sent_from" = some (.ref f_sent_from)
  f_is_row : Addr
  d_is_row : FuncData
  F_is_row : Fun K "is_row" "is_row" s_is_row f_is_row d_is_row
  b_is_row : Binds K d_is_row p_is_row []
  g_is_row : mg "is_row" = some (.ref f_is_row)
  f_look_row : Addr
  d_look_row : FuncData
  F_look_row : Fun K "look_row" "look_row" s_look_row f_look_row d_look_row
  b_look_row : Binds K d_look_row p_look_row []
  g_look_row : mg "look_row" = some (.ref f_look_row)
  f_sum_of : Addr
  d_sum_of : FuncData
  F_sum_of : Fun K "sum_of" "sum_of" s_sum_of f_sum_of d_sum_of
  b_sum_of : Binds K d_sum_of p_sum_of []
  g_sum_of : mg "sum_of" = some (.ref f_sum_of)
  f_check_of : Addr
  d_check_of : FuncData
  F_check_of : Fun K "check_of" "check_of" s_check_of f_check_of d_check_of
  b_check_of : Binds K d_check_of p_check_of []
  g_check_of : mg "check_of" = some (.ref f_check_of)
  f_framed : Addr
  d_framed : FuncData
  F_framed : Fun K "framed" "framed" s_framed f_framed d_framed
  b_framed : Binds K d_framed p_framed []
  g_framed : mg "framed" = some (.ref f_framed)
  f_row_within : Addr
  d_row_within : FuncData
  F_row_within : Fun K "row_within" "row_within" s_row_within f_row_within d_row_within
  b_row_within : Binds K d_row_within p_row_within []
  g_row_within : mg "row_within" = some (.ref f_row_within)
  f_Reader___init__ : Addr
  d_Reader___init__ : FuncData
  F_Reader___init__ : Fun K "__init__" "Reader.__init__" s_Reader___init__ f_Reader___init__ d_Reader___init__
  b_Reader___init__ : Binds K d_Reader___init__ p_Reader___init__ []
  f_Reader_heard : Addr
  d_Reader_heard : FuncData
  F_Reader_heard : Fun K "heard" "Reader.heard" s_Reader_heard f_Reader_heard d_Reader_heard
  b_Reader_heard : Binds K d_Reader_heard p_Reader_heard []
  f_Reader_in_step : Addr
  d_Reader_in_step : FuncData
  F_Reader_in_step : Fun K "in_step" "Reader.in_step" s_Reader_in_step f_Reader_in_step d_Reader_in_step
  b_Reader_in_step : Binds K d_Reader_in_step p_Reader_in_step []
  f_Reader_poise_now : Addr
  d_Reader_poise_now : FuncData
  F_Reader_poise_now : Fun K "poise_now" "Reader.poise_now" s_Reader_poise_now f_Reader_poise_now d_Reader_poise_now
  b_Reader_poise_now : Binds K d_Reader_poise_now p_Reader_poise_now []
  f_Reader_waiting : Addr
  d_Reader_waiting : FuncData
  F_Reader_waiting : Fun K "waiting" "Reader.waiting" s_Reader_waiting f_Reader_waiting d_Reader_waiting
  b_Reader_waiting : Binds K d_Reader_waiting p_Reader_waiting []
  f_Taker___init__ : Addr
  d_Taker___init__ : FuncData
  F_Taker___init__ : Fun K "__init__" "Taker.__init__" s_Taker___init__ f_Taker___init__ d_Taker___init__
  b_Taker___init__ : Binds K d_Taker___init__ p_Taker___init__ []
  f_Taker_took : Addr
  d_Taker_took : FuncData
  F_Taker_took : Fun K "took" "Taker.took" s_Taker_took f_Taker_took d_Taker_took
  b_Taker_took : Binds K d_Taker_took p_Taker_took []
  f_Taker_within : Addr
  d_Taker_within : FuncData
  F_Taker_within : Fun K "within" "Taker.within" s_Taker_within f_Taker_within d_Taker_within
  b_Taker_within : Binds K d_Taker_within p_Taker_within []
  f_Ear___init__ : Addr
  d_Ear___init__ : FuncData
  F_Ear___init__ : Fun K "__init__" "Ear.__init__" s_Ear___init__ f_Ear___init__ d_Ear___init__
  b_Ear___init__ : Binds K d_Ear___init__ p_Ear___init__ []
  f_Ear_in_step : Addr
  d_Ear_in_step : FuncData
  F_Ear_in_step : Fun K "in_step" "Ear.in_step" s_Ear_in_step f_Ear_in_step d_Ear_in_step
  b_Ear_in_step : Binds K d_Ear_in_step p_Ear_in_step []
  f_Sender___init__ : Addr
  d_Sender___init__ : FuncData
  F_Sender___init__ : Fun K "__init__" "Sender.__init__" s_Sender___init__ f_Sender___init__ d_Sender___init__
  b_Sender___init__ : Binds K d_Sender___init__ p_Sender___init__ []
  f_Sender_say : Addr
  d_Sender_say : FuncData
  F_Sender_say : Fun K "say" "Sender.say" s_Sender_say f_Sender_say d_Sender_say
  b_Sender_say : Binds K d_Sender_say p_Sender_say []
  f_Sender_say_row : Addr
  d_Sender_say_row : FuncData
  F_Sender_say_row : Fun K "say_row" "Sender.say_row" s_Sender_say_row f_Sender_say_row d_Sender_say_row
  b_Sender_say_row : Binds K d_Sender_say_row p_Sender_say_row []
  f_Sender_poise_now : Addr
  d_Sender_poise_now : FuncData
  F_Sender_poise_now : Fun K "poise_now" "Sender.poise_now" s_Sender_poise_now f_Sender_poise_now d_Sender_poise_now
  b_Sender_poise_now : Binds K d_Sender_poise_now p_Sender_poise_now []
  f_Sender_said : Addr
  d_Sender_said : FuncData
  F_Sender_said : Fun K "said" "Sender.said" s_Sender_said f_Sender_said d_Sender_said
  b_Sender_said : Binds K d_Sender_said p_Sender_said []
  f_parted : Addr
  d_parted : FuncData
  F_parted : FunD K "parted" "parted" (defArgs s_parted) (defBody s_parted) (defScope s_parted) [V.int 0] [] f_parted d_parted
  b_parted : Binds K d_parted p_parted []
  g_parted : mg "parted" = some (.ref f_parted)
  f_is_part : Addr
  d_is_part : FuncData
  F_is_part : Fun K "is_part" "is_part" s_is_part f_is_part d_is_part
  b_is_part : Binds K d_is_part p_is_part []
  g_is_part : mg "is_part" = some (.ref f_is_part)
  f_Joiner___init__ : Addr
  d_Joiner___init__ : FuncData
  F_Joiner___init__ : Fun K "__init__" "Joiner.__init__" s_Joiner___init__ f_Joiner___init__ d_Joiner___init__
  b_Joiner___init__ : Binds K d_Joiner___init__ p_Joiner___init__ []
  f_Joiner_goes_on : Addr
  d_Joiner_goes_on : FuncData
  F_Joiner_goes_on : Fun K "goes_on" "Joiner.goes_on" s_Joiner_goes_on f_Joiner_goes_on d_Joiner_goes_on
  b_Joiner_goes_on : Binds K d_Joiner_goes_on p_Joiner_goes_on []
  f_Joiner_begun : Addr
  d_Joiner_begun : FuncData
  F_Joiner_begun : Fun K "begun" "Joiner.begun" s_Joiner_begun f_Joiner_begun d_Joiner_begun
  b_Joiner_begun : Binds K d_Joiner_begun p_Joiner_begun []
  f_look_many : Addr
  d_look_many : FuncData
  F_look_many : Fun K "look_many" "look_many" s_look_many f_look_many d_look_many
  b_look_many : Binds K d_look_many p_look_many []
  g_look_many : mg "look_many" = some (.ref f_look_many)
  f_dealt : Addr
  d_dealt : FuncData
  F_dealt : Fun K "dealt" "dealt" s_dealt f_dealt d_dealt
  b_dealt : Binds K d_dealt p_dealt []
  g_dealt : mg "dealt" = some (.ref f_dealt)
  f_fits : Addr
  d_fits : FuncData
  F_fits : Fun K "fits" "fits" s_fits f_fits d_fits
  b_fits : Binds K d_fits p_fits []
  g_fits : mg "fits" = some (.ref f_fits)
  f_gathered : Addr
  d_gathered : FuncData
  F_gathered : Fun K "gathered" "gathered" s_gathered f_gathered d_gathered
  b_gathered : Binds K d_gathered p_gathered []
  g_gathered : mg "gathered" = some (.ref f_gathered)
  f_Lanes___init__ : Addr
  d_Lanes___init__ : FuncData
  F_Lanes___init__ : Fun K "__init__" "Lanes.__init__" s_Lanes___init__ f_Lanes___init__ d_Lanes___init__
  b_Lanes___init__ : Binds K d_Lanes___init__ p_Lanes___init__ []
  f_Lanes_drop_late : Addr
  d_Lanes_drop_late : FuncData
  F_Lanes_drop_late : Fun K "drop_late" "Lanes.drop_late" s_Lanes_drop_late f_Lanes_drop_late d_Lanes_drop_late
  b_Lanes_drop_late : Binds K d_Lanes_drop_late p_Lanes_drop_late []
  f_Lanes_one : Addr
  d_Lanes_one : FuncData
  F_Lanes_one : Fun K "one" "Lanes.one" s_Lanes_one f_Lanes_one d_Lanes_one
  b_Lanes_one : Binds K d_Lanes_one p_Lanes_one []
  f_Lanes_due : Addr
  d_Lanes_due : FuncData
  F_Lanes_due : Fun K "due" "Lanes.due" s_Lanes_due f_Lanes_due d_Lanes_due
  b_Lanes_due : Binds K d_Lanes_due p_Lanes_due []
  f_Lanes_held : Addr
  d_Lanes_held : FuncData
  F_Lanes_held : Fun K "held" "Lanes.held" s_Lanes_held f_Lanes_held d_Lanes_held
  b_Lanes_held : Binds K d_Lanes_held p_Lanes_held []
  f__law_town : Addr
  d__law_town : FuncData
  F__law_town : Fun K "_law_town" "_law_town" s__law_town f__law_town d__law_town
  b__law_town : Binds K d__law_town p__law_town []
  g__law_town : mg "_law_town" = some (.ref f__law_town)
  f__law_draw : Addr
  d__law_draw : FuncData
  F__law_draw : Fun K "_law_draw" "_law_draw" s__law_draw f__law_draw d__law_draw
  b__law_draw : Binds K d__law_draw p__law_draw []
  g__law_draw : mg "_law_draw" = some (.ref f__law_draw)
  f__law_pick : Addr
  d__law_pick : FuncData
  F__law_pick : Fun K "_law_pick" "_law_pick" s__law_pick f__law_pick d__law_pick
  b__law_pick : Binds K d__law_pick p__law_pick []
  g__law_pick : mg "_law_pick" = some (.ref f__law_pick)
  f__law_ten : Addr
  d__law_ten : FuncData
  F__law_ten : Fun K "_law_ten" "_law_ten" s__law_ten f__law_ten d__law_ten
  b__law_ten : Binds K d__law_ten p__law_ten []
  g__law_ten : mg "_law_ten" = some (.ref f__law_ten)
  f__law_some_bits : Addr
  d__law_some_bits : FuncData
  F__law_some_bits : Fun K "_law_some_bits" "_law_some_bits" s__law_some_bits f__law_some_bits d__law_some_bits
  b__law_some_bits : Binds K d__law_some_bits p__law_some_bits []
  g__law_some_bits : mg "_law_some_bits" = some (.ref f__law_some_bits)
  f__law_byte : Addr
  d__law_byte : FuncData
  F__law_byte : Fun K "_law_byte" "_law_byte" s__law_byte f__law_byte d__law_byte
  b__law_byte : Binds K d__law_byte p__law_byte []
  g__law_byte : mg "_law_byte" = some (.ref f__law_byte)
  f__law_gap : Addr
  d__law_gap : FuncData
  F__law_gap : Fun K "_law_gap" "_law_gap" s__law_gap f__law_gap d__law_gap
  b__law_gap : Binds K d__law_gap p__law_gap []
  g__law_gap : mg "_law_gap" = some (.ref f__law_gap)
  f_Reader_found : Addr
  d_Reader_found : FuncData
  F_Reader_found : Fun K "found" "Reader.found" s_Reader_found f_Reader_found d_Reader_found
  b_Reader_found : Binds K d_Reader_found p_Reader_found []
  f_Taker_take : Addr
  d_Taker_take : FuncData
  F_Taker_take : Fun K "take" "Taker.take" s_Taker_take f_Taker_take d_Taker_take
  b_Taker_take : Binds K d_Taker_take p_Taker_take []
  f_Joiner_take : Addr
  d_Joiner_take : FuncData
  F_Joiner_take : Fun K "take" "Joiner.take" s_Joiner_take f_Joiner_take d_Joiner_take
  b_Joiner_take : Binds K d_Joiner_take p_Joiner_take []
  f_Lanes_come : Addr
  d_Lanes_come : FuncData
  F_Lanes_come : Fun K "come" "Lanes.come" s_Lanes_come f_Lanes_come d_Lanes_come
  b_Lanes_come : Binds K d_Lanes_come p_Lanes_come []
  f_Reader_hear : Addr
  d_Reader_hear : FuncData
  F_Reader_hear : Fun K "hear" "Reader.hear" s_Reader_hear f_Reader_hear d_Reader_hear
  b_Reader_hear : Binds K d_Reader_hear p_Reader_hear []
  f_Ear_hear : Addr
  d_Ear_hear : FuncData
  F_Ear_hear : Fun K "hear" "Ear.hear" s_Ear_hear f_Ear_hear d_Ear_hear
  b_Ear_hear : Binds K d_Ear_hear p_Ear_hear []
  f_law : Addr
  d_law : FuncData
  F_law : Fun K "law" "law" s_law f_law d_law
  b_law : Binds K d_law p_law []
  g_law : mg "law" = some (.ref f_law)
  g_BEGIN : (t : Tok) ×' mg "BEGIN" = some (.str "begin" t)
  a_CONTROLS : Addr
  g_CONTROLS : mg "CONTROLS" = some (.ref a_CONTROLS)
  k_CONTROLS : KTup K a_CONTROLS cv_CONTROLS
  a_EVEN : Addr
  g_EVEN : mg "EVEN" = some (.ref a_EVEN)
  k_EVEN : KTup K a_EVEN cv_EVEN
  g_HEAD : (t : Tok) ×' mg "HEAD" = some (.int 3 t)
  a_HEAVY : Addr
  g_HEAVY : mg "HEAVY" = some (.ref a_HEAVY)
  k_HEAVY : KTup K a_HEAVY cv_HEAVY
  g_LATE : (t : Tok) ×' mg "LATE" = some (.int 128 t)
  g_LONG : (t : Tok) ×' mg "LONG" = some (.int 10 t)
  g_LOST : (t : Tok) ×' mg "LOST" = some (.str "lost" t)
  g_MARK : (t : Tok) ×' mg "MARK" = some (.int 250 t)
  g_MODULUS : (t : Tok) ×' mg "MODULUS" = some (.int 65521 t)
  g_MOST : (t : Tok) ×' mg "MOST" = some (.int 1023 t)
  g_MOST_PARTS : (t : Tok) ×' mg "MOST_PARTS" = some (.int 10 t)
  g_MOST_ROW : (t : Tok) ×' mg "MOST_ROW" = some (.int 64 t)
  g_PAIRS : (t : Tok) ×' mg "PAIRS" = some (.int 76 t)
  g_PIECE : (t : Tok) ×' mg "PIECE" = some (.int 61 t)
  a_SIGNS : Addr
  g_SIGNS : mg "SIGNS" = some (.ref a_SIGNS)
  b0_SIGNS : Addr
  k0_SIGNS : KTup K b0_SIGNS (n0_SIGNS.map V.int)
  b1_SIGNS : Addr
  k1_SIGNS : KTup K b1_SIGNS (n1_SIGNS.map V.int)
  k_SIGNS : KTup K a_SIGNS [V.ref b0_SIGNS, V.ref b1_SIGNS]
  g_TURNS : (t : Tok) ×' mg "TURNS" = some (.int 256 t)
  n_all : mg "all" = none
  n_bool : mg "bool" = none
  n_divmod : mg "divmod" = none
  n_enumerate : mg "enumerate" = none
  n_int : mg "int" = none
  n_isinstance : mg "isinstance" = none
  n_len : mg "len" = none
  n_list : mg "list" = none
  n_max : mg "max" = none
  n_range : mg "range" = none
  n_sorted : mg "sorted" = none
  n_str : mg "str" = none
  n_sum : mg "sum" = none
  n_tuple : mg "tuple" = none
  c_BadBits : Addr
  g_BadBits : mg "BadBits" = some (.ref c_BadBits)
  x_BadBits : PySem.W.excIn K c_BadBits [.type "ValueError", .type "Exception", .type "BaseException", .type "object"] "ValueError.__new__" = true
  k_BadBits : PySem.W.keepIn K (.ref c_BadBits) = true
  b_BadBits : PySem.W.subIn K (.ref c_BadBits) (.type "BaseException") = some true
  t_BadBits : PySem.W.typeIn K (.ref c_BadBits) = some (.type "type")
  c_BadItem : Addr
  g_BadItem : mg "BadItem" = some (.ref c_BadItem)
  x_BadItem : PySem.W.excIn K c_BadItem [.type "ValueError", .type "Exception", .type "BaseException", .type "object"] "ValueError.__new__" = true
  k_BadItem : PySem.W.keepIn K (.ref c_BadItem) = true
  b_BadItem : PySem.W.subIn K (.ref c_BadItem) (.type "BaseException") = some true
  t_BadItem : PySem.W.typeIn K (.ref c_BadItem) = some (.type "type")
  c_BadLane : Addr
  g_BadLane : mg "BadLane" = some (.ref c_BadLane)
  x_BadLane : PySem.W.excIn K c_BadLane [.type "ValueError", .type "Exception", .type "BaseException", .type "object"] "ValueError.__new__" = true
  k_BadLane : PySem.W.keepIn K (.ref c_BadLane) = true
  b_BadLane : PySem.W.subIn K (.ref c_BadLane) (.type "BaseException") = some true
  t_BadLane : PySem.W.typeIn K (.ref c_BadLane) = some (.type "type")
  c_BadPoise : Addr
  g_BadPoise : mg "BadPoise" = some (.ref c_BadPoise)
  x_BadPoise : PySem.W.excIn K c_BadPoise [.type "ValueError", .type "Exception", .type "BaseException", .type "object"] "ValueError.__new__" = true
  k_BadPoise : PySem.W.keepIn K (.ref c_BadPoise) = true
  b_BadPoise : PySem.W.subIn K (.ref c_BadPoise) (.type "BaseException") = some true
  t_BadPoise : PySem.W.typeIn K (.ref c_BadPoise) = some (.type "type")
  c_BadRow : Addr
  g_BadRow : mg "BadRow" = some (.ref c_BadRow)
  x_BadRow : PySem.W.excIn K c_BadRow [.type "ValueError", .type "Exception", .type "BaseException", .type "object"] "ValueError.__new__" = true
  k_BadRow : PySem.W.keepIn K (.ref c_BadRow) = true
  b_BadRow : PySem.W.subIn K (.ref c_BadRow) (.type "BaseException") = some true
  t_BadRow : PySem.W.typeIn K (.ref c_BadRow) = some (.type "type")
  c_BadWord : Addr
  g_BadWord : mg "BadWord" = some (.ref c_BadWord)
  x_BadWord : PySem.W.excIn K c_BadWord [.type "ValueError", .type "Exception", .type "BaseException", .type "object"] "ValueError.__new__" = true
  k_BadWord : PySem.W.keepIn K (.ref c_BadWord) = true
  b_BadWord : PySem.W.subIn K (.ref c_BadWord) (.type "BaseException") = some true
  t_BadWord : PySem.W.typeIn K (.ref c_BadWord) = some (.type "type")
  c_Ear : Addr
  g_Ear : mg "Ear" = some (.ref c_Ear)
  l_Ear : Cls K c_Ear
  a_Ear : naB K c_Ear ["reader", "taker"] = true
  k_Ear : Mk K c_Ear f_Ear___init__
  m_Ear_in_step : Meth K c_Ear "in_step" f_Ear_in_step
  m_Ear_hear : Meth K c_Ear "hear" f_Ear_hear
  c_Joiner : Addr
  g_Joiner : mg "Joiner" = some (.ref c_Joiner)
  l_Joiner : Cls K c_Joiner
  a_Joiner : naB K c_Joiner ["some"] = true
  k_Joiner : Mk K c_Joiner f_Joiner___init__
  m_Joiner_goes_on : Meth K c_Joiner "goes_on" f_Joiner_goes_on
  m_Joiner_begun : Meth K c_Joiner "begun" f_Joiner_begun
  m_Joiner_take : Meth K c_Joiner "take" f_Joiner_take
  c_Lanes : Addr
  g_Lanes : mg "Lanes" = some (.ref c_Lanes)
  l_Lanes : Cls K c_Lanes
  a_Lanes : naB K c_Lanes ["rows", "turn"] = true
  k_Lanes : Mk K c_Lanes f_Lanes___init__
  m_Lanes_drop_late : Meth K c_Lanes "drop_late" f_Lanes_drop_late
  m_Lanes_one : Meth K c_Lanes "one" f_Lanes_one
  m_Lanes_due : Meth K c_Lanes "due" f_Lanes_due
  m_Lanes_held : Meth K c_Lanes "held" f_Lanes_held
  m_Lanes_come : Meth K c_Lanes "come" f_Lanes_come
  c_Reader : Addr
  g_Reader : mg "Reader" = some (.ref c_Reader)
  l_Reader : Cls K c_Reader
  a_Reader : naB K c_Reader ["last", "part", "poise"] = true
  k_Reader : Mk K c_Reader f_Reader___init__
  m_Reader_heard : Meth K c_Reader "heard" f_Reader_heard
  m_Reader_in_step : Meth K c_Reader "in_step" f_Reader_in_step
  m_Reader_poise_now : Meth K c_Reader "poise_now" f_Reader_poise_now
  m_Reader_waiting : Meth K c_Reader "waiting" f_Reader_waiting
  m_Reader_found : Meth K c_Reader "found" f_Reader_found
  m_Reader_hear : Meth K c_Reader "hear" f_Reader_hear
  c_Sender : Addr
  g_Sender : mg "Sender" = some (.ref c_Sender)
  l_Sender : Cls K c_Sender
  a_Sender : naB K c_Sender ["count", "poise"] = true
  k_Sender : Mk K c_Sender f_Sender___init__
  m_Sender_say : Meth K c_Sender "say" f_Sender_say
  m_Sender_say_row : Meth K c_Sender "say_row" f_Sender_say_row
  m_Sender_poise_now : Meth K c_Sender "poise_now" f_Sender_poise_now
  m_Sender_said : Meth K c_Sender "said" f_Sender_said
  c_Taker : Addr
  g_Taker : mg "Taker" = some (.ref c_Taker)
  l_Taker : Cls K c_Taker
  a_Taker : naB K c_Taker ["some"] = true
  k_Taker : Mk K c_Taker f_Taker___init__
  m_Taker_took : Meth K c_Taker "took" f_Taker_took
  m_Taker_within : Meth K c_Taker "within" f_Taker_within
  m_Taker_take : Meth K c_Taker "take" f_Taker_take
section
variable {P : Program} {w : World} {K : PySem.W.Frag} {mg : Str → Option Value} {base : Heap}
theorem Tx.r_BadBits (T : Tx K mg) {X : Cx} (hK : X.K = K := by rfl) : Raises X (.ref T.c_BadBits) := raises_own (by rw [hK]; exact T.b_BadBits) (by rw [hK]; exact T.t_BadBits)
theorem Tx.r_BadItem (T : Tx K mg) {X : Cx} (hK : X.K = K := by rfl) : Raises X (.ref T.c_BadItem) := raises_own (by rw [hK]; exact T.b_BadItem) (by rw [hK]; exact T.t_BadItem)
theorem Tx.r_BadLane (T : Tx K mg) {X : Cx} (hK : X.K = K := by rfl) : Raises X (.ref T.c_BadLane) := raises_own (by rw [hK]; exact T.b_BadLane) (by rw [hK]; exact T.t_BadLane)
theorem Tx.r_BadPoise (T : Tx K mg) {X : Cx} (hK : X.K = K := by rfl) : Raises X (.ref T.c_BadPoise) := raises_own (by rw [hK]; exact T.b_BadPoise) (by rw [hK]; exact T.t_BadPoise)
theorem Tx.r_BadRow (T : Tx K mg) {X : Cx} (hK : X.K = K := by rfl) : Raises X (.ref T.c_BadRow) := raises_own (by rw [hK]; exact T.b_BadRow) (by rw [hK]; exact T.t_BadRow)
theorem Tx.r_BadWord (T : Tx K mg) {X : Cx} (hK : X.K = K := by rfl) : Raises X (.ref T.c_BadWord) := raises_own (by rw [hK]; exact T.b_BadWord) (by rw [hK]; exact T.t_BadWord)
theorem ok__wall (T : Tx K mg) : FnOk P w K mg base (L2.CX P w) 1 T.f__wall T.d__wall p__wall (liftSp K mg z__wall) :=
  z_ok false (k := 0) (zb := zb__wall) T.F__wall sc__wall (n := 0) rfl (fun ds M R RE h => by
    unfold z__wall at h
    split at h
    · exact ⟨rfl, h⟩
    · exact h.elim)
  fun cdv A outer s H E F0 zE hr wk => (zss_one (zs_while (passes_of rfl) (zt_val ze_bl) (zss_one zs_pass)))
theorem ok_is_whole (T : Tx K mg) : FnOk P w K mg base (L2.CX P w) 1 T.f_is_whole T.d_is_whole p_is_whole (liftSp K mg z_is_whole) :=
  z_ok false (k := 0) (zb := zb_is_whole) T.F_is_whole sc_is_whole (n := 0) rfl (fun ds M R RE h => by
    unfold z_is_whole at h
    split at h
    · exact ⟨rfl, h⟩
    · exact h.elim)
  fun cdv A outer s H E F0 zE hr wk => (zss_one (zs_ret (ze_and (ze_isi (T := "int") (ze_var 0) T.n_isinstance T.n_int (by decide +kernel)) (ze_and (ze_not (ze_isi (T := "bool") (ze_var 0) T.n_isinstance T.n_bool (by decide +kernel))) (ze_one (ze_chain op_le (sndB0 (g := pLe)) op_le (sndB0 (g := pLe)) (ze_var 1) (ze_var 0) (ze_var 2)))))))
theorem ok_look_word (T : Tx K mg) : FnOk P w K mg base (L2.CX P w) 2 T.f_look_word T.d_look_word p_look_word (liftSp K mg z_look_word) :=
  z_ok false (k := 1) (zb := zb_look_word) T.F_look_word sc_look_word (n := 0) rfl (fun ds M R RE h => by
    unfold z_look_word at h
    split at h
    · exact ⟨rfl, h⟩
    · exact h.elim)
  fun cdv A outer s H E F0 zE hr wk => (zss_one (zs_if (zt_not (zt_val (ze_call (ok_is_whole T) (hr.mono (by decide)) T.g_is_whole T.F_is_whole.kp T.b_is_whole (takes_of rfl rfl rfl rfl) wk (za_cons (ze_var 0) (za_cons ze_int (za_cons (ze_glob (v := .int 1023) rfl T.g_MOST.2 ⟨_, rfl⟩ (fun _ => .int _)) za_nil)))))) (zss_one (zs_raise rfl (takes_of rfl rfl rfl rfl) wk PySem.F.excBase_ValueError T.x_BadWord T.g_BadWord T.k_BadWord T.r_BadWord))
  zss_nil))
theorem ok_look_bits (T : Tx K mg) : FnOk P w K mg base (L2.CX P w) 2 T.f_look_bits T.d_look_bits p_look_bits (liftSp K mg z_look_bits) :=
  z_ok false (k := 1) (zb := zb_look_bits) T.F_look_bits sc_look_bits (n := 1) rfl (fun ds M R RE h => by
    unfold z_look_bits at h
    split at h
    · exact ⟨rfl, h⟩
    · exact h.elim)
  fun cdv A outer s H E F0 zE hr wk => (zss_one (zs_if (zt_w (zw_or (zt_not (zt_val (ze_isi (T := "list") (ze_var 0) T.n_isinstance T.n_list (by decide +kernel)))) (zw_or1 (zt_not (zt_val (ze_cb (cr_all rfl) snd_all T.n_all (by decide +kernel) (za_cons (ze_lc (own := [("bit", 1)]) false rfl sc_look_bits.nd (zi_list (ze_var 0)) (blkOk_by (N := N_look_bits) (sc := defScope s_look_bits) (by decide +kernel)) (tg_name (by decide)) (fun _ _ _ _ _ => (pg_name (i := 1) sc_look_bits.nd rfl (by first | exact Or.inl rfl | exact Or.inr rfl))) (fun _ _ _ _ _ => zts_nil) (fun _ _ _ _ _ => (ze_call (ok_is_whole T) (hr.mono (by decide)) T.g_is_whole T.F_is_whole.kp T.b_is_whole takes0 wok0 (za_cons (ze_var 1) (za_cons ze_int (za_cons ze_int za_nil)))))) za_nil))))))) (zss_one (zs_raise rfl (takes_of rfl rfl rfl rfl) wk PySem.F.excBase_ValueError T.x_BadBits T.g_BadBits T.k_BadBits T.r_BadBits))
  zss_nil))
theorem ok_bits_of (T : Tx K mg) : FnOk P w K mg base (L2.CX P w) 3 T.f_bits_of T.d_bits_of p_bits_of (liftSp K mg z_bits_of) :=
  z_ok true (k := 2) (zb := zb_bits_of) T.F_bits_of sc_bits_of (n := 1) rfl (fun ds M R RE h => by
    unfold z_bits_of at h
    split at h
    · exact ⟨rfl, h⟩
    · exact h.elim)
  fun cdv A outer s H E F0 zE hr wk => (zss_cons (zs_expr (ze_call (ok_look_word T) (hr.mono (by decide)) T.g_look_word T.F_look_word.kp T.b_look_word (takes_of rfl rfl rfl rfl) wk (za_cons (ze_var 0) za_nil)))
  (zss_one (zs_ret (ze_lc (own := [("k", 1)]) true rfl sc_bits_of.nd (zi_range1 T.n_range (za_cons (ze_glob (v := .int 10) rfl T.g_LONG.2 ⟨_, rfl⟩ (fun _ => .int _)) za_nil)) (blkOk_by (N := N_bits_of) (sc := defScope s_bits_of) (by decide +kernel)) (tg_name (by decide)) (fun _ _ _ _ _ => (pg_name (i := 1) sc_bits_of.nd rfl (by first | exact Or.inl rfl | exact Or.inr rfl))) (fun _ _ _ _ _ => zts_nil) (fun _ _ _ _ _ => (ze_band (ze_shr (ze_var 0) (ze_sub (ze_sub (ze_glob (v := .int 10) rfl T.g_LONG.2 ⟨_, rfl⟩ (fun _ => .int _)) ze_int) (ze_var 1))) ze_int))))))
theorem ok_word_of (T : Tx K mg) : FnOk P w K mg base (L2.CX P w) 3 T.f_word_of T.d_word_of p_word_of (liftSp K mg z_word_of) :=
  z_ok false (k := 2) (zb := zb_word_of) T.F_word_of sc_word_of (n := 2) rfl (fun ds M R RE h => by
    unfold z_word_of at h
    split at h
    · exact ⟨rfl, h⟩
    · exact h.elim)
  fun cdv A outer s H E F0 zE hr wk => (zss_cons (zs_expr (ze_call (ok_look_bits T) (hr.mono (by decide)) T.g_look_bits T.F_look_bits.kp T.b_look_bits (takes_of rfl rfl rfl rfl) wk (za_cons (ze_var 0) za_nil)))
  (zss_cons (zs_if (zt_cmp (op_neZ hr.units) snd_ne (ze_cb call_len snd_len T.n_len (by decide +kernel) (za_cons (ze_var 0) za_nil)) (ze_glob (v := .int 10) rfl T.g_LONG.2 ⟨_, rfl⟩ (fun _ => .int _)) (by first | exact nobehind _ (by decide) (by decide) | rfl)) (zss_one (zs_raise rfl (takes_of rfl rfl rfl rfl) wk PySem.F.excBase_ValueError T.x_BadBits T.g_BadBits T.k_BadBits T.r_BadBits))
  zss_nil)
  (zss_cons (zs_set (i := 1) sc_word_of.nd ze_int)
  (zss_cons (zs_for (passes_of rfl) rfl (zi_list (ze_var 0)) (zg_name (i := 2) sc_word_of.nd) (zss_one (zs_set (i := 1) sc_word_of.nd (ze_add false (ze_mul false ze_int (ze_var 1)) (ze_var 2)))))
  (zss_one (zs_ret (ze_var 1)))))))
theorem ok_is_item (T : Tx K mg) : FnOk P w K mg base (L2.CX P w) 2 T.f_is_item T.d_is_item p_is_item (liftSp K mg z_is_item) :=
  z_ok false (k := 1) (zb := zb_is_item) T.F_is_item sc_is_item (n := 0) rfl (fun ds M R RE h => by
    unfold z_is_item at h
    split at h
    · exact ⟨rfl, h⟩
    · exact h.elim)
  fun cdv A outer s H E F0 zE hr wk => (zss_cons (zs_if (zt_val (ze_isi (T := "str") (ze_var 0) T.n_isinstance T.n_str (by decide +kernel))) (zss_one (zs_ret (ze_or (ze_cmp (op_eqZ hr.units) snd_eq (ze_var 0) (ze_glob (v := .str "begin") rfl T.g_BEGIN.2 ⟨_, rfl⟩ (fun _ => .str (by decide +kernel) (by decide +kernel))) (by first | exact nobehind _ (by decide) (by decide) | rfl)) (ze_one (ze_cmp op_inZ (snd_in false) (ze_var 0) (ze_glob (v := .ref T.a_CONTROLS) rfl T.g_CONTROLS rfl (ktup_rep T.k_CONTROLS rl_CONTROLS)) (by first | exact nobehind _ (by decide) (by decide) | rfl))))))
  zss_nil)
  (zss_one (zs_ret (ze_call (ok_is_whole T) (hr.mono (by decide)) T.g_is_whole T.F_is_whole.kp T.b_is_whole (takes_of rfl rfl rfl rfl) wk (za_cons (ze_var 0) (za_cons ze_int (za_cons ze_int za_nil)))))))
theorem ok_look_item (T : Tx K mg) : FnOk P w K mg base (L2.CX P w) 3 T.f_look_item T.d_look_item p_look_item (liftSp K mg z_look_item) :=
  z_ok false (k := 2) (zb := zb_look_item) T.F_look_item sc_look_item (n := 0) rfl (fun ds M R RE h => by
    unfold z_look_item at h
    split at h
    · exact ⟨rfl, h⟩
    · exact h.elim)
  fun cdv A outer s H E F0 zE hr wk => (zss_one (zs_if (zt_not (zt_val (ze_call (ok_is_item T) (hr.mono (by decide)) T.g_is_item T.F_is_item.kp T.b_is_item (takes_of rfl rfl rfl rfl) wk (za_cons (ze_var 0) za_nil)))) (zss_one (zs_raise rfl (takes_of rfl rfl rfl rfl) wk PySem.F.excBase_ValueError T.x_BadItem T.g_BadItem T.k_BadItem T.r_BadItem))
  zss_nil))
theorem ok_look_poise (T : Tx K mg) : FnOk P w K mg base (L2.CX P w) 2 T.f_look_poise T.d_look_poise p_look_poise (liftSp K mg z_look_poise) :=
  z_ok false (k := 1) (zb := zb_look_poise) T.F_look_poise sc_look_poise (n := 0) rfl (fun ds M R RE h => by
    unfold z_look_poise at h
    split at h
    · exact ⟨rfl, h⟩
    · exact h.elim)
  fun cdv A outer s H E F0 zE hr wk => (zss_one (zs_if (zt_w (zw_or (zt_not (zt_val (ze_call (ok_is_whole T) (hr.mono (by decide)) T.g_is_whole T.F_is_whole.kp T.b_is_whole (takes_of rfl rfl rfl rfl) wk (za_cons (ze_var 0) (za_cons (ze_sub ze_int ze_int) (za_cons ze_int za_nil)))))) (zw_or1 (zt_cmp (op_eqZ hr.units) snd_eq (ze_var 0) ze_int (by first | exact nobehind _ (by decide) (by decide) | rfl))))) (zss_one (zs_raise rfl (takes_of rfl rfl rfl rfl) wk PySem.F.excBase_ValueError T.x_BadPoise T.g_BadPoise T.k_BadPoise T.r_BadPoise))
  zss_nil))
theorem ok_heavy_word (T : Tx K mg) : FnOk P w K mg base (L2.CX P w) 1 T.f_heavy_word T.d_heavy_word p_heavy_word (liftSp K mg z_heavy_word) :=
  z_ok false (k := 0) (zb := zb_heavy_word) T.F_heavy_word sc_heavy_word (n := 0) rfl (fun ds M R RE h => by
    unfold z_heavy_word at h
    split at h
    · exact ⟨rfl, h⟩
    · exact h.elim)
  fun cdv A outer s H E F0 zE hr wk => (zss_cons (zs_if (zt_cmp (op_eqZ hr.units) snd_eq (ze_var 0) (ze_glob (v := .str "begin") rfl T.g_BEGIN.2 ⟨_, rfl⟩ (fun _ => .str (by decide +kernel) (by decide +kernel))) (by first | exact nobehind _ (by decide) (by decide) | rfl)) (zss_one (zs_ret (ze_glob (v := .int 250) rfl T.g_MARK.2 ⟨_, rfl⟩ (fun _ => .int _))))
  zss_nil)
  (zss_cons (zs_if (zt_cmp op_inZ (snd_in false) (ze_var 0) (ze_glob (v := .ref T.a_CONTROLS) rfl T.g_CONTROLS rfl (ktup_rep T.k_CONTROLS rl_CONTROLS)) (by first | exact nobehind _ (by decide) (by decide) | rfl)) (zss_one (zs_ret (ze_ix (ze_glob (v := .ref T.a_HEAVY) rfl T.g_HEAVY rfl (ktup_rep T.k_HEAVY rl_HEAVY)) (ze_add false (ze_glob (v := .int 76) rfl T.g_PAIRS.2 ⟨_, rfl⟩ (fun _ => .int _)) (ze_tidx (vs := cv_CONTROLS) T.g_CONTROLS T.k_CONTROLS rl_CONTROLS fl_CONTROLS (za_cons (ze_var 0) za_nil))) (fun _ _ => rfl))))
  zss_nil)
  (zss_one (zs_ret (ze_ix (ze_glob (v := .ref T.a_HEAVY) rfl T.g_HEAVY rfl (ktup_rep T.k_HEAVY rl_HEAVY)) (ze_sub (ze_var 0) (ze_cb call_len snd_len T.n_len (by decide +kernel) (za_cons (ze_glob (v := .ref T.a_EVEN) rfl T.g_EVEN rfl (ktup_rep T.k_EVEN rl_EVEN)) za_nil))) (fun _ _ => rfl))))))
theorem ok_put_item (T : Tx K mg) : FnOk P w K mg base (L2.CX P w) 4 T.f_put_item T.d_put_item p_put_item (liftSp K mg z_put_item) :=
  z_ok false (k := 3) (zb := zb_put_item) T.F_put_item sc_put_item (n := 1) rfl (fun ds M R RE h => by
    unfold z_put_item at h
    split at h
    · exact ⟨rfl, h⟩
    · exact h.elim)
  fun cdv A outer s H E F0 zE hr wk => (zss_cons (zs_expr (ze_call (ok_look_item T) (hr.mono (by decide)) T.g_look_item T.F_look_item.kp T.b_look_item (takes_of rfl rfl rfl rfl) wk (za_cons (ze_var 0) za_nil)))
  (zss_cons (zs_expr (ze_call (ok_look_poise T) (hr.mono (by decide)) T.g_look_poise T.F_look_poise.kp T.b_look_poise (takes_of rfl rfl rfl rfl) wk (za_cons (ze_var 1) za_nil)))
  (zss_cons (zs_if (zt_w (zw_and (zt_not (zt_val (ze_isi (T := "str") (ze_var 0) T.n_isinstance T.n_str (by decide +kernel)))) (zw_and1 (zt_cmp op_lt (sndB0 (g := pLt)) (ze_var 0) (ze_cb call_len snd_len T.n_len (by decide +kernel) (za_cons (ze_glob (v := .ref T.a_EVEN) rfl T.g_EVEN rfl (ktup_rep T.k_EVEN rl_EVEN)) za_nil)) (by first | exact nobehind _ (by decide) (by decide) | rfl))))) (zss_one (zs_ret (ze_tup (za_cons (ze_ix (ze_glob (v := .ref T.a_EVEN) rfl T.g_EVEN rfl (ktup_rep T.k_EVEN rl_EVEN)) (ze_var 0) (fun _ _ => rfl)) (za_cons (ze_var 1) za_nil)))))
  zss_nil)
  (zss_cons (zs_set (i := 2) sc_put_item.nd (ze_call (ok_heavy_word T) (hr.mono (by decide)) T.g_heavy_word T.F_heavy_word.kp T.b_heavy_word (takes_of rfl rfl rfl rfl) wk (za_cons (ze_var 0) za_nil)))
  (zss_one (zs_ret (ze_tup (za_cons (ze_if (zt_cmp op_lt (sndB0 (g := pLt)) (ze_var 1) ze_int (by first | exact nobehind _ (by decide) (by decide) | rfl)) (ze_var 2) (ze_sub (ze_glob (v := .int 1023) rfl T.g_MOST.2 ⟨_, rfl⟩ (fun _ => .int _)) (ze_var 2))) (za_cons (ze_sub ze_int (ze_var 1)) za_nil)))))))))
theorem ok_pair_item (T : Tx K mg) : FnOk P w K mg base (L2.CX P w) 1 T.f_pair_item T.d_pair_item p_pair_item (liftSp K mg z_pair_item) :=
  z_ok false (k := 0) (zb := zb_pair_item) T.F_pair_item sc_pair_item (n := 1) rfl (fun ds M R RE h => by
    unfold z_pair_item at h
    split at h
    · exact ⟨rfl, h⟩
    · exact h.elim)
  fun cdv A outer s H E F0 zE hr wk => (zss_cons (zs_if (zt_cmp (op_eqZ hr.units) snd_eq (ze_var 0) (ze_glob (v := .int 250) rfl T.g_MARK.2 ⟨_, rfl⟩ (fun _ => .int _)) (by first | exact nobehind _ (by decide) (by decide) | rfl)) (zss_one (zs_ret (ze_glob (v := .str "begin") rfl T.g_BEGIN.2 ⟨_, rfl⟩ (fun _ => .str (by decide +kernel) (by decide +kernel)))))
  zss_nil)
  (zss_cons (zs_if (zt_cmp op_notInZ (snd_in true) (ze_var 0) (ze_glob (v := .ref T.a_HEAVY) rfl T.g_HEAVY rfl (ktup_rep T.k_HEAVY rl_HEAVY)) (by first | exact nobehind _ (by decide) (by decide) | rfl)) (zss_one (zs_ret ze_non))
  zss_nil)
  (zss_cons (zs_set (i := 1) sc_pair_item.nd (ze_tidx (vs := cv_HEAVY) T.g_HEAVY T.k_HEAVY rl_HEAVY fl_HEAVY (za_cons (ze_var 0) za_nil)))
  (zss_cons (zs_if (zt_cmp op_lt (sndB0 (g := pLt)) (ze_var 1) (ze_glob (v := .int 76) rfl T.g_PAIRS.2 ⟨_, rfl⟩ (fun _ => .int _)) (by first | exact nobehind _ (by decide) (by decide) | rfl)) (zss_one (zs_ret (ze_add false (ze_cb call_len snd_len T.n_len (by decide +kernel) (za_cons (ze_glob (v := .ref T.a_EVEN) rfl T.g_EVEN rfl (ktup_rep T.k_EVEN rl_EVEN)) za_nil)) (ze_var 1))))
  zss_nil)
  (zss_one (zs_ret (ze_if (zt_cmp op_lt (sndB0 (g := pLt)) (ze_var 1) (ze_add false (ze_glob (v := .int 76) rfl T.g_PAIRS.2 ⟨_, rfl⟩ (fun _ => .int _)) (ze_cb call_len snd_len T.n_len (by decide +kernel) (za_cons (ze_glob (v := .ref T.a_CONTROLS) rfl T.g_CONTROLS rfl (ktup_rep T.k_CONTROLS rl_CONTROLS)) za_nil))) (by first | exact nobehind _ (by decide) (by decide) | rfl)) (ze_ix (ze_glob (v := .ref T.a_CONTROLS) rfl T.g_CONTROLS rfl (ktup_rep T.k_CONTROLS rl_CONTROLS)) (ze_sub (ze_var 1) (ze_glob (v := .int 76) rfl T.g_PAIRS.2 ⟨_, rfl⟩ (fun _ => .int _))) (fun _ _ => rfl)) ze_non)))))))
theorem ok_item_at (T : Tx K mg) : FnOk P w K mg base (L2.CX P w) 2 T.f_item_at T.d_item_at p_item_at (liftSp K mg z_item_at) :=
  z_ok false (k := 1) (zb := zb_item_at) T.F_item_at sc_item_at (n := 0) rfl (fun ds M R RE h => by
    unfold z_item_at at h
    split at h
    · exact ⟨rfl, h⟩
    · exact h.elim)
  fun cdv A outer s H E F0 zE hr wk => (zss_cons (zs_if (zt_cmp op_inZ (snd_in false) (ze_var 0) (ze_glob (v := .ref T.a_EVEN) rfl T.g_EVEN rfl (ktup_rep T.k_EVEN rl_EVEN)) (by first | exact nobehind _ (by decide) (by decide) | rfl)) (zss_one (zs_ret (ze_tup (za_cons (ze_tidx (vs := cv_EVEN) T.g_EVEN T.k_EVEN rl_EVEN fl_EVEN (za_cons (ze_var 0) za_nil)) (za_cons ze_int za_nil)))))
  zss_nil)
  (zss_cons (zs_if (zt_cmp (OpR.or op_notN op_notBl) snd_isNot (ze_call (ok_pair_item T) (hr.mono (by decide)) T.g_pair_item T.F_pair_item.kp T.b_pair_item (takes_of rfl rfl rfl rfl) wk (za_cons (ze_var 0) za_nil)) ze_non (by first | exact nobehind _ (by decide) (by decide) | rfl)) (zss_one (zs_ret (ze_tup (za_cons (ze_call (ok_pair_item T) (hr.mono (by decide)) T.g_pair_item T.F_pair_item.kp T.b_pair_item (takes_of rfl rfl rfl rfl) wk (za_cons (ze_var 0) za_nil)) (za_cons ze_int za_nil)))))
  zss_nil)
  (zss_cons (zs_if (zt_cmp (OpR.or op_notN op_notBl) snd_isNot (ze_call (ok_pair_item T) (hr.mono (by decide)) T.g_pair_item T.F_pair_item.kp T.b_pair_item (takes_of rfl rfl rfl rfl) wk (za_cons (ze_sub (ze_glob (v := .int 1023) rfl T.g_MOST.2 ⟨_, rfl⟩ (fun _ => .int _)) (ze_var 0)) za_nil)) ze_non (by first | exact nobehind _ (by decide) (by decide) | rfl)) (zss_one (zs_ret (ze_tup (za_cons (ze_call (ok_pair_item T) (hr.mono (by decide)) T.g_pair_item T.F_pair_item.kp T.b_pair_item (takes_of rfl rfl rfl rfl) wk (za_cons (ze_sub (ze_glob (v := .int 1023) rfl T.g_MOST.2 ⟨_, rfl⟩ (fun _ => .int _)) (ze_var 0)) za_nil)) (za_cons (ze_sub ze_int ze_int) za_nil)))))
  zss_nil)
  (zss_one (zs_ret ze_non)))))
theorem ok_look_items (T : Tx K mg) : FnOk P w K mg base (L2.CX P w) 3 T.f_look_items T.d_look_items p_look_items (liftSp K mg z_look_items) :=
  z_ok false (k := 2) (zb := zb_look_items) T.F_look_items sc_look_items (n := 1) rfl (fun ds M R RE h => by
    unfold z_look_items at h
    split at h
    · exact ⟨rfl, h⟩
    · exact h.elim)
  fun cdv A outer s H E F0 zE hr wk => (zss_one (zs_if (zt_w (zw_or (zt_not (zt_val (ze_isi (T := "list") (ze_var 0) T.n_isinstance T.n_list (by decide +kernel)))) (zw_or1 (zt_not (zt_val (ze_cb (cr_all rfl) snd_all T.n_all (by decide +kernel) (za_cons (ze_lc (own := [("item", 1)]) false rfl sc_look_items.nd (zi_list (ze_var 0)) (blkOk_by (N := N_look_items) (sc := defScope s_look_items) (by decide +kernel)) (tg_name (by decide)) (fun _ _ _ _ _ => (pg_name (i := 1) sc_look_items.nd rfl (by first | exact Or.inl rfl | exact Or.inr rfl))) (fun _ _ _ _ _ => zts_nil) (fun _ _ _ _ _ => (ze_call (ok_is_item T) (hr.mono (by decide)) T.g_is_item T.F_is_item.kp T.b_is_item takes0 wok0 (za_cons (ze_var 1) za_nil)))) za_nil))))))) (zss_one (zs_raise rfl (takes_of rfl rfl rfl rfl) wk PySem.F.excBase_ValueError T.x_BadItem T.g_BadItem T.k_BadItem T.r_BadItem))
  zss_nil))
theorem ok_sent_from (T : Tx K mg) : FnOk P w K mg base (L2.CX P w) 5 T.f_sent_from T.d_sent_from p_sent_from (liftSp K mg z_sent_from) :=
  z_ok true (k := 4) (zb := zb_sent_from) T.F_sent_from sc_sent_from (n := 3) rfl (fun ds M R RE h => by
    unfold z_sent_from at h
    split at h
    · exact ⟨rfl, h⟩
    · exact h.elim)
  fun cdv A outer s H E F0 zE hr wk => (zss_cons (zs_expr (ze_call (ok_look_items T) (hr.mono (by decide)) T.g_look_items T.F_look_items.kp T.b_look_items (takes_of rfl rfl rfl rfl) wk (za_cons (ze_var 0) za_nil)))
  (zss_cons (zs_expr (ze_call (ok_look_poise T) (hr.mono (by decide)) T.g_look_poise T.F_look_poise.kp T.b_look_poise (takes_of rfl rfl rfl rfl) wk (za_cons (ze_var 1) za_nil)))
  (zss_cons (zs_set (i := 2) sc_sent_from.nd (ze_lst true za_nil))
  (zss_cons (zs_for (passes_of rfl) rfl (zi_list (ze_var 0)) (zg_name (i := 3) sc_sent_from.nd) (zss_cons (zs_asg (ze_call (ok_put_item T) (hr.mono (by decide)) T.g_put_item T.F_put_item.kp T.b_put_item (takes_of rfl rfl rfl rfl) wk (za_cons (ze_var 3) (za_cons (ze_var 1) za_nil))) (zg_tup rfl (zgs_cons (zg_name (i := 4) sc_sent_from.nd) (zgs_cons (zg_name (i := 1) sc_sent_from.nd) zgs_nil))))
  (zss_one (zs_expr (ze_mL PySem.F.plainAttrs_list PySem.F.slot_list_extend PySem.F.type_list_extend mt_extend snd_ext (ze_var 2) (za_cons (ze_call (ok_bits_of T) (hr.mono (by decide)) T.g_bits_of T.F_bits_of.kp T.b_bits_of (takes_of rfl rfl rfl rfl) wk (za_cons (ze_var 4) za_nil)) za_nil))))))
  (zss_one (zs_ret (ze_tup (za_cons (ze_var 2) (za_cons (ze_var 1) za_nil)))))))))
theorem ok_is_row (T : Tx K mg) : FnOk P w K mg base (L2.CX P w) 2 T.f_is_row T.d_is_row p_is_row (liftSp K mg z_is_row) :=
  z_ok false (k := 1) (zb := zb_is_row) T.F_is_row sc_is_row (n := 1) rfl (fun ds M R RE h => by
    unfold z_is_row at h
    split at h
    · exact ⟨rfl, h⟩
    · exact h.elim)
  fun cdv A outer s H E F0 zE hr wk => (zss_cons (zs_if (zt_w (zw_or (zt_not (zt_val (ze_isi (T := "list") (ze_var 0) T.n_isinstance T.n_list (by decide +kernel)))) (zw_or1 (zt_cmp op_gt (sndB0 (g := pGt)) (ze_cb call_len snd_len T.n_len (by decide +kernel) (za_cons (ze_var 0) za_nil)) (ze_var 1) (by first | exact nobehind _ (by decide) (by decide) | rfl))))) (zss_one (zs_ret ze_bl))
  zss_nil)
  (zss_one (zs_ret (ze_cb (cr_all rfl) snd_all T.n_all (by decide +kernel) (za_cons (ze_lc (own := [("byte", 2)]) false rfl sc_is_row.nd (zi_list (ze_var 0)) (blkOk_by (N := N_is_row) (sc := defScope s_is_row) (by decide +kernel)) (tg_name (by decide)) (fun _ _ _ _ _ => (pg_name (i := 2) sc_is_row.nd rfl (by first | exact Or.inl rfl | exact Or.inr rfl))) (fun _ _ _ _ _ => zts_nil) (fun _ _ _ _ _ => (ze_call (ok_is_whole T) (hr.mono (by decide)) T.g_is_whole T.F_is_whole.kp T.b_is_whole takes0 wok0 (za_cons (ze_var 2) (za_cons ze_int (za_cons ze_int za_nil)))))) za_nil)))))
theorem ok_look_row (T : Tx K mg) : FnOk P w K mg base (L2.CX P w) 3 T.f_look_row T.d_look_row p_look_row (liftSp K mg z_look_row) :=
  z_ok false (k := 2) (zb := zb_look_row) T.F_look_row sc_look_row (n := 0) rfl (fun ds M R RE h => by
    unfold z_look_row at h
    split at h
    · exact ⟨rfl, h⟩
    · exact h.elim)
  fun cdv A outer s H E F0 zE hr wk => (zss_one (zs_if (zt_not (zt_val (ze_call (ok_is_row T) (hr.mono (by decide)) T.g_is_row T.F_is_row.kp T.b_is_row (takes_of rfl rfl rfl rfl) wk (za_cons (ze_var 0) (za_cons (ze_var 1) za_nil))))) (zss_one (zs_raise rfl (takes_of rfl rfl rfl rfl) wk PySem.F.excBase_ValueError T.x_BadRow T.g_BadRow T.k_BadRow T.r_BadRow))
  zss_nil))
theorem ok_sum_of (T : Tx K mg) : FnOk P w K mg base (L2.CX P w) 1 T.f_sum_of T.d_sum_of p_sum_of (liftSp K mg z_sum_of) :=
  z_ok false (k := 0) (zb := zb_sum_of) T.F_sum_of sc_sum_of (n := 2) rfl (fun ds M R RE h => by
    unfold z_sum_of at h
    split at h
    · exact ⟨rfl, h⟩
    · exact h.elim)
  fun cdv A outer s H E F0 zE hr wk => (zss_one (zs_ret (ze_mod (ze_cb (cr_sum rfl) snd_sum T.n_sum (by decide +kernel) (za_cons (ze_lc (own := [("k", 1), ("byte", 2)]) false rfl sc_sum_of.nd (zi_enum T.n_enumerate (za_cons (ze_var 0) za_nil)) (blkOk_by (N := N_sum_of) (sc := defScope s_sum_of) (by decide +kernel)) (tg_pair (by decide) (by decide)) (fun _ _ _ _ _ => (pg_tup rfl (pgs_cons (pg_name (i := 1) sc_sum_of.nd rfl (by first | exact Or.inl rfl | exact Or.inr rfl)) (pgs_cons (pg_name (i := 2) sc_sum_of.nd rfl (by first | exact Or.inl rfl | exact Or.inr rfl)) pgs_nil)))) (fun _ _ _ _ _ => zts_nil) (fun _ _ _ _ _ => (ze_mul false (ze_add false (ze_var 1) ze_int) (ze_add false (ze_var 2) ze_int)))) za_nil)) (ze_glob (v := .int 65521) rfl T.g_MODULUS.2 ⟨_, rfl⟩ (fun _ => .int _)))))
theorem ok_check_of (T : Tx K mg) : FnOk P w K mg base (L2.CX P w) 4 T.f_check_of T.d_check_of p_check_of (liftSp K mg z_check_of) :=
  z_ok true (k := 3) (zb := zb_check_of) T.F_check_of sc_check_of (n := 0) rfl (fun ds M R RE h => by
    unfold z_check_of at h
    split at h
    · exact ⟨rfl, h⟩
    · exact h.elim)
  fun cdv A outer s H E F0 zE hr wk => (zss_cons (zs_expr (ze_call (ok_look_row T) (hr.mono (by decide)) T.g_look_row T.F_look_row.kp T.b_look_row (takes_of rfl rfl rfl rfl) wk (za_cons (ze_var 0) (za_cons (ze_glob (v := .int 64) rfl T.g_MOST_ROW.2 ⟨_, rfl⟩ (fun _ => .int _)) za_nil))))
  (zss_one (zs_ret (ze_ct call_list_of (snd_list true) T.n_list (by decide +kernel) (za_cons (ze_cb call_divmod snd_divmod T.n_divmod (by decide +kernel) (za_cons (ze_call (ok_sum_of T) (hr.mono (by decide)) T.g_sum_of T.F_sum_of.kp T.b_sum_of (takes_of rfl rfl rfl rfl) wk (za_cons (ze_var 0) za_nil)) (za_cons ze_int za_nil))) za_nil)))))
theorem ok_framed (T : Tx K mg) : FnOk P w K mg base (L2.CX P w) 5 T.f_framed T.d_framed p_framed (liftSp K mg z_framed) :=
  z_ok true (k := 4) (zb := zb_framed) T.F_framed sc_framed (n := 1) rfl (fun ds M R RE h => by
    unfold z_framed at h
    split at h
    · exact ⟨rfl, h⟩
    · exact h.elim)
  fun cdv A outer s H E F0 zE hr wk => (zss_cons (zs_set (i := 1) sc_framed.nd (ze_call (ok_check_of T) (hr.mono (by decide)) T.g_check_of T.F_check_of.kp T.b_check_of (takes_of rfl rfl rfl rfl) wk (za_cons (ze_var 0) za_nil)))
  (zss_one (zs_ret (ze_add true (ze_add false (ze_add false (ze_lst false (za_cons ze_str (za_cons (ze_cb call_len snd_len T.n_len (by decide +kernel) (za_cons (ze_var 0) za_nil)) za_nil))) (ze_var 0)) (ze_var 1)) (ze_lst false (za_cons ze_str za_nil))))))
theorem ok_row_within (T : Tx K mg) : FnOk P w K mg base (L2.CX P w) 5 T.f_row_within T.d_row_within p_row_within (liftSp K mg z_row_within) :=
  z_ok false (k := 4) (zb := zb_row_within) T.F_row_within sc_row_within (n := 1) rfl (fun ds M R RE h => by
    unfold z_row_within at h
    split at h
    · exact ⟨rfl, h⟩
    · exact h.elim)
  fun cdv A outer s H E F0 zE hr wk => (zss_cons (zs_if (zt_w (zw_or (zt_cmp (op_eqZ hr.units) snd_eq (ze_var 0) (ze_lst false za_nil) (by first | exact nobehind _ (by decide) (by decide) | rfl)) (zw_or (zt_cmp op_gt (sndB0 (g := pGt)) (ze_ix (ze_var 0) ze_int (fun _ _ => rfl)) (ze_glob (v := .int 64) rfl T.g_MOST_ROW.2 ⟨_, rfl⟩ (fun _ => .int _)) (by first | exact nobehind _ (by decide) (by decide) | rfl)) (zw_or1 (zt_cmp (op_neZ hr.units) snd_ne (ze_cb call_len snd_len T.n_len (by decide +kernel) (za_cons (ze_var 0) za_nil)) (ze_add false (ze_ix (ze_var 0) ze_int (fun _ _ => rfl)) ze_int) (by first | exact nobehind _ (by decide) (by decide) | rfl)))))) (zss_one (zs_ret ze_non))
  zss_nil)
  (zss_cons (zs_set (i := 1) sc_row_within.nd (ze_sl false (ze_var 0) (zo_some ze_int) (zo_some (ze_neg ze_int))))
  (zss_one (zs_ret (ze_if (zt_cmp (op_eqZ hr.units) snd_eq (ze_call (ok_check_of T) (hr.mono (by decide)) T.g_check_of T.F_check_of.kp T.b_check_of (takes_of rfl rfl rfl rfl) wk (za_cons (ze_var 1) za_nil)) (ze_sl false (ze_var 0) (zo_some (ze_neg ze_int)) zo_none) (by first | exact nobehind _ (by decide) (by decide) | rfl)) (ze_var 1) ze_non)))))
theorem ok_Reader___init__ (T : Tx K mg) : FnOk P w K mg base (L2.CX P w) 1 T.f_Reader___init__ T.d_Reader___init__ p_Reader___init__ (liftSp K mg z_Reader___init__) :=
  z_ok false (k := 0) (zb := zb_Reader___init__) T.F_Reader___init__ sc_Reader___init__ (n := 0) rfl (fun ds M R RE h => by
    unfold z_Reader___init__ at h
    split at h
    · exact ⟨rfl, h⟩
    · exact h.elim)
  fun cdv A outer s H E F0 zE hr wk => (zss_cons (zs_setA T.g_Reader T.l_Reader (naB_ok T.a_Reader (by decide +kernel)) (ze_var 0) (ze_lst false za_nil))
  (zss_cons (zs_setA T.g_Reader T.l_Reader (naB_ok T.a_Reader (by decide +kernel)) (ze_var 0) ze_non)
  (zss_one (zs_setA T.g_Reader T.l_Reader (naB_ok T.a_Reader (by decide +kernel)) (ze_var 0) ze_non))))
theorem ok_Reader_heard (T : Tx K mg) : FnOk P w K mg base (L2.CX P w) 3 T.f_Reader_heard T.d_Reader_heard p_Reader_heard (liftSp K mg z_Reader_heard) :=
  z_ok true (k := 2) (zb := zb_Reader_heard) T.F_Reader_heard sc_Reader_heard (n := 3) rfl (fun ds M R RE h => by
    unfold z_Reader_heard at h
    split at h
    · exact ⟨rfl, h⟩
    · exact h.elim)
  fun cdv A outer s H E F0 zE hr wk => (zss_cons (zs_if (zt_cmp op_inZ (snd_in false) (ze_var 1) (ze_tup (za_cons (ze_glob (v := .int 250) rfl T.g_MARK.2 ⟨_, rfl⟩ (fun _ => .int _)) (za_cons (ze_sub (ze_glob (v := .int 1023) rfl T.g_MOST.2 ⟨_, rfl⟩ (fun _ => .int _)) (ze_glob (v := .int 250) rfl T.g_MARK.2 ⟨_, rfl⟩ (fun _ => .int _))) za_nil))) (by first | exact nobehind _ (by decide) (by decide) | rfl)) (zss_cons (zs_set (i := 2) sc_Reader_heard.nd (ze_if (zt_cmp (op_eqZ hr.units) snd_eq (ze_var 1) (ze_glob (v := .int 250) rfl T.g_MARK.2 ⟨_, rfl⟩ (fun _ => .int _)) (by first | exact nobehind _ (by decide) (by decide) | rfl)) (ze_sub ze_int ze_int) ze_int))
  (zss_cons (zs_set (i := 3) sc_Reader_heard.nd (ze_if (zt_w (zw_and (zt_cmp (OpR.or op_notN op_notBl) snd_isNot (ze_fld T.g_Reader T.l_Reader (naB_ok T.a_Reader (by decide +kernel)) (ze_var 0)) ze_non (by first | exact nobehind _ (by decide) (by decide) | rfl)) (zw_and1 (zt_cmp (op_neZ hr.units) snd_ne (ze_fld T.g_Reader T.l_Reader (naB_ok T.a_Reader (by decide +kernel)) (ze_var 0)) (ze_var 2) (by first | exact nobehind _ (by decide) (by decide) | rfl))))) (ze_lst false (za_cons (ze_glob (v := .str "lost") rfl T.g_LOST.2 ⟨_, rfl⟩ (fun _ => .str (by decide +kernel) (by decide +kernel))) za_nil)) (ze_lst false za_nil)))
  (zss_cons (zs_setA T.g_Reader T.l_Reader (naB_ok T.a_Reader (by decide +kernel)) (ze_var 0) (ze_sub ze_int (ze_var 2)))
  (zss_one (zs_ret (ze_add true (ze_var 3) (ze_lst false (za_cons (ze_glob (v := .str "begin") rfl T.g_BEGIN.2 ⟨_, rfl⟩ (fun _ => .str (by decide +kernel) (by decide +kernel))) za_nil))))))))
  zss_nil)
  (zss_cons (zs_set (i := 4) sc_Reader_heard.nd (ze_if (zt_cmp (OpR.or op_isN op_isBl) snd_is (ze_fld T.g_Reader T.l_Reader (naB_ok T.a_Reader (by decide +kernel)) (ze_var 0)) ze_non (by first | exact nobehind _ (by decide) (by decide) | rfl)) ze_non (ze_call (ok_item_at T) (hr.mono (by decide)) T.g_item_at T.F_item_at.kp T.b_item_at (takes_of rfl rfl rfl rfl) wk (za_cons (ze_var 1) za_nil))))
  (zss_cons (zs_if (zt_w (zw_or (zt_cmp (OpR.or op_isN op_isBl) snd_is (ze_var 4) ze_non (by first | exact nobehind _ (by decide) (by decide) | rfl)) (zw_or1 (zt_not (zt_chain op_le (sndB0 (g := pLe)) op_le (sndB0 (g := pLe)) (ze_sub ze_int ze_int) (ze_add false (ze_fld T.g_Reader T.l_Reader (naB_ok T.a_Reader (by decide +kernel)) (ze_var 0)) (ze_ix (ze_var 4) ze_int (fun _ _ => rfl))) ze_int))))) (zss_cons (zs_setA T.g_Reader T.l_Reader (naB_ok T.a_Reader (by decide +kernel)) (ze_var 0) ze_non)
  (zss_cons (zs_setA T.g_Reader T.l_Reader (naB_ok T.a_Reader (by decide +kernel)) (ze_var 0) ze_non)
  (zss_one (zs_ret (ze_lst true (za_cons (ze_glob (v := .str "lost") rfl T.g_LOST.2 ⟨_, rfl⟩ (fun _ => .str (by decide +kernel) (by decide +kernel))) za_nil))))))
  zss_nil)
  (zss_cons (zs_setA T.g_Reader T.l_Reader (naB_ok T.a_Reader (by decide +kernel)) (ze_var 0) (ze_add false (ze_fld T.g_Reader T.l_Reader (naB_ok T.a_Reader (by decide +kernel)) (ze_var 0)) (ze_ix (ze_var 4) ze_int (fun _ _ => rfl))))
  (zss_one (zs_ret (ze_lst true (za_cons (ze_ix (ze_var 4) ze_int (fun _ _ => rfl)) za_nil))))))))
theorem ok_Reader_in_step (T : Tx K mg) : FnOk P w K mg base (L2.CX P w) 2 T.f_Reader_in_step T.d_Reader_in_step p_Reader_in_step (liftSp K mg z_Reader_in_step) :=
  z_ok false (k := 1) (zb := zb_Reader_in_step) T.F_Reader_in_step sc_Reader_in_step (n := 0) rfl (fun ds M R RE h => by
    unfold z_Reader_in_step at h
    split at h
    · exact ⟨rfl, h⟩
    · exact h.elim)
  fun cdv A outer s H E F0 zE hr wk => (zss_one (zs_expr (ze_call (ok__wall T) (hr.mono (by decide)) T.g__wall T.F__wall.kp T.b__wall (takes_of rfl rfl rfl rfl) wk (za_cons ze_int za_nil))))
theorem ok_Reader_poise_now (T : Tx K mg) : FnOk P w K mg base (L2.CX P w) 2 T.f_Reader_poise_now T.d_Reader_poise_now p_Reader_poise_now (liftSp K mg z_Reader_poise_now) :=
  z_ok false (k := 1) (zb := zb_Reader_poise_now) T.F_Reader_poise_now sc_Reader_poise_now (n := 0) rfl (fun ds M R RE h => by
    unfold z_Reader_poise_now at h
    split at h
    · exact ⟨rfl, h⟩
    · exact h.elim)
  fun cdv A outer s H E F0 zE hr wk => (zss_one (zs_expr (ze_call (ok__wall T) (hr.mono (by decide)) T.g__wall T.F__wall.kp T.b__wall (takes_of rfl rfl rfl rfl) wk (za_cons ze_int za_nil))))
theorem ok_Reader_waiting (T : Tx K mg) : FnOk P w K mg base (L2.CX P w) 1 T.f_Reader_waiting T.d_Reader_waiting p_Reader_waiting (liftSp K mg z_Reader_waiting) :=
  z_ok false (k := 0) (zb := zb_Reader_waiting) T.F_Reader_waiting sc_Reader_waiting (n := 0) rfl (fun ds M R RE h => by
    unfold z_Reader_waiting at h
    split at h
    · exact ⟨rfl, h⟩
    · exact h.elim)
  fun cdv A outer s H E F0 zE hr wk => (zss_one (zs_ret (ze_if (zt_cmp (OpR.or op_isN op_isBl) snd_is (ze_fld T.g_Reader T.l_Reader (naB_ok T.a_Reader (by decide +kernel)) (ze_var 0)) ze_non (by first | exact nobehind _ (by decide) (by decide) | rfl)) ze_non (ze_cb call_len snd_len T.n_len (by decide +kernel) (za_cons (ze_fld T.g_Reader T.l_Reader (naB_ok T.a_Reader (by decide +kernel)) (ze_var 0)) za_nil)))))
theorem ok_Taker___init__ (T : Tx K mg) : FnOk P w K mg base (L2.CX P w) 1 T.f_Taker___init__ T.d_Taker___init__ p_Taker___init__ (liftSp K mg z_Taker___init__) :=
  z_ok false (k := 0) (zb := zb_Taker___init__) T.F_Taker___init__ sc_Taker___init__ (n := 0) rfl (fun ds M R RE h => by
    unfold z_Taker___init__ at h
    split at h
    · exact ⟨rfl, h⟩
    · exact h.elim)
  fun cdv A outer s H E F0 zE hr wk => (zss_one (zs_setA T.g_Taker T.l_Taker (naB_ok T.a_Taker (by decide +kernel)) (ze_var 0) ze_non))
theorem ok_Taker_took (T : Tx K mg) : FnOk P w K mg base (L2.CX P w) 6 T.f_Taker_took T.d_Taker_took p_Taker_took (liftSp K mg z_Taker_took) :=
  z_ok true (k := 5) (zb := zb_Taker_took) T.F_Taker_took sc_Taker_took (n := 2) rfl (fun ds M R RE h => by
    unfold z_Taker_took at h
    split at h
    · exact ⟨rfl, h⟩
    · exact h.elim)
  fun cdv A outer s H E F0 zE hr wk => (zss_cons (zs_if (zt_cmp (op_eqZ hr.units) snd_eq (ze_var 1) ze_str (by first | exact nobehind _ (by decide) (by decide) | rfl)) (zss_cons (zs_set (i := 2) sc_Taker_took.nd (ze_if (zt_cmp (OpR.or op_isN op_isBl) snd_is (ze_fld T.g_Taker T.l_Taker (naB_ok T.a_Taker (by decide +kernel)) (ze_var 0)) ze_non (by first | exact nobehind _ (by decide) (by decide) | rfl)) (ze_lst false za_nil) (ze_lst false (za_cons (ze_tup (za_cons ze_str (za_cons (ze_lst false za_nil) za_nil))) za_nil))))
  (zss_cons (zs_setA T.g_Taker T.l_Taker (naB_ok T.a_Taker (by decide +kernel)) (ze_var 0) (ze_lst true za_nil))
  (zss_one (zs_ret (ze_var 2)))))
  zss_nil)
  (zss_cons (zs_if (zt_w (zw_or (zt_cmp (OpR.or op_isN op_isBl) snd_is (ze_fld T.g_Taker T.l_Taker (naB_ok T.a_Taker (by decide +kernel)) (ze_var 0)) ze_non (by first | exact nobehind _ (by decide) (by decide) | rfl)) (zw_or1 (zt_cmp (op_eqZ hr.units) snd_eq (ze_var 1) ze_str (by first | exact nobehind _ (by decide) (by decide) | rfl))))) (zss_one (zs_ret (ze_lst true za_nil)))
  zss_nil)
  (zss_cons (zs_if (zt_w (zw_and (zt_not (zt_val (ze_isi (T := "str") (ze_var 1) T.n_isinstance T.n_str (by decide +kernel)))) (zw_and1 (zt_cmp op_lt (sndB0 (g := pLt)) (ze_cb call_len snd_len T.n_len (by decide +kernel) (za_cons (ze_fld T.g_Taker T.l_Taker (naB_ok T.a_Taker (by decide +kernel)) (ze_var 0)) za_nil)) (ze_add false (ze_glob (v := .int 64) rfl T.g_MOST_ROW.2 ⟨_, rfl⟩ (fun _ => .int _)) ze_int) (by first | exact nobehind _ (by decide) (by decide) | rfl))))) (zss_cons (zs_expr (ze_mL PySem.F.plainAttrs_list PySem.F.slot_list_append PySem.F.type_list_append mt_append snd_app (ze_fld T.g_Taker T.l_Taker (naB_ok T.a_Taker (by decide +kernel)) (ze_var 0)) (za_cons (ze_var 1) za_nil)))
  (zss_one (zs_ret (ze_lst true za_nil))))
  zss_nil)
  (zss_cons (zs_set (i := 3) sc_Taker_took.nd (ze_if (zt_cmp (op_eqZ hr.units) snd_eq (ze_var 1) ze_str (by first | exact nobehind _ (by decide) (by decide) | rfl)) (ze_call (ok_row_within T) (hr.mono (by decide)) T.g_row_within T.F_row_within.kp T.b_row_within (takes_of rfl rfl rfl rfl) wk (za_cons (ze_fld T.g_Taker T.l_Taker (naB_ok T.a_Taker (by decide +kernel)) (ze_var 0)) za_nil)) ze_non))
  (zss_cons (zs_setA T.g_Taker T.l_Taker (naB_ok T.a_Taker (by decide +kernel)) (ze_var 0) ze_non)
  (zss_one (zs_ret (ze_if (zt_cmp (OpR.or op_isN op_isBl) snd_is (ze_var 3) ze_non (by first | exact nobehind _ (by decide) (by decide) | rfl)) (ze_lst true (za_cons (ze_tup (za_cons ze_str (za_cons (ze_lst false za_nil) za_nil))) za_nil)) (ze_lst true (za_cons (ze_tup (za_cons ze_str (za_cons (ze_var 3) za_nil))) za_nil))))))))))
theorem ok_Taker_within (T : Tx K mg) : FnOk P w K mg base (L2.CX P w) 1 T.f_Taker_within T.d_Taker_within p_Taker_within (liftSp K mg z_Taker_within) :=
  z_ok false (k := 0) (zb := zb_Taker_within) T.F_Taker_within sc_Taker_within (n := 0) rfl (fun ds M R RE h => by
    unfold z_Taker_within at h
    split at h
    · exact ⟨rfl, h⟩
    · exact h.elim)
  fun cdv A outer s H E F0 zE hr wk => (zss_one (zs_ret (ze_cmp (OpR.or op_notN op_notBl) snd_isNot (ze_fld T.g_Taker T.l_Taker (naB_ok T.a_Taker (by decide +kernel)) (ze_var 0)) ze_non (by first | exact nobehind _ (by decide) (by decide) | rfl))))
theorem ok_Ear___init__ (T : Tx K mg) : FnOk P w K mg base (L2.CX P w) 3 T.f_Ear___init__ T.d_Ear___init__ p_Ear___init__ (liftSp K mg z_Ear___init__) :=
  z_ok false (k := 2) (zb := zb_Ear___init__) T.F_Ear___init__ sc_Ear___init__ (n := 0) rfl (fun ds M R RE h => by
    unfold z_Ear___init__ at h
    split at h
    · exact ⟨rfl, h⟩
    · exact h.elim)
  fun cdv A outer s H E F0 zE hr wk => (zss_cons (zs_setA T.g_Ear T.l_Ear (naB_ok T.a_Ear (by decide +kernel)) (ze_var 0) (ze_make0 T.g_Reader T.k_Reader (ok_Reader___init__ T) (hr.mono (by decide)) T.b_Reader___init__ (takes_of rfl rfl rfl rfl) wk))
  (zss_one (zs_setA T.g_Ear T.l_Ear (naB_ok T.a_Ear (by decide +kernel)) (ze_var 0) (ze_make0 T.g_Taker T.k_Taker (ok_Taker___init__ T) (hr.mono (by decide)) T.b_Taker___init__ (takes_of rfl rfl rfl rfl) wk))))
theorem ok_Ear_in_step (T : Tx K mg) : FnOk P w K mg base (L2.CX P w) 2 T.f_Ear_in_step T.d_Ear_in_step p_Ear_in_step (liftSp K mg z_Ear_in_step) :=
  z_ok false (k := 1) (zb := zb_Ear_in_step) T.F_Ear_in_step sc_Ear_in_step (n := 0) rfl (fun ds M R RE h => by
    unfold z_Ear_in_step at h
    split at h
    · exact ⟨rfl, h⟩
    · exact h.elim)
  fun cdv A outer s H E F0 zE hr wk => (zss_one (zs_expr (ze_call (ok__wall T) (hr.mono (by decide)) T.g__wall T.F__wall.kp T.b__wall (takes_of rfl rfl rfl rfl) wk (za_cons ze_int za_nil))))
theorem ok_Sender___init__ (T : Tx K mg) : FnOk P w K mg base (L2.CX P w) 1 T.f_Sender___init__ T.d_Sender___init__ p_Sender___init__ (liftSp K mg z_Sender___init__) :=
  z_ok false (k := 0) (zb := zb_Sender___init__) T.F_Sender___init__ sc_Sender___init__ (n := 0) rfl (fun ds M R RE h => by
    unfold z_Sender___init__ at h
    split at h
    · exact ⟨rfl, h⟩
    · exact h.elim)
  fun cdv A outer s H E F0 zE hr wk => (zss_cons (zs_setA T.g_Sender T.l_Sender (naB_ok T.a_Sender (by decide +kernel)) (ze_var 0) (ze_sub ze_int ze_int))
  (zss_one (zs_setA T.g_Sender T.l_Sender (naB_ok T.a_Sender (by decide +kernel)) (ze_var 0) ze_int)))
theorem ok_Sender_say (T : Tx K mg) : FnOk P w K mg base (L2.CX P w) 6 T.f_Sender_say T.d_Sender_say p_Sender_say (liftSp K mg z_Sender_say) :=
  z_ok false (k := 5) (zb := zb_Sender_say) T.F_Sender_say sc_Sender_say (n := 2) rfl (fun ds M R RE h => by
    unfold z_Sender_say at h
    split at h
    · exact ⟨rfl, h⟩
    · exact h.elim)
  fun cdv A outer s H E F0 zE hr wk => (zss_cons (zs_expr (ze_call (ok_look_items T) (hr.mono (by decide)) T.g_look_items T.F_look_items.kp T.b_look_items (takes_of rfl rfl rfl rfl) wk (za_cons (ze_var 1) za_nil)))
  (zss_cons (zs_asg (ze_call (ok_sent_from T) (hr.mono (by decide)) T.g_sent_from T.F_sent_from.kp T.b_sent_from (takes_of rfl rfl rfl rfl) wk (za_cons (ze_var 1) (za_cons (ze_fld T.g_Sender T.l_Sender (naB_ok T.a_Sender (by decide +kernel)) (ze_var 0)) za_nil))) (zg_tup rfl (zgs_cons (zg_name (i := 2) sc_Sender_say.nd) (zgs_cons (zg_name (i := 3) sc_Sender_say.nd) zgs_nil))))
  (zss_cons (zs_setA T.g_Sender T.l_Sender (naB_ok T.a_Sender (by decide +kernel)) (ze_var 0) (ze_var 3))
  (zss_cons (zs_setA T.g_Sender T.l_Sender (naB_ok T.a_Sender (by decide +kernel)) (ze_var 0) (ze_add false (ze_fld T.g_Sender T.l_Sender (naB_ok T.a_Sender (by decide +kernel)) (ze_var 0)) (ze_cb call_len snd_len T.n_len (by decide +kernel) (za_cons (ze_var 1) za_nil))))
  (zss_one (zs_ret (ze_var 2)))))))
theorem ok_Sender_say_row (T : Tx K mg) : FnOk P w K mg base (L2.CX P w) 7 T.f_Sender_say_row T.d_Sender_say_row p_Sender_say_row (liftSp K mg z_Sender_say_row) :=
  z_ok false (k := 6) (zb := zb_Sender_say_row) T.F_Sender_say_row sc_Sender_say_row (n := 0) rfl (fun ds M R RE h => by
    unfold z_Sender_say_row at h
    split at h
    · exact ⟨rfl, h⟩
    · exact h.elim)
  fun cdv A outer s H E F0 zE hr wk => (zss_one (zs_ret (ze_meth T.g_Sender T.l_Sender T.m_Sender_say (ok_Sender_say T) (hr.mono (by decide)) T.b_Sender_say (takes_of rfl rfl rfl rfl) wk (ze_var 0) (za_cons (ze_call (ok_framed T) (hr.mono (by decide)) T.g_framed T.F_framed.kp T.b_framed (takes_of rfl rfl rfl rfl) wk (za_cons (ze_var 1) za_nil)) za_nil))))
theorem ok_Sender_poise_now (T : Tx K mg) : FnOk P w K mg base (L2.CX P w) 2 T.f_Sender_poise_now T.d_Sender_poise_now p_Sender_poise_now (liftSp K mg z_Sender_poise_now) :=
  z_ok false (k := 1) (zb := zb_Sender_poise_now) T.F_Sender_poise_now sc_Sender_poise_now (n := 0) rfl (fun ds M R RE h => by
    unfold z_Sender_poise_now at h
    split at h
    · exact ⟨rfl, h⟩
    · exact h.elim)
  fun cdv A outer s H E F0 zE hr wk => (zss_one (zs_expr (ze_call (ok__wall T) (hr.mono (by decide)) T.g__wall T.F__wall.kp T.b__wall (takes_of rfl rfl rfl rfl) wk (za_cons ze_int za_nil))))
theorem ok_Sender_said (T : Tx K mg) : FnOk P w K mg base (L2.CX P w) 2 T.f_Sender_said T.d_Sender_said p_Sender_said (liftSp K mg z_Sender_said) :=
  z_ok false (k := 1) (zb := zb_Sender_said) T.F_Sender_said sc_Sender_said (n := 0) rfl (fun ds M R RE h => by
    unfold z_Sender_said at h
    split at h
    · exact ⟨rfl, h⟩
    · exact h.elim)
  fun cdv A outer s H E F0 zE hr wk => (zss_one (zs_expr (ze_call (ok__wall T) (hr.mono (by decide)) T.g__wall T.F__wall.kp T.b__wall (takes_of rfl rfl rfl rfl) wk (za_cons ze_int za_nil))))
theorem ok_parted (T : Tx K mg) : FnOk P w K mg base (L2.CX P w) 4 T.f_parted T.d_parted p_parted (liftSp K mg z_parted) :=
  z_okD true (k := 3) (zb := zb_parted) T.F_parted sc_parted (n := 2) rfl (fun ds M R RE h => by
    unfold z_parted at h
    split at h
    · exact ⟨rfl, h⟩
    · exact h.elim)
  fun cdv A outer s H E F0 zE hr wk => (zss_cons (zs_expr (ze_call (ok_look_row T) (hr.mono (by decide)) T.g_look_row T.F_look_row.kp T.b_look_row (takes_of rfl rfl rfl rfl) wk (za_cons (ze_var 0) (za_cons (ze_mul false (ze_glob (v := .int 61) rfl T.g_PIECE.2 ⟨_, rfl⟩ (fun _ => .int _)) (ze_glob (v := .int 10) rfl T.g_MOST_PARTS.2 ⟨_, rfl⟩ (fun _ => .int _))) za_nil))))
  (zss_cons (zs_if (zt_not (zt_val (ze_call (ok_is_whole T) (hr.mono (by decide)) T.g_is_whole T.F_is_whole.kp T.b_is_whole (takes_of rfl rfl rfl rfl) wk (za_cons (ze_var 1) (za_cons ze_int (za_cons ze_int za_nil)))))) (zss_one (zs_raise rfl (takes_of rfl rfl rfl rfl) wk PySem.F.excBase_ValueError T.x_BadRow T.g_BadRow T.k_BadRow T.r_BadRow))
  zss_nil)
  (zss_cons (zs_set (i := 2) sc_parted.nd (ze_cb (CallR.or (call_max2 rfl) (cr_max rfl)) snd_max T.n_max (by decide +kernel) (za_cons ze_int (za_cons (ze_div (ze_sub (ze_add false (ze_cb call_len snd_len T.n_len (by decide +kernel) (za_cons (ze_var 0) za_nil)) (ze_glob (v := .int 61) rfl T.g_PIECE.2 ⟨_, rfl⟩ (fun _ => .int _))) ze_int) (ze_glob (v := .int 61) rfl T.g_PIECE.2 ⟨_, rfl⟩ (fun _ => .int _))) za_nil))))
  (zss_one (zs_ret (ze_lc (own := [("k", 3)]) true rfl sc_parted.nd (zi_range1 T.n_range (za_cons (ze_var 2) za_nil)) (blkOk_by (N := N_parted) (sc := defScope s_parted) (by decide +kernel)) (tg_name (by decide)) (fun _ _ _ _ _ => (pg_name (i := 3) sc_parted.nd rfl (by first | exact Or.inl rfl | exact Or.inr rfl))) (fun _ _ _ _ _ => zts_nil) (fun _ _ _ _ _ => (ze_add false (ze_lst false (za_cons (ze_var 1) (za_cons (ze_var 3) (za_cons (ze_var 2) za_nil)))) (ze_sl false (ze_var 0) (zo_some (ze_mul false (ze_glob (v := .int 61) rfl T.g_PIECE.2 ⟨_, rfl⟩ (fun _ => .int _)) (ze_var 3))) (zo_some (ze_mul false (ze_glob (v := .int 61) rfl T.g_PIECE.2 ⟨_, rfl⟩ (fun _ => .int _)) (ze_add false (ze_var 3) ze_int))))))))))))
theorem ok_is_part (T : Tx K mg) : FnOk P w K mg base (L2.CX P w) 3 T.f_is_part T.d_is_part p_is_part (liftSp K mg z_is_part) :=
  z_ok false (k := 2) (zb := zb_is_part) T.F_is_part sc_is_part (n := 0) rfl (fun ds M R RE h => by
    unfold z_is_part at h
    split at h
    · exact ⟨rfl, h⟩
    · exact h.elim)
  fun cdv A outer s H E F0 zE hr wk => (zss_cons (zs_if (zt_w (zw_or (zt_not (zt_val (ze_call (ok_is_row T) (hr.mono (by decide)) T.g_is_row T.F_is_row.kp T.b_is_row (takes_of rfl rfl rfl rfl) wk (za_cons (ze_var 0) (za_cons (ze_glob (v := .int 64) rfl T.g_MOST_ROW.2 ⟨_, rfl⟩ (fun _ => .int _)) za_nil))))) (zw_or1 (zt_cmp op_lt (sndB0 (g := pLt)) (ze_cb call_len snd_len T.n_len (by decide +kernel) (za_cons (ze_var 0) za_nil)) (ze_glob (v := .int 3) rfl T.g_HEAD.2 ⟨_, rfl⟩ (fun _ => .int _)) (by first | exact nobehind _ (by decide) (by decide) | rfl))))) (zss_one (zs_ret ze_bl))
  zss_nil)
  (zss_one (zs_ret (ze_chain op_lt (sndB0 (g := pLt)) op_le (sndB0 (g := pLe)) (ze_ix (ze_var 0) ze_int (fun _ _ => rfl)) (ze_ix (ze_var 0) ze_int (fun _ _ => rfl)) (ze_glob (v := .int 10) rfl T.g_MOST_PARTS.2 ⟨_, rfl⟩ (fun _ => .int _))))))
theorem ok_Joiner___init__ (T : Tx K mg) : FnOk P w K mg base (L2.CX P w) 1 T.f_Joiner___init__ T.d_Joiner___init__ p_Joiner___init__ (liftSp K mg z_Joiner___init__) :=
  z_ok false (k := 0) (zb := zb_Joiner___init__) T.F_Joiner___init__ sc_Joiner___init__ (n := 0) rfl (fun ds M R RE h => by
    unfold z_Joiner___init__ at h
    split at h
    · exact ⟨rfl, h⟩
    · exact h.elim)
  fun cdv A outer s H E F0 zE hr wk => (zss_one (zs_setA T.g_Joiner T.l_Joiner (naB_ok T.a_Joiner (by decide +kernel)) (ze_var 0) (ze_lst true za_nil)))
theorem ok_Joiner_goes_on (T : Tx K mg) : FnOk P w K mg base (L2.CX P w) 1 T.f_Joiner_goes_on T.d_Joiner_goes_on p_Joiner_goes_on (liftSp K mg z_Joiner_goes_on) :=
  z_ok false (k := 0) (zb := zb_Joiner_goes_on) T.F_Joiner_goes_on sc_Joiner_goes_on (n := 1) rfl (fun ds M R RE h => by
    unfold z_Joiner_goes_on at h
    split at h
    · exact ⟨rfl, h⟩
    · exact h.elim)
  fun cdv A outer s H E F0 zE hr wk => (zss_cons (zs_if (zt_cmp (op_eqZ hr.units) snd_eq (ze_fld T.g_Joiner T.l_Joiner (naB_ok T.a_Joiner (by decide +kernel)) (ze_var 0)) (ze_lst false za_nil) (by first | exact nobehind _ (by decide) (by decide) | rfl)) (zss_one (zs_ret ze_bl))
  zss_nil)
  (zss_cons (zs_set (i := 2) sc_Joiner_goes_on.nd (ze_ix (ze_fld T.g_Joiner T.l_Joiner (naB_ok T.a_Joiner (by decide +kernel)) (ze_var 0)) ze_int (fun _ _ => rfl)))
  (zss_one (zs_ret (ze_and (ze_cmp (op_eqZ hr.units) snd_eq (ze_ix (ze_var 1) ze_int (fun _ _ => rfl)) (ze_cb call_len snd_len T.n_len (by decide +kernel) (za_cons (ze_fld T.g_Joiner T.l_Joiner (naB_ok T.a_Joiner (by decide +kernel)) (ze_var 0)) za_nil)) (by first | exact nobehind _ (by decide) (by decide) | rfl)) (ze_and (ze_cmp (op_eqZ hr.units) snd_eq (ze_ix (ze_var 1) ze_int (fun _ _ => rfl)) (ze_ix (ze_var 2) ze_int (fun _ _ => rfl)) (by first | exact nobehind _ (by decide) (by decide) | rfl)) (ze_one (ze_cmp (op_eqZ hr.units) snd_eq (ze_ix (ze_var 1) ze_int (fun _ _ => rfl)) (ze_ix (ze_var 2) ze_int (fun _ _ => rfl)) (by first | exact nobehind _ (by decide) (by decide) | rfl)))))))))
theorem ok_Joiner_begun (T : Tx K mg) : FnOk P w K mg base (L2.CX P w) 1 T.f_Joiner_begun T.d_Joiner_begun p_Joiner_begun (liftSp K mg z_Joiner_begun) :=
  z_ok false (k := 0) (zb := zb_Joiner_begun) T.F_Joiner_begun sc_Joiner_begun (n := 0) rfl (fun ds M R RE h => by
    unfold z_Joiner_begun at h
    split at h
    · exact ⟨rfl, h⟩
    · exact h.elim)
  fun cdv A outer s H E F0 zE hr wk => (zss_one (zs_ret (ze_cb call_len snd_len T.n_len (by decide +kernel) (za_cons (ze_fld T.g_Joiner T.l_Joiner (naB_ok T.a_Joiner (by decide +kernel)) (ze_var 0)) za_nil))))
theorem ok_look_many (T : Tx K mg) : FnOk P w K mg base (L2.CX P w) 2 T.f_look_many T.d_look_many p_look_many (liftSp K mg z_look_many) :=
  z_ok false (k := 1) (zb := zb_look_many) T.F_look_many sc_look_many (n := 0) rfl (fun ds M R RE h => by
    unfold z_look_many at h
    split at h
    · exact ⟨rfl, h⟩
    · exact h.elim)
  fun cdv A outer s H E F0 zE hr wk => (zss_one (zs_if (zt_not (zt_val (ze_call (ok_is_whole T) (hr.mono (by decide)) T.g_is_whole T.F_is_whole.kp T.b_is_whole (takes_of rfl rfl rfl rfl) wk (za_cons (ze_var 0) (za_cons ze_int (za_cons ze_int za_nil)))))) (zss_one (zs_raise rfl (takes_of rfl rfl rfl rfl) wk PySem.F.excBase_ValueError T.x_BadLane T.g_BadLane T.k_BadLane T.r_BadLane))
  zss_nil))
theorem ok_dealt (T : Tx K mg) : FnOk P w K mg base (L2.CX P w) 4 T.f_dealt T.d_dealt p_dealt (liftSp K mg z_dealt) :=
  z_ok true (k := 3) (zb := zb_dealt) T.F_dealt sc_dealt (n := 1) rfl (fun ds M R RE h => by
    unfold z_dealt at h
    split at h
    · exact ⟨rfl, h⟩
    · exact h.elim)
  fun cdv A outer s H E F0 zE hr wk => (zss_cons (zs_expr (ze_call (ok_look_many T) (hr.mono (by decide)) T.g_look_many T.F_look_many.kp T.b_look_many (takes_of rfl rfl rfl rfl) wk (za_cons (ze_var 1) za_nil)))
  (zss_cons (zs_expr (ze_call (ok_look_row T) (hr.mono (by decide)) T.g_look_row T.F_look_row.kp T.b_look_row (takes_of rfl rfl rfl rfl) wk (za_cons (ze_var 0) (za_cons (ze_mul false (ze_sub (ze_glob (v := .int 64) rfl T.g_MOST_ROW.2 ⟨_, rfl⟩ (fun _ => .int _)) ze_int) (ze_var 1)) za_nil))))
  (zss_cons (zs_if (zt_not (zt_val (ze_call (ok_is_whole T) (hr.mono (by decide)) T.g_is_whole T.F_is_whole.kp T.b_is_whole (takes_of rfl rfl rfl rfl) wk (za_cons (ze_var 2) (za_cons ze_int (za_cons (ze_sub (ze_glob (v := .int 256) rfl T.g_TURNS.2 ⟨_, rfl⟩ (fun _ => .int _)) ze_int) za_nil)))))) (zss_one (zs_raise rfl (takes_of rfl rfl rfl rfl) wk PySem.F.excBase_ValueError T.x_BadRow T.g_BadRow T.k_BadRow T.r_BadRow))
  zss_nil)
  (zss_one (zs_ret (ze_lc (own := [("lane", 3)]) true rfl sc_dealt.nd (zi_range1 T.n_range (za_cons (ze_var 1) za_nil)) (blkOk_by (N := N_dealt) (sc := defScope s_dealt) (by decide +kernel)) (tg_name (by decide)) (fun _ _ _ _ _ => (pg_name (i := 3) sc_dealt.nd rfl (by first | exact Or.inl rfl | exact Or.inr rfl))) (fun _ _ _ _ _ => zts_nil) (fun _ _ _ _ _ => (ze_any (ze_add false (ze_lst false (za_cons (ze_var 2) za_nil)) (ze_slS false (ze_var 0) (zo_some (ze_var 3)) zo_none (zo_some (ze_var 1)))) (ze_add true (ze_lst false (za_cons (ze_var 2) za_nil)) (ze_slS false (ze_var 0) (zo_some (ze_var 3)) zo_none (zo_some (ze_var 1))))))))))))
theorem ok_fits (T : Tx K mg) : FnOk P w K mg base (L2.CX P w) 1 T.f_fits T.d_fits p_fits (liftSp K mg z_fits) :=
  z_ok false (k := 0) (zb := zb_fits) T.F_fits sc_fits (n := 2) rfl (fun ds M R RE h => by
    unfold z_fits at h
    split at h
    · exact ⟨rfl, h⟩
    · exact h.elim)
  fun cdv A outer s H E F0 zE hr wk => (zss_cons (zs_setLc (own := [("row", 2)]) (i := 1) false rfl sc_fits.nd (sw_true rfl rfl rfl (by decide +kernel)) (zi_list (ze_var 0)) (blkOk_by (N := N_fits) (sc := defScope s_fits) (by decide +kernel)) (tg_name (by decide)) (fun _ _ _ _ _ => (pg_name (i := 2) sc_fits.nd rfl (by first | exact Or.inl rfl | exact Or.inr rfl))) (fun _ _ _ _ _ => zts_nil) (fun _ _ _ _ _ => (ze_cb call_len snd_len T.n_len (by decide +kernel) (za_cons (ze_var 2) za_nil))))
  (zss_one (zs_ret (ze_and (ze_cmp (op_eqZ hr.units) snd_eq (ze_var 1) (ze_sortedR false T.n_sorted (by decide +kernel) (za_cons (ze_var 1) za_nil)) (by first | exact nobehind _ (by decide) (by decide) | rfl)) (ze_one (ze_cmp op_lt (sndB0 (g := pLt)) (ze_sub (ze_ix (ze_var 1) ze_int (fun _ _ => rfl)) (ze_ix (ze_var 1) (ze_neg ze_int) (fun _ _ => rfl))) ze_int (by first | exact nobehind _ (by decide) (by decide) | rfl)))))))
theorem ok_gathered (T : Tx K mg) : FnOk P w K mg base (L2.CX P w) 3 T.f_gathered T.d_gathered p_gathered (liftSp K mg z_gathered) :=
  z_ok false (k := 2) (zb := zb_gathered) T.F_gathered sc_gathered (n := 3) rfl (fun ds M R RE h => by
    unfold z_gathered at h
    split at h
    · exact ⟨rfl, h⟩
    · exact h.elim)
  fun cdv A outer s H E F0 zE hr wk => (zss_cons (zs_if (zt_w (zw_or (zt_not (zt_val (ze_isi (T := "list") (ze_var 0) T.n_isinstance T.n_list (by decide +kernel)))) (zw_or1 (zt_not (zt_chain op_le (sndB0 (g := pLe)) op_le (sndB0 (g := pLe)) ze_int (ze_cb call_len snd_len T.n_len (by decide +kernel) (za_cons (ze_var 0) za_nil)) ze_int))))) (zss_one (zs_raise rfl (takes_of rfl rfl rfl rfl) wk PySem.F.excBase_ValueError T.x_BadLane T.g_BadLane T.k_BadLane T.r_BadLane))
  zss_nil)
  (zss_cons (zs_if (zt_not (zt_val (ze_cb (cr_all rfl) snd_all T.n_all (by decide +kernel) (za_cons (ze_lc (own := [("row", 2)]) false rfl sc_gathered.nd (zi_list (ze_var 0)) (blkOk_by (N := N_gathered) (sc := defScope s_gathered) (by decide +kernel)) (tg_name (by decide)) (fun _ _ _ _ _ => (pg_name (i := 2) sc_gathered.nd rfl (by first | exact Or.inl rfl | exact Or.inr rfl))) (fun _ _ _ _ _ => zts_nil) (fun _ _ _ _ _ => (ze_and (ze_call (ok_is_row T) (hr.mono (by decide)) T.g_is_row T.F_is_row.kp T.b_is_row takes0 wok0 (za_cons (ze_var 2) (za_cons (ze_glob (v := .int 64) rfl T.g_MOST_ROW.2 ⟨_, rfl⟩ (fun _ => .int _)) za_nil))) (ze_one (ze_cmp (op_neZ hr.units) snd_ne (ze_var 2) (ze_lst false za_nil) (by first | exact nobehind _ (by decide) (by decide) | rfl)))))) za_nil)))) (zss_one (zs_raise rfl (takes_of rfl rfl rfl rfl) wk PySem.F.excBase_ValueError T.x_BadRow T.g_BadRow T.k_BadRow T.r_BadRow))
  zss_nil)
  (zss_cons (zs_if (zt_w (zw_or (zt_not (zt_val (ze_call (ok_fits T) (hr.mono (by decide)) T.g_fits T.F_fits.kp T.b_fits (takes_of rfl rfl rfl rfl) wk (za_cons (ze_var 0) za_nil)))) (zw_or1 (zt_not (zt_val (ze_cb (cr_all rfl) snd_all T.n_all (by decide +kernel) (za_cons (ze_lc (own := [("row", 2)]) false rfl sc_gathered.nd (zi_list (ze_var 0)) (blkOk_by (N := N_gathered) (sc := defScope s_gathered) (by decide +kernel)) (tg_name (by decide)) (fun _ _ _ _ _ => (pg_name (i := 2) sc_gathered.nd rfl (by first | exact Or.inl rfl | exact Or.inr rfl))) (fun _ _ _ _ _ => zts_nil) (fun _ _ _ _ _ => (ze_cmp (op_eqZ hr.units) snd_eq (ze_ix (ze_var 2) ze_int (fun _ _ => rfl)) (ze_ix (ze_ix (ze_var 0) ze_int (fun _ _ => rfl)) ze_int (fun _ _ => rfl)) (by first | exact nobehind _ (by decide) (by decide) | rfl)))) za_nil))))))) (zss_one (zs_raise rfl (takes_of rfl rfl rfl rfl) wk PySem.F.excBase_ValueError T.x_BadLane T.g_BadLane T.k_BadLane T.r_BadLane))
  zss_nil)
  (zss_cons (zs_set (i := 1) sc_gathered.nd (ze_cb (cr_sum rfl) snd_sum T.n_sum (by decide +kernel) (za_cons (ze_lc (own := [("row", 2)]) false rfl sc_gathered.nd (zi_list (ze_var 0)) (blkOk_by (N := N_gathered) (sc := defScope s_gathered) (by decide +kernel)) (tg_name (by decide)) (fun _ _ _ _ _ => (pg_name (i := 2) sc_gathered.nd rfl (by first | exact Or.inl rfl | exact Or.inr rfl))) (fun _ _ _ _ _ => zts_nil) (fun _ _ _ _ _ => (ze_sub (ze_cb call_len snd_len T.n_len (by decide +kernel) (za_cons (ze_var 2) za_nil)) ze_int))) za_nil)))
  (zss_one (zs_ret (ze_tup (za_cons (ze_ix (ze_ix (ze_var 0) ze_int (fun _ _ => rfl)) ze_int (fun _ _ => rfl)) (za_cons (ze_any (ze_lc (own := [("k", 3)]) false rfl sc_gathered.nd (zi_range1 T.n_range (za_cons (ze_var 1) za_nil)) (blkOk_by (N := N_gathered) (sc := defScope s_gathered) (by decide +kernel)) (tg_name (by decide)) (fun _ _ _ _ _ => (pg_name (i := 3) sc_gathered.nd rfl (by first | exact Or.inl rfl | exact Or.inr rfl))) (fun _ _ _ _ _ => zts_nil) (fun _ _ _ _ _ => (ze_ix (ze_ix (ze_var 0) (ze_mod (ze_var 3) (ze_cb call_len snd_len T.n_len (by decide +kernel) (za_cons (ze_var 0) za_nil))) (fun _ _ => rfl)) (ze_add false ze_int (ze_div (ze_var 3) (ze_cb call_len snd_len T.n_len (by decide +kernel) (za_cons (ze_var 0) za_nil)))) (fun _ _ => rfl)))) (ze_lc (own := [("k", 3)]) true rfl sc_gathered.nd (zi_range1 T.n_range (za_cons (ze_var 1) za_nil)) (blkOk_by (N := N_gathered) (sc := defScope s_gathered) (by decide +kernel)) (tg_name (by decide)) (fun _ _ _ _ _ => (pg_name (i := 3) sc_gathered.nd rfl (by first | exact Or.inl rfl | exact Or.inr rfl))) (fun _ _ _ _ _ => zts_nil) (fun _ _ _ _ _ => (ze_ix (ze_ix (ze_var 0) (ze_mod (ze_var 3) (ze_cb call_len snd_len T.n_len (by decide +kernel) (za_cons (ze_var 0) za_nil))) (fun _ _ => rfl)) (ze_add false ze_int (ze_div (ze_var 3) (ze_cb call_len snd_len T.n_len (by decide +kernel) (za_cons (ze_var 0) za_nil)))) (fun _ _ => rfl))))) za_nil)))))))))
theorem ok_Lanes___init__ (T : Tx K mg) : FnOk P w K mg base (L2.CX P w) 3 T.f_Lanes___init__ T.d_Lanes___init__ p_Lanes___init__ (liftSp K mg z_Lanes___init__) :=
  z_ok false (k := 2) (zb := zb_Lanes___init__) T.F_Lanes___init__ sc_Lanes___init__ (n := 1) rfl (fun ds M R RE h => by
    unfold z_Lanes___init__ at h
    split at h
    · exact ⟨rfl, h⟩
    · exact h.elim)
  fun cdv A outer s H E F0 zE hr wk => (zss_cons (zs_expr (ze_call (ok_look_many T) (hr.mono (by decide)) T.g_look_many T.F_look_many.kp T.b_look_many (takes_of rfl rfl rfl rfl) wk (za_cons (ze_var 1) za_nil)))
  (zss_cons (zs_setA T.g_Lanes T.l_Lanes (naB_ok T.a_Lanes (by decide +kernel)) (ze_var 0) (ze_lc (own := [("lane", 2)]) false rfl sc_Lanes___init__.nd (zi_range1 T.n_range (za_cons (ze_var 1) za_nil)) (blkOk_by (N := N_Lanes___init__) (sc := defScope s_Lanes___init__) (by decide +kernel)) (tg_name (by decide)) (fun _ _ _ _ _ => (pg_name (i := 2) sc_Lanes___init__.nd rfl (by first | exact Or.inl rfl | exact Or.inr rfl))) (fun _ _ _ _ _ => zts_nil) (fun _ _ _ _ _ => (ze_lst true za_nil))))
  (zss_one (zs_setA T.g_Lanes T.l_Lanes (naB_ok T.a_Lanes (by decide +kernel)) (ze_var 0) ze_int))))
theorem ok_Lanes_drop_late (T : Tx K mg) : FnOk P w K mg base (L2.CX P w) 1 T.f_Lanes_drop_late T.d_Lanes_drop_late p_Lanes_drop_late (liftSp K mg z_Lanes_drop_late) :=
  z_ok true (k := 0) (zb := zb_Lanes_drop_late) T.F_Lanes_drop_late sc_Lanes_drop_late (n := 1) rfl (fun ds M R RE h => by
    unfold z_Lanes_drop_late at h
    split at h
    · exact ⟨rfl, h⟩
    · exact h.elim)
  fun cdv A outer s H E F0 zE hr wk => (zss_one (zs_for (passes_of rfl) rfl (zi_list (ze_fld T.g_Lanes T.l_Lanes (naB_ok T.a_Lanes (by decide +kernel)) (ze_var 0))) (zg_name (i := 1) sc_Lanes_drop_late.nd) (zss_one (zs_while (passes_of rfl) (zt_w (zw_and (zt_cmp (op_neZ hr.units) snd_ne (ze_var 1) (ze_lst false za_nil) (by first | exact nobehind _ (by decide) (by decide) | rfl)) (zw_and1 (zt_cmp op_ge (sndB0 (g := pGe)) (ze_mod (ze_sub (ze_ix (ze_ix (ze_var 1) ze_int (fun _ _ => rfl)) ze_int (fun _ _ => rfl)) (ze_fld T.g_Lanes T.l_Lanes (naB_ok T.a_Lanes (by decide +kernel)) (ze_var 0))) (ze_glob (v := .int 256) rfl T.g_TURNS.2 ⟨_, rfl⟩ (fun _ => .int _))) (ze_glob (v := .int 128) rfl T.g_LATE.2 ⟨_, rfl⟩ (fun _ => .int _)) (by first | exact nobehind _ (by decide) (by decide) | rfl))))) (zss_one (zs_expr (ze_mL PySem.F.plainAttrs_list PySem.F.slot_list_pop PySem.F.type_list_pop mt_popAt snd_popAt (ze_var 1) (za_cons ze_int za_nil))))))))
theorem ok_Lanes_one (T : Tx K mg) : FnOk P w K mg base (L2.CX P w) 4 T.f_Lanes_one T.d_Lanes_one p_Lanes_one (liftSp K mg z_Lanes_one) :=
  z_ok true (k := 3) (zb := zb_Lanes_one) T.F_Lanes_one sc_Lanes_one (n := 6) rfl (fun ds M R RE h => by
    unfold z_Lanes_one at h
    split at h
    · exact ⟨rfl, h⟩
    · exact h.elim)
  fun cdv A outer s H E F0 zE hr wk => (zss_cons (zs_setLc (own := [("waiting", 4)]) (i := 1) false rfl sc_Lanes_one.nd (sw_true rfl rfl rfl (by decide +kernel)) (zi_list (ze_fld T.g_Lanes T.l_Lanes (naB_ok T.a_Lanes (by decide +kernel)) (ze_var 0))) (blkOk_by (N := N_Lanes_one) (sc := defScope s_Lanes_one) (by decide +kernel)) (tg_name (by decide)) (fun _ _ _ _ _ => (pg_name (i := 4) sc_Lanes_one.nd rfl (by first | exact Or.inl rfl | exact Or.inr rfl))) (fun _ _ _ _ _ => zts_nil) (fun _ _ _ _ _ => (ze_ix (ze_var 4) ze_int (fun _ _ => rfl))))
  (zss_cons (zs_set (i := 2) sc_Lanes_one.nd (ze_and (ze_cb (cr_all rfl) snd_all T.n_all (by decide +kernel) (za_cons (ze_lc (own := [("head", 6)]) false rfl sc_Lanes_one.nd (zi_list (ze_var 1)) (blkOk_by (N := N_Lanes_one) (sc := defScope s_Lanes_one) (by decide +kernel)) (tg_name (by decide)) (fun _ _ _ _ _ => (pg_name (i := 6) sc_Lanes_one.nd rfl (by first | exact Or.inl rfl | exact Or.inr rfl))) (fun _ _ _ _ _ => zts_nil) (fun _ _ _ _ _ => (ze_cmp (op_eqZ hr.units) snd_eq (ze_ix (ze_var 6) ze_int (fun _ _ => rfl)) (ze_fld T.g_Lanes T.l_Lanes (naB_ok T.a_Lanes (by decide +kernel)) (ze_var 0)) (by first | exact nobehind _ (by decide) (by decide) | rfl)))) za_nil)) (ze_one (ze_call (ok_fits T) (hr.mono (by decide)) T.g_fits T.F_fits.kp T.b_fits (takes_of rfl rfl rfl rfl) wk (za_cons (ze_var 1) za_nil)))))
  (zss_cons (zs_set (i := 3) sc_Lanes_one.nd (ze_lst true za_nil))
  (zss_cons (zs_for (passes_of rfl) rfl (zi_list (ze_fld T.g_Lanes T.l_Lanes (naB_ok T.a_Lanes (by decide +kernel)) (ze_var 0))) (zg_name (i := 4) sc_Lanes_one.nd) (zss_one (zs_if (zt_cmp (op_eqZ hr.units) snd_eq (ze_ix (ze_ix (ze_var 4) ze_int (fun _ _ => rfl)) ze_int (fun _ _ => rfl)) (ze_fld T.g_Lanes T.l_Lanes (naB_ok T.a_Lanes (by decide +kernel)) (ze_var 0)) (by first | exact nobehind _ (by decide) (by decide) | rfl)) (zss_one (zs_expr (ze_mL PySem.F.plainAttrs_list PySem.F.slot_list_append PySem.F.type_list_append mt_append snd_app (ze_var 3) (za_cons (ze_mL PySem.F.plainAttrs_list PySem.F.slot_list_pop PySem.F.type_list_pop mt_popAt snd_popAt (ze_var 4) (za_cons ze_int za_nil)) za_nil))))
  zss_nil)))
  (zss_cons (zs_gh (zs_set (i := 5) sc_Lanes_one.nd (ze_fld T.g_Lanes T.l_Lanes (naB_ok T.a_Lanes (by decide +kernel)) (ze_var 0))))
  (zss_cons (zs_setA T.g_Lanes T.l_Lanes (naB_ok T.a_Lanes (by decide +kernel)) (ze_var 0) (ze_mod (ze_add false (ze_var 5) ze_int) (ze_glob (v := .int 256) rfl T.g_TURNS.2 ⟨_, rfl⟩ (fun _ => .int _))))
  (zss_one (zs_ret (ze_if (zt_val (ze_var 2)) (ze_lst true (za_cons (ze_tup (za_cons ze_str (za_cons (ze_var 5) (za_cons (ze_ix (ze_call (ok_gathered T) (hr.mono (by decide)) T.g_gathered T.F_gathered.kp T.b_gathered (takes_of rfl rfl rfl rfl) wk (za_cons (ze_var 3) za_nil)) ze_int (fun _ _ => rfl)) za_nil)))) za_nil)) (ze_lst true (za_cons (ze_tup (za_cons ze_str (za_cons (ze_var 5) (za_cons (ze_lst false za_nil) za_nil)))) za_nil)))))))))))
theorem ok_Lanes_due (T : Tx K mg) : FnOk P w K mg base (L2.CX P w) 1 T.f_Lanes_due T.d_Lanes_due p_Lanes_due (liftSp K mg z_Lanes_due) :=
  z_ok false (k := 0) (zb := zb_Lanes_due) T.F_Lanes_due sc_Lanes_due (n := 0) rfl (fun ds M R RE h => by
    unfold z_Lanes_due at h
    split at h
    · exact ⟨rfl, h⟩
    · exact h.elim)
  fun cdv A outer s H E F0 zE hr wk => (zss_one (zs_ret (ze_fld T.g_Lanes T.l_Lanes (naB_ok T.a_Lanes (by decide +kernel)) (ze_var 0))))
theorem ok_Lanes_held (T : Tx K mg) : FnOk P w K mg base (L2.CX P w) 1 T.f_Lanes_held T.d_Lanes_held p_Lanes_held (liftSp K mg z_Lanes_held) :=
  z_ok true (k := 0) (zb := zb_Lanes_held) T.F_Lanes_held sc_Lanes_held (n := 1) rfl (fun ds M R RE h => by
    unfold z_Lanes_held at h
    split at h
    · exact ⟨rfl, h⟩
    · exact h.elim)
  fun cdv A outer s H E F0 zE hr wk => (zss_one (zs_ret (ze_lc (own := [("waiting", 1)]) true rfl sc_Lanes_held.nd (zi_list (ze_fld T.g_Lanes T.l_Lanes (naB_ok T.a_Lanes (by decide +kernel)) (ze_var 0))) (blkOk_by (N := N_Lanes_held) (sc := defScope s_Lanes_held) (by decide +kernel)) (tg_name (by decide)) (fun _ _ _ _ _ => (pg_name (i := 1) sc_Lanes_held.nd rfl (by first | exact Or.inl rfl | exact Or.inr rfl))) (fun _ _ _ _ _ => zts_nil) (fun _ _ _ _ _ => (ze_cb call_len snd_len T.n_len (by decide +kernel) (za_cons (ze_var 1) za_nil))))))
theorem ok__law_town (T : Tx K mg) : FnOk P w K mg base (L2.CX P w) 1 T.f__law_town T.d__law_town p__law_town (liftSp K mg z__law_town) := by
  refine T.F__law_town.okX sc__law_town (fun vs H Q E h => ?_) (fun cdv A outer s H vs Q E hr h => ?_)
  · obtain ⟨F, M, ds, R, RE, w, rl, h, _⟩ := h
    unfold z__law_town at h
    split at h
    · exact rl.length
    · exact h.elim
  · obtain ⟨F, M, ds, R, RE, w, rl, h, kq, kx⟩ := h
    unfold z__law_town at h
    split at h
    · cases rl with
      | cons r1 rl =>
        cases rl
        cases r1 with
        | scr sq sl =>
          rename_i ns a
          have sqH : SqL K H a (ns.map V.int) := Same.seq w.same sq
          refine ⟨_, pss_one (ps_ret (pe_lst (pa_cons (pe_ifExp (pt_cmpR (op_neZ hr.units) (pv 0) (pe_lst pa_nil) (nomark _)) (pe_callTy call_list_of (by rfl) T.n_list (by decide +kernel) (pa_cons (pv 0) pa_nil)) (pe_lst (pa_cons pe_int pa_nil))) (pa_cons pe_int pa_nil)))), ?_⟩
          refine ⟨_, rfl, Nat.zero_le _, fun e he => ?_⟩
          have fin : ∀ {H1 : Hp} {c : Addr} {cells : List Int}, Wd K mg F H1 M → H1 c = none → cells ≠ [] → cellsOk cells → ([V.ref c, V.int 0].length ≤ sizeLine ∧ ∀ p, upd H1 c (.lst (cells.map V.int)) p = none → Q (.ref p) (upd (upd H1 c (.lst (cells.map V.int))) p (.lst [.ref c, .int 0]))) := fun {H1 c cells} w1 hc ne ln => by
            refine ⟨by show 2 ≤ sizeLine; decide, fun p hp => ?_⟩
            obtain ⟨w2, mt⟩ := Wd.town_new (n := 0) h.1 ne ln hc hp w1
            exact kq _ _ (h.2 p mt) F _ _ (Le.refl F) w2 (.ref p)
          have same1 : Same H (upd H e (.lst [])) := same_upd he
          have w1 : Wd K mg F (upd H e (.lst [])) M := by
            have q := w.laidM (p := e) (o := .lst []) (m := .lst []) he (by intro z; cases z) ⟨[], upd_same, Nat.zero_le _, .nil⟩
            refine q.drop fun b m z => ?_
            rw [mup_ne (ne_of_m z (w.free he).1)]; exact z
          refine ⟨toP (.lst (ns.map D.int)), toP (.lst []), ?_, .lst (SqL.of upd_same) .nil, ?_, rfl, .inr (by decide), ?_⟩
          · exact .lst (same1.seq sqH) (RepL.dp (K := K) (mg := mg) (F := ⟨H, H⟩) (H := upd H e (.lst [])) same1 (plains_ints ns) (RepL.ints ns))
          · exact RepL.lay (K := K) (mg := mg) (F := F) (RepL.ints ns) |> fun z => by simpa [toP, PyData.canLay0] using z
          · refine ⟨_, rfl, ?_⟩
            cases ns with
            | nil =>
              have e0 : (!PyData.eqv (toP (.lst (([] : List Int).map D.int))) (toP (.lst []))) = false := by decide
              rw [e0]
              refine iteF ?_
              refine ⟨by show 1 ≤ sizeLine; decide, fun c hc => ?_⟩
              exact fin (cells := [0]) w1 hc (by simp) (by unfold cellsOk; decide)
            | cons n r =>
              have e0 : (!PyData.eqv (toP (.lst ((n :: r).map D.int))) (toP (.lst []))) = true := rfl
              rw [e0]
              refine iteT ?_
              refine ⟨_, rfl, a, _, rfl, .inl (same1.seq sqH), fun c hc => ?_⟩
              exact fin (cells := n :: r) w1 hc (by simp) sl
    · exact h.elim
theorem ok0__law_draw (T : Tx K mg) : FnOk P w K mg base (L2.CX P w) 1 T.f__law_draw T.d__law_draw p__law_draw (liftSp K mg z0__law_draw) :=
  z_ok true (k := 0) (zb := zb__law_draw) T.F__law_draw sc__law_draw (n := 4) rfl (fun ds M R RE h => by
    unfold z0__law_draw at h
    split at h
    · exact ⟨rfl, h⟩
    · exact h.elim)
  fun cdv A outer s H E F0 zE hr wk => (zss_cons (zs_set (i := 2) sc__law_draw.nd (ze_ix (ze_var 0) ze_int (fun _ _ => rfl)))
  (zss_cons (zs_asg (ze_add false (ze_ix (ze_var 0) ze_int (fun _ _ => rfl)) ze_int) (zg_sub (ze_var 0) ze_int))
  (zss_cons (zs_set (i := 3) sc__law_draw.nd (ze_mod (ze_ix (ze_var 0) ze_int (fun _ _ => rfl)) (ze_cb call_len snd_len T.n_len (by decide +kernel) (za_cons (ze_var 2) za_nil))))
  (zss_cons (zs_set (i := 4) sc__law_draw.nd (ze_ix (ze_var 2) (ze_var 3) (fun _ _ => rfl)))
  (zss_cons (zs_if (zt_cmp op_ge (sndB0 (g := pGe)) (ze_var 4) ze_int (by first | exact nobehind _ (by decide) (by decide) | rfl)) (zss_cons (zs_asg (ze_div (ze_var 4) (ze_var 1)) (zg_sub (ze_var 2) (ze_var 3)))
  (zss_one (zs_ret (ze_mod (ze_var 4) (ze_var 1)))))
  zss_nil)
  (zss_cons (zs_set (i := 5) sc__law_draw.nd (ze_mod (ze_add false (ze_var 4) (ze_mul false ze_int (ze_ix (ze_var 0) ze_int (fun _ _ => rfl)))) ze_int))
  (zss_cons (zs_set (i := 5) sc__law_draw.nd (ze_mod (ze_pow (ze_var 5) ze_int) ze_int))
  (zss_one (zs_ret (ze_mod (ze_div (ze_mod (ze_add false (ze_mul false (ze_div (ze_var 5) ze_int) ze_int) (ze_var 5)) ze_int) ze_int) (ze_var 1)))))))))))
theorem ok__law_draw (T : Tx K mg) : FnOk P w K mg base (L2.CX P w) 1 T.f__law_draw T.d__law_draw p__law_draw (liftSp K mg z__law_draw) := by
  refine FnOk.imp (ok0__law_draw T) fun vs H Q E h => ?_
  obtain ⟨F, M, ds, R, RE, w, rl, h, kq, kx⟩ := h
  unfold z__law_draw at h
  split at h
  · obtain ⟨h1, h2, h3, h4⟩ := h
    obtain ⟨c, n, cells, T, w2⟩ := w.town_out h1
    refine ⟨F, _, _, fun d M' => ∃ n' cells', cells' ≠ [] ∧ cellsOk cells' ∧ M' = tOpen M _ c n' cells' ∧ R d M, fun _ _ _ => False, w2, rl, draw0 T h2 h3 fun k m cs hk hk2 hc hl => ⟨m, cs, hc, hl, rfl, h4 k hk hk2⟩, fun d M' hd F' H' v s1 w3 r1 => ?_, fun _ _ _ z => z.elim⟩
    obtain ⟨n', cells', ne, ln, rfl, hR⟩ := hd
    exact kq d M hR F' H' v s1 (w3.town_in T ne ln) r1
  · exact h.elim
theorem ok__law_pick (T : Tx K mg) : FnOk P w K mg base (L2.CX P w) 2 T.f__law_pick T.d__law_pick p__law_pick (liftSp K mg z__law_pick) :=
  z_ok false (k := 1) (zb := zb__law_pick) T.F__law_pick sc__law_pick (n := 0) rfl (fun ds M R RE h => by
    unfold z__law_pick at h
    split at h
    · exact ⟨rfl, h⟩
    · exact h.elim)
  fun cdv A outer s H E F0 zE hr wk => (zss_one (zs_ret (ze_ix (ze_var 1) (ze_call (ok__law_draw T) (hr.mono (by decide)) T.g__law_draw T.F__law_draw.kp T.b__law_draw (takes_of rfl rfl rfl rfl) wk (za_cons (ze_var 0) (za_cons (ze_cb call_len snd_len T.n_len (by decide +kernel) (za_cons (ze_var 1) za_nil)) za_nil))) (fun _ _ => rfl))))
theorem ok__law_ten (T : Tx K mg) : FnOk P w K mg base (L2.CX P w) 1 T.f__law_ten T.d__law_ten p__law_ten (liftSp K mg z__law_ten) :=
  z_ok false (k := 0) (zb := zb__law_ten) T.F__law_ten sc__law_ten (n := 1) rfl (fun ds M R RE h => by
    unfold z__law_ten at h
    split at h
    · exact ⟨rfl, h⟩
    · exact h.elim)
  fun cdv A outer s H E F0 zE hr wk => (zss_one (zs_ret (ze_lc (own := [("by", 1)]) false rfl sc__law_ten.nd (zi_list (ze_lst false (za_cons ze_int (za_cons ze_int (za_cons ze_int (za_cons ze_int (za_cons ze_int (za_cons ze_int (za_cons ze_int (za_cons ze_int (za_cons ze_int (za_cons ze_int za_nil)))))))))))) (blkOk_by (N := N__law_ten) (sc := defScope s__law_ten) (by decide +kernel)) (tg_name (by decide)) (fun _ _ _ _ _ => (pg_name (i := 1) sc__law_ten.nd rfl (by first | exact Or.inl rfl | exact Or.inr rfl))) (fun _ _ _ _ _ => zts_nil) (fun _ _ _ _ _ => (ze_mod (ze_div (ze_var 0) (ze_var 1)) ze_int)))))
theorem ok__law_some_bits (T : Tx K mg) : FnOk P w K mg base (L2.CX P w) 3 T.f__law_some_bits T.d__law_some_bits p__law_some_bits (liftSp K mg z__law_some_bits) :=
  z_ok false (k := 2) (zb := zb__law_some_bits) T.F__law_some_bits sc__law_some_bits (n := 3) rfl (fun ds M R RE h => by
    unfold z__law_some_bits at h
    split at h
    · exact ⟨rfl, h⟩
    · exact h.elim)
  fun cdv A outer s H E F0 zE hr wk => (zss_cons (zs_set (i := 2) sc__law_some_bits.nd (ze_lst false za_nil))
  (zss_cons (zs_set (i := 3) sc__law_some_bits.nd (ze_call (ok__law_draw T) (hr.mono (by decide)) T.g__law_draw T.F__law_draw.kp T.b__law_draw (takes_of rfl rfl rfl rfl) wk (za_cons (ze_var 0) (za_cons (ze_add false (ze_var 1) ze_int) za_nil))))
  (zss_cons (zs_while (passes_of rfl) (zt_cmp op_lt (sndB0 (g := pLt)) (ze_cb call_len snd_len T.n_len (by decide +kernel) (za_cons (ze_var 2) za_nil)) (ze_var 3) (by first | exact nobehind _ (by decide) (by decide) | rfl)) (zss_cons (zs_set (i := 4) sc__law_some_bits.nd (ze_call (ok__law_draw T) (hr.mono (by decide)) T.g__law_draw T.F__law_draw.kp T.b__law_draw (takes_of rfl rfl rfl rfl) wk (za_cons (ze_var 0) (za_cons ze_int za_nil))))
  (zss_one (zs_if (zt_cmp (op_eqZ hr.units) snd_eq (ze_var 4) ze_int (by first | exact nobehind _ (by decide) (by decide) | rfl)) (zss_one (zs_set (i := 2) sc__law_some_bits.nd (ze_add false (ze_var 2) (ze_call (ok__law_pick T) (hr.mono (by decide)) T.g__law_pick T.F__law_pick.kp T.b__law_pick (takes_of rfl rfl rfl rfl) wk (za_cons (ze_var 0) (za_cons (ze_lst false (za_cons (ze_lst false (za_cons ze_int (za_cons ze_int (za_cons ze_int (za_cons ze_int (za_cons ze_int (za_cons ze_int (za_cons ze_int za_nil)))))))) (za_cons (ze_lst false (za_cons ze_int (za_cons ze_int (za_cons ze_int (za_cons ze_int (za_cons ze_int (za_cons ze_int (za_cons ze_int za_nil)))))))) za_nil))) za_nil))))))
  (zss_one (zs_if (zt_cmp (op_eqZ hr.units) snd_eq (ze_var 4) ze_int (by first | exact nobehind _ (by decide) (by decide) | rfl)) (zss_one (zs_set (i := 2) sc__law_some_bits.nd (ze_add false (ze_var 2) (ze_mul false (ze_lst false (za_cons (ze_call (ok__law_draw T) (hr.mono (by decide)) T.g__law_draw T.F__law_draw.kp T.b__law_draw (takes_of rfl rfl rfl rfl) wk (za_cons (ze_var 0) (za_cons ze_int za_nil))) za_nil)) (ze_add false ze_int (ze_call (ok__law_draw T) (hr.mono (by decide)) T.g__law_draw T.F__law_draw.kp T.b__law_draw (takes_of rfl rfl rfl rfl) wk (za_cons (ze_var 0) (za_cons ze_int za_nil))))))))
  (zss_one (zs_if (zt_cmp (op_eqZ hr.units) snd_eq (ze_var 4) ze_int (by first | exact nobehind _ (by decide) (by decide) | rfl)) (zss_one (zs_set (i := 2) sc__law_some_bits.nd (ze_add false (ze_var 2) (ze_call (ok__law_ten T) (hr.mono (by decide)) T.g__law_ten T.F__law_ten.kp T.b__law_ten (takes_of rfl rfl rfl rfl) wk (za_cons (ze_call (ok__law_pick T) (hr.mono (by decide)) T.g__law_pick T.F__law_pick.kp T.b__law_pick (takes_of rfl rfl rfl rfl) wk (za_cons (ze_var 0) (za_cons (ze_lst false (za_cons ze_int (za_cons ze_int (za_cons ze_int (za_cons ze_int (za_cons ze_int (za_cons ze_int za_nil))))))) za_nil))) za_nil)))))
  (zss_one (zs_set (i := 2) sc__law_some_bits.nd (ze_add false (ze_var 2) (ze_sl false (ze_call (ok__law_ten T) (hr.mono (by decide)) T.g__law_ten T.F__law_ten.kp T.b__law_ten (takes_of rfl rfl rfl rfl) wk (za_cons (ze_call (ok__law_draw T) (hr.mono (by decide)) T.g__law_draw T.F__law_draw.kp T.b__law_draw (takes_of rfl rfl rfl rfl) wk (za_cons (ze_var 0) (za_cons ze_int za_nil))) za_nil)) (zo_some (ze_call (ok__law_draw T) (hr.mono (by decide)) T.g__law_draw T.F__law_draw.kp T.b__law_draw (takes_of rfl rfl rfl rfl) wk (za_cons (ze_var 0) (za_cons ze_int za_nil)))) zo_none))))))))))))
  (zss_one (zs_ret (ze_sl false (ze_var 2) zo_none (zo_some (ze_var 3))))))))
theorem ok__law_byte (T : Tx K mg) : FnOk P w K mg base (L2.CX P w) 3 T.f__law_byte T.d__law_byte p__law_byte (liftSp K mg z__law_byte) :=
  z_ok false (k := 2) (zb := zb__law_byte) T.F__law_byte sc__law_byte (n := 1) rfl (fun ds M R RE h => by
    unfold z__law_byte at h
    split at h
    · exact ⟨rfl, h⟩
    · exact h.elim)
  fun cdv A outer s H E F0 zE hr wk => (zss_cons (zs_set (i := 1) sc__law_byte.nd (ze_call (ok__law_draw T) (hr.mono (by decide)) T.g__law_draw T.F__law_draw.kp T.b__law_draw (takes_of rfl rfl rfl rfl) wk (za_cons (ze_var 0) (za_cons ze_int za_nil))))
  (zss_cons (zs_if (zt_cmp (op_eqZ hr.units) snd_eq (ze_var 1) ze_int (by first | exact nobehind _ (by decide) (by decide) | rfl)) (zss_one (zs_ret (ze_call (ok__law_pick T) (hr.mono (by decide)) T.g__law_pick T.F__law_pick.kp T.b__law_pick (takes_of rfl rfl rfl rfl) wk (za_cons (ze_var 0) (za_cons (ze_lst false (za_cons ze_int (za_cons ze_int (za_cons ze_int (za_cons ze_int (za_cons ze_int (za_cons ze_int (za_cons ze_int (za_cons ze_int za_nil))))))))) za_nil)))))
  zss_nil)
  (zss_one (zs_ret (ze_if (zt_cmp op_lt (sndB0 (g := pLt)) (ze_var 1) ze_int (by first | exact nobehind _ (by decide) (by decide) | rfl)) (ze_add false ze_int (ze_call (ok__law_draw T) (hr.mono (by decide)) T.g__law_draw T.F__law_draw.kp T.b__law_draw (takes_of rfl rfl rfl rfl) wk (za_cons (ze_var 0) (za_cons ze_int za_nil)))) (ze_call (ok__law_draw T) (hr.mono (by decide)) T.g__law_draw T.F__law_draw.kp T.b__law_draw (takes_of rfl rfl rfl rfl) wk (za_cons (ze_var 0) (za_cons ze_int za_nil))))))))
theorem ok__law_gap (T : Tx K mg) : FnOk P w K mg base (L2.CX P w) 3 T.f__law_gap T.d__law_gap p__law_gap (liftSp K mg z__law_gap) :=
  z_ok false (k := 2) (zb := zb__law_gap) T.F__law_gap sc__law_gap (n := 1) rfl (fun ds M R RE h => by
    unfold z__law_gap at h
    split at h
    · exact ⟨rfl, h⟩
    · exact h.elim)
  fun cdv A outer s H E F0 zE hr wk => (zss_one (zs_ret (ze_lc (own := [("k", 1)]) false rfl sc__law_gap.nd (zi_range1 T.n_range (za_cons (ze_call (ok__law_pick T) (hr.mono (by decide)) T.g__law_pick T.F__law_pick.kp T.b__law_pick (takes_of rfl rfl rfl rfl) wk (za_cons (ze_var 0) (za_cons (ze_lst false (za_cons ze_int (za_cons ze_int (za_cons ze_int (za_cons ze_int za_nil))))) za_nil))) za_nil)) (blkOk_by (N := N__law_gap) (sc := defScope s__law_gap) (by decide +kernel)) (tg_name (by decide)) (fun _ _ _ _ _ => (pg_name (i := 1) sc__law_gap.nd rfl (by first | exact Or.inl rfl | exact Or.inr rfl))) (fun _ _ _ _ _ => zts_nil) (fun _ _ _ _ _ => (ze_call (ok__law_pick T) (hr.mono (by decide)) T.g__law_pick T.F__law_pick.kp T.b__law_pick takes0 wok0 (za_cons (ze_var 0) (za_cons (ze_lst false (za_cons ze_str (za_cons ze_str (za_cons ze_str za_nil)))) za_nil)))))))
theorem ok_Reader_found (T : Tx K mg) : FnOk P w K mg base (L2.CX P w) 4 T.f_Reader_found T.d_Reader_found p_Reader_found (liftSp K mg z_Reader_found) :=
  z_ok true (k := 3) (zb := zb_Reader_found) T.F_Reader_found sc_Reader_found (n := 2) rfl (fun ds M R RE h => by
    unfold z_Reader_found at h
    split at h
    · exact ⟨rfl, h⟩
    · exact h.elim)
  fun cdv A outer s H E F0 zE hr wk => (zss_cons (zs_set (i := 1) sc_Reader_found.nd (ze_lst true za_nil))
  (zss_cons (zs_if (zt_w (zw_and (zt_cmp (op_inT (units65 hr)) snd_inT (ze_ct call_tuple_of snd_tuple T.n_tuple (by decide +kernel) (za_cons (ze_fld T.g_Reader T.l_Reader (naB_ok T.a_Reader (by decide +kernel)) (ze_var 0)) za_nil)) (ze_glob (v := .ref T.a_SIGNS) rfl T.g_SIGNS rfl (ktup_rep T.k_SIGNS (fun F => (.cons (ktup_rep T.k0_SIGNS (fun _ => RepL.ints _) F) (.cons (ktup_rep T.k1_SIGNS (fun _ => RepL.ints _) F) .nil))))) (by first | exact nobehind _ (by decide) (by decide) | rfl)) (zw_and1 (zt_w (zw_or (zt_cmp (OpR.or op_isN op_isBl) snd_is (ze_fld T.g_Reader T.l_Reader (naB_ok T.a_Reader (by decide +kernel)) (ze_var 0)) ze_non (by first | exact nobehind _ (by decide) (by decide) | rfl)) (zw_or1 (zt_cmp (op_neZ hr.units) snd_ne (ze_cb call_len snd_len T.n_len (by decide +kernel) (za_cons (ze_fld T.g_Reader T.l_Reader (naB_ok T.a_Reader (by decide +kernel)) (ze_var 0)) za_nil)) (ze_cb call_len snd_len T.n_len (by decide +kernel) (za_cons (ze_fld T.g_Reader T.l_Reader (naB_ok T.a_Reader (by decide +kernel)) (ze_var 0)) za_nil)) (by first | exact nobehind _ (by decide) (by decide) | rfl)))))))) (zss_cons (zs_if (zt_cmp (OpR.or op_notN op_notBl) snd_isNot (ze_fld T.g_Reader T.l_Reader (naB_ok T.a_Reader (by decide +kernel)) (ze_var 0)) ze_non (by first | exact nobehind _ (by decide) (by decide) | rfl)) (zss_one (zs_expr (ze_mL PySem.F.plainAttrs_list PySem.F.slot_list_append PySem.F.type_list_append mt_append snd_app (ze_var 1) (za_cons (ze_glob (v := .str "lost") rfl T.g_LOST.2 ⟨_, rfl⟩ (fun _ => .str (by decide +kernel) (by decide +kernel))) za_nil))))
  zss_nil)
  (zss_cons (zs_setA T.g_Reader T.l_Reader (naB_ok T.a_Reader (by decide +kernel)) (ze_var 0) (ze_ct call_list_of (snd_list true) T.n_list (by decide +kernel) (za_cons (ze_fld T.g_Reader T.l_Reader (naB_ok T.a_Reader (by decide +kernel)) (ze_var 0)) za_nil)))
  (zss_one (zs_setA T.g_Reader T.l_Reader (naB_ok T.a_Reader (by decide +kernel)) (ze_var 0) ze_non))))
  zss_nil)
  (zss_cons (zs_if (zt_w (zw_and (zt_cmp (OpR.or op_notN op_notBl) snd_isNot (ze_fld T.g_Reader T.l_Reader (naB_ok T.a_Reader (by decide +kernel)) (ze_var 0)) ze_non (by first | exact nobehind _ (by decide) (by decide) | rfl)) (zw_and1 (zt_cmp (op_eqZ hr.units) snd_eq (ze_cb call_len snd_len T.n_len (by decide +kernel) (za_cons (ze_fld T.g_Reader T.l_Reader (naB_ok T.a_Reader (by decide +kernel)) (ze_var 0)) za_nil)) (ze_glob (v := .int 10) rfl T.g_LONG.2 ⟨_, rfl⟩ (fun _ => .int _)) (by first | exact nobehind _ (by decide) (by decide) | rfl))))) (zss_cons (zs_set (i := 2) sc_Reader_found.nd (ze_call (ok_word_of T) (hr.mono (by decide)) T.g_word_of T.F_word_of.kp T.b_word_of (takes_of rfl rfl rfl rfl) wk (za_cons (ze_fld T.g_Reader T.l_Reader (naB_ok T.a_Reader (by decide +kernel)) (ze_var 0)) za_nil)))
  (zss_cons (zs_setA T.g_Reader T.l_Reader (naB_ok T.a_Reader (by decide +kernel)) (ze_var 0) (ze_lst true za_nil))
  (zss_one (zs_expr (ze_mL PySem.F.plainAttrs_list PySem.F.slot_list_extend PySem.F.type_list_extend mt_extend snd_ext (ze_var 1) (za_cons (ze_meth T.g_Reader T.l_Reader T.m_Reader_heard (ok_Reader_heard T) (hr.mono (by decide)) T.b_Reader_heard (takes_of rfl rfl rfl rfl) wk (ze_var 0) (za_cons (ze_var 2) za_nil)) za_nil))))))
  zss_nil)
  (zss_one (zs_ret (ze_var 1))))))
theorem ok_Taker_take (T : Tx K mg) : FnOk P w K mg base (L2.CX P w) 7 T.f_Taker_take T.d_Taker_take p_Taker_take (liftSp K mg z_Taker_take) :=
  z_ok true (k := 6) (zb := zb_Taker_take) T.F_Taker_take sc_Taker_take (n := 2) rfl (fun ds M R RE h => by
    unfold z_Taker_take at h
    split at h
    · exact ⟨rfl, h⟩
    · exact h.elim)
  fun cdv A outer s H E F0 zE hr wk => (zss_cons (zs_if (zt_w (zw_or (zt_not (zt_val (ze_isi (T := "list") (ze_var 1) T.n_isinstance T.n_list (by decide +kernel)))) (zw_or1 (zt_not (zt_val (ze_cb (cr_all rfl) snd_all T.n_all (by decide +kernel) (za_cons (ze_lc (own := [("item", 3)]) false rfl sc_Taker_take.nd (zi_list (ze_var 1)) (blkOk_by (N := N_Taker_take) (sc := defScope s_Taker_take) (by decide +kernel)) (tg_name (by decide)) (fun _ _ _ _ _ => (pg_name (i := 3) sc_Taker_take.nd rfl (by first | exact Or.inl rfl | exact Or.inr rfl))) (fun _ _ _ _ _ => zts_nil) (fun _ _ _ _ _ => (ze_or (ze_cmp (op_eqZ hr.units) snd_eq (ze_var 3) (ze_glob (v := .str "lost") rfl T.g_LOST.2 ⟨_, rfl⟩ (fun _ => .str (by decide +kernel) (by decide +kernel))) (by first | exact nobehind _ (by decide) (by decide) | rfl)) (ze_one (ze_call (ok_is_item T) (hr.mono (by decide)) T.g_is_item T.F_is_item.kp T.b_is_item takes0 wok0 (za_cons (ze_var 3) za_nil)))))) za_nil))))))) (zss_one (zs_raise rfl (takes_of rfl rfl rfl rfl) wk PySem.F.excBase_ValueError T.x_BadItem T.g_BadItem T.k_BadItem T.r_BadItem))
  zss_nil)
  (zss_cons (zs_set (i := 2) sc_Taker_take.nd (ze_lst true za_nil))
  (zss_cons (zs_for (passes_of rfl) rfl (zi_list (ze_var 1)) (zg_name (i := 3) sc_Taker_take.nd) (zss_one (zs_expr (ze_mL PySem.F.plainAttrs_list PySem.F.slot_list_extend PySem.F.type_list_extend mt_extend snd_ext (ze_var 2) (za_cons (ze_meth T.g_Taker T.l_Taker T.m_Taker_took (ok_Taker_took T) (hr.mono (by decide)) T.b_Taker_took (takes_of rfl rfl rfl rfl) wk (ze_var 0) (za_cons (ze_var 3) za_nil)) za_nil)))))
  (zss_one (zs_ret (ze_var 2))))))
theorem ok_Joiner_take (T : Tx K mg) : FnOk P w K mg base (L2.CX P w) 4 T.f_Joiner_take T.d_Joiner_take p_Joiner_take (liftSp K mg z_Joiner_take) :=
  z_ok true (k := 3) (zb := zb_Joiner_take) T.F_Joiner_take sc_Joiner_take (n := 2) rfl (fun ds M R RE h => by
    unfold z_Joiner_take at h
    split at h
    · exact ⟨rfl, h⟩
    · exact h.elim)
  fun cdv A outer s H E F0 zE hr wk => (zss_cons (zs_expr (ze_call (ok_look_row T) (hr.mono (by decide)) T.g_look_row T.F_look_row.kp T.b_look_row (takes_of rfl rfl rfl rfl) wk (za_cons (ze_var 1) (za_cons (ze_glob (v := .int 64) rfl T.g_MOST_ROW.2 ⟨_, rfl⟩ (fun _ => .int _)) za_nil))))
  (zss_cons (zs_if (zt_not (zt_val (ze_call (ok_is_part T) (hr.mono (by decide)) T.g_is_part T.F_is_part.kp T.b_is_part (takes_of rfl rfl rfl rfl) wk (za_cons (ze_var 1) za_nil)))) (zss_cons (zs_setA T.g_Joiner T.l_Joiner (naB_ok T.a_Joiner (by decide +kernel)) (ze_var 0) (ze_lst true za_nil))
  (zss_one (zs_ret ze_non)))
  zss_nil)
  (zss_cons (zs_if (zt_cmp (op_eqZ hr.units) snd_eq (ze_ix (ze_var 1) ze_int (fun _ _ => rfl)) ze_int (by first | exact nobehind _ (by decide) (by decide) | rfl)) (zss_one (zs_setA T.g_Joiner T.l_Joiner (naB_ok T.a_Joiner (by decide +kernel)) (ze_var 0) (ze_lst true za_nil)))
  (zss_one (zs_if (zt_not (zt_val (ze_meth T.g_Joiner T.l_Joiner T.m_Joiner_goes_on (ok_Joiner_goes_on T) (hr.mono (by decide)) T.b_Joiner_goes_on (takes_of rfl rfl rfl rfl) wk (ze_var 0) (za_cons (ze_var 1) za_nil)))) (zss_cons (zs_setA T.g_Joiner T.l_Joiner (naB_ok T.a_Joiner (by decide +kernel)) (ze_var 0) (ze_lst true za_nil))
  (zss_one (zs_ret ze_non)))
  zss_nil)))
  (zss_cons (zs_expr (ze_mL PySem.F.plainAttrs_list PySem.F.slot_list_append PySem.F.type_list_append mt_append snd_app (ze_fld T.g_Joiner T.l_Joiner (naB_ok T.a_Joiner (by decide +kernel)) (ze_var 0)) (za_cons (ze_ct call_list_of (snd_list false) T.n_list (by decide +kernel) (za_cons (ze_var 1) za_nil)) za_nil)))
  (zss_cons (zs_if (zt_cmp op_lt (sndB0 (g := pLt)) (ze_cb call_len snd_len T.n_len (by decide +kernel) (za_cons (ze_fld T.g_Joiner T.l_Joiner (naB_ok T.a_Joiner (by decide +kernel)) (ze_var 0)) za_nil)) (ze_ix (ze_var 1) ze_int (fun _ _ => rfl)) (by first | exact nobehind _ (by decide) (by decide) | rfl)) (zss_one (zs_ret ze_non))
  zss_nil)
  (zss_cons (zs_set (i := 2) sc_Joiner_take.nd (ze_lst true za_nil))
  (zss_cons (zs_for (passes_of rfl) rfl (zi_list (ze_fld T.g_Joiner T.l_Joiner (naB_ok T.a_Joiner (by decide +kernel)) (ze_var 0))) (zg_name (i := 3) sc_Joiner_take.nd) (zss_one (zs_expr (ze_mL PySem.F.plainAttrs_list PySem.F.slot_list_extend PySem.F.type_list_extend mt_extend snd_ext (ze_var 2) (za_cons (ze_sl false (ze_var 3) (zo_some (ze_glob (v := .int 3) rfl T.g_HEAD.2 ⟨_, rfl⟩ (fun _ => .int _))) zo_none) za_nil)))))
  (zss_cons (zs_setA T.g_Joiner T.l_Joiner (naB_ok T.a_Joiner (by decide +kernel)) (ze_var 0) (ze_lst true za_nil))
  (zss_one (zs_ret (ze_tup (za_cons (ze_ix (ze_var 1) ze_int (fun _ _ => rfl)) (za_cons (ze_var 2) za_nil)))))))))))))
theorem ok_Lanes_come (T : Tx K mg) : FnOk P w K mg base (L2.CX P w) 5 T.f_Lanes_come T.d_Lanes_come p_Lanes_come (liftSp K mg z_Lanes_come) :=
  z_ok true (k := 4) (zb := zb_Lanes_come) T.F_Lanes_come sc_Lanes_come (n := 2) rfl (fun ds M R RE h => by
    unfold z_Lanes_come at h
    split at h
    · exact ⟨rfl, h⟩
    · exact h.elim)
  fun cdv A outer s H E F0 zE hr wk => (zss_cons (zs_if (zt_not (zt_val (ze_call (ok_is_whole T) (hr.mono (by decide)) T.g_is_whole T.F_is_whole.kp T.b_is_whole (takes_of rfl rfl rfl rfl) wk (za_cons (ze_var 1) (za_cons ze_int (za_cons (ze_sub (ze_cb call_len snd_len T.n_len (by decide +kernel) (za_cons (ze_fld T.g_Lanes T.l_Lanes (naB_ok T.a_Lanes (by decide +kernel)) (ze_var 0)) za_nil)) ze_int) za_nil)))))) (zss_one (zs_raise rfl (takes_of rfl rfl rfl rfl) wk PySem.F.excBase_ValueError T.x_BadLane T.g_BadLane T.k_BadLane T.r_BadLane))
  zss_nil)
  (zss_cons (zs_expr (ze_call (ok_look_row T) (hr.mono (by decide)) T.g_look_row T.F_look_row.kp T.b_look_row (takes_of rfl rfl rfl rfl) wk (za_cons (ze_var 2) (za_cons (ze_glob (v := .int 64) rfl T.g_MOST_ROW.2 ⟨_, rfl⟩ (fun _ => .int _)) za_nil))))
  (zss_cons (zs_if (zt_cmp (op_eqZ hr.units) snd_eq (ze_var 2) (ze_lst false za_nil) (by first | exact nobehind _ (by decide) (by decide) | rfl)) (zss_one (zs_raise rfl (takes_of rfl rfl rfl rfl) wk PySem.F.excBase_ValueError T.x_BadRow T.g_BadRow T.k_BadRow T.r_BadRow))
  zss_nil)
  (zss_cons (zs_expr (ze_mL PySem.F.plainAttrs_list PySem.F.slot_list_append PySem.F.type_list_append mt_append snd_app (ze_ix (ze_fld T.g_Lanes T.l_Lanes (naB_ok T.a_Lanes (by decide +kernel)) (ze_var 0)) (ze_var 1) (fun _ _ => rfl)) (za_cons (ze_ct call_list_of (snd_list false) T.n_list (by decide +kernel) (za_cons (ze_var 2) za_nil)) za_nil)))
  (zss_cons (zs_set (i := 3) sc_Lanes_come.nd (ze_lst true za_nil))
  (zss_cons (zs_expr (ze_meth0 T.g_Lanes T.l_Lanes T.m_Lanes_drop_late (ok_Lanes_drop_late T) (hr.mono (by decide)) T.b_Lanes_drop_late (takes_of rfl rfl rfl rfl) wk (ze_var 0)))
  (zss_cons (zs_while (passes_of rfl) (zt_val (ze_cb (cr_all rfl) snd_all T.n_all (by decide +kernel) (za_cons (ze_lc (own := [("waiting", 4)]) false rfl sc_Lanes_come.nd (zi_list (ze_fld T.g_Lanes T.l_Lanes (naB_ok T.a_Lanes (by decide +kernel)) (ze_var 0))) (blkOk_by (N := N_Lanes_come) (sc := defScope s_Lanes_come) (by decide +kernel)) (tg_name (by decide)) (fun _ _ _ _ _ => (pg_name (i := 4) sc_Lanes_come.nd rfl (by first | exact Or.inl rfl | exact Or.inr rfl))) (fun _ _ _ _ _ => zts_nil) (fun _ _ _ _ _ => (ze_cmp (op_neZ hr.units) snd_ne (ze_var 4) (ze_lst false za_nil) (by first | exact nobehind _ (by decide) (by decide) | rfl)))) za_nil))) (zss_cons (zs_expr (ze_mL PySem.F.plainAttrs_list PySem.F.slot_list_extend PySem.F.type_list_extend mt_extend snd_ext (ze_var 3) (za_cons (ze_meth0 T.g_Lanes T.l_Lanes T.m_Lanes_one (ok_Lanes_one T) (hr.mono (by decide)) T.b_Lanes_one (takes_of rfl rfl rfl rfl) wk (ze_var 0)) za_nil)))
  (zss_one (zs_expr (ze_meth0 T.g_Lanes T.l_Lanes T.m_Lanes_drop_late (ok_Lanes_drop_late T) (hr.mono (by decide)) T.b_Lanes_drop_late (takes_of rfl rfl rfl rfl) wk (ze_var 0))))))
  (zss_one (zs_ret (ze_var 3))))))))))
theorem ok_Reader_hear (T : Tx K mg) : FnOk P w K mg base (L2.CX P w) 5 T.f_Reader_hear T.d_Reader_hear p_Reader_hear (liftSp K mg z_Reader_hear) :=
  z_ok true (k := 4) (zb := zb_Reader_hear) T.F_Reader_hear sc_Reader_hear (n := 2) rfl (fun ds M R RE h => by
    unfold z_Reader_hear at h
    split at h
    · exact ⟨rfl, h⟩
    · exact h.elim)
  fun cdv A outer s H E F0 zE hr wk => (zss_cons (zs_expr (ze_call (ok_look_bits T) (hr.mono (by decide)) T.g_look_bits T.F_look_bits.kp T.b_look_bits (takes_of rfl rfl rfl rfl) wk (za_cons (ze_var 1) za_nil)))
  (zss_cons (zs_set (i := 2) sc_Reader_hear.nd (ze_lst true za_nil))
  (zss_cons (zs_for (passes_of rfl) rfl (zi_list (ze_var 1)) (zg_name (i := 3) sc_Reader_hear.nd) (zss_cons (zs_setA T.g_Reader T.l_Reader (naB_ok T.a_Reader (by decide +kernel)) (ze_var 0) (ze_sl false (ze_add false (ze_fld T.g_Reader T.l_Reader (naB_ok T.a_Reader (by decide +kernel)) (ze_var 0)) (ze_lst false (za_cons (ze_var 3) za_nil))) (zo_some (ze_sub ze_int (ze_cb call_len snd_len T.n_len (by decide +kernel) (za_cons (ze_ix (ze_glob (v := .ref T.a_SIGNS) rfl T.g_SIGNS rfl (ktup_rep T.k_SIGNS (fun F => (.cons (ktup_rep T.k0_SIGNS (fun _ => RepL.ints _) F) (.cons (ktup_rep T.k1_SIGNS (fun _ => RepL.ints _) F) .nil))))) ze_int (fun _ _ => rfl)) za_nil)))) zo_none))
  (zss_cons (zs_if (zt_cmp (OpR.or op_notN op_notBl) snd_isNot (ze_fld T.g_Reader T.l_Reader (naB_ok T.a_Reader (by decide +kernel)) (ze_var 0)) ze_non (by first | exact nobehind _ (by decide) (by decide) | rfl)) (zss_one (zs_expr (ze_mL PySem.F.plainAttrs_list PySem.F.slot_list_append PySem.F.type_list_append mt_append snd_app (ze_fld T.g_Reader T.l_Reader (naB_ok T.a_Reader (by decide +kernel)) (ze_var 0)) (za_cons (ze_var 3) za_nil))))
  zss_nil)
  (zss_one (zs_expr (ze_mL PySem.F.plainAttrs_list PySem.F.slot_list_extend PySem.F.type_list_extend mt_extend snd_ext (ze_var 2) (za_cons (ze_meth0 T.g_Reader T.l_Reader T.m_Reader_found (ok_Reader_found T) (hr.mono (by decide)) T.b_Reader_found (takes_of rfl rfl rfl rfl) wk (ze_var 0)) za_nil)))))))
  (zss_one (zs_ret (ze_var 2))))))
theorem ok_Ear_hear (T : Tx K mg) : FnOk P w K mg base (L2.CX P w) 8 T.f_Ear_hear T.d_Ear_hear p_Ear_hear (liftSp K mg z_Ear_hear) :=
  z_ok false (k := 7) (zb := zb_Ear_hear) T.F_Ear_hear sc_Ear_hear (n := 0) rfl (fun ds M R RE h => by
    unfold z_Ear_hear at h
    split at h
    · exact ⟨rfl, h⟩
    · exact h.elim)
  fun cdv A outer s H E F0 zE hr wk => (zss_one (zs_ret (ze_meth T.g_Taker T.l_Taker T.m_Taker_take (ok_Taker_take T) (hr.mono (by decide)) T.b_Taker_take (takes_of rfl rfl rfl rfl) wk (ze_fld T.g_Ear T.l_Ear (naB_ok T.a_Ear (by decide +kernel)) (ze_var 0)) (za_cons (ze_meth T.g_Reader T.l_Reader T.m_Reader_hear (ok_Reader_hear T) (hr.mono (by decide)) T.b_Reader_hear (takes_of rfl rfl rfl rfl) wk (ze_fld T.g_Ear T.l_Ear (naB_ok T.a_Ear (by decide +kernel)) (ze_var 0)) (za_cons (ze_var 1) za_nil)) za_nil))))
theorem ok_law (T : Tx K mg) : FnOk P w K mg base (L2.CX P w) 9 T.f_law T.d_law p_law (liftSp K mg z_law) :=
  z_ok true (k := 8) (zb := zb_law) T.F_law sc_law (n := 24) rfl (fun ds M R RE h => by
    unfold z_law at h
    split at h
    · exact ⟨rfl, h⟩
    · exact h.elim)
  fun cdv A outer s H E F0 zE hr wk => (zss_cons (zs_set (i := 1) sc_law.nd (ze_call (ok__law_town T) (hr.mono (by decide)) T.g__law_town T.F__law_town.kp T.b__law_town (takes_of rfl rfl rfl rfl) wk (za_cons (ze_var 0) za_nil)))
  (zss_cons (zs_set (i := 2) sc_law.nd (ze_add false ze_int (ze_call (ok__law_draw T) (hr.mono (by decide)) T.g__law_draw T.F__law_draw.kp T.b__law_draw (takes_of rfl rfl rfl rfl) wk (za_cons (ze_var 1) (za_cons ze_int za_nil)))))
  (zss_cons (zs_set (i := 3) sc_law.nd (ze_call (ok__law_draw T) (hr.mono (by decide)) T.g__law_draw T.F__law_draw.kp T.b__law_draw (takes_of rfl rfl rfl rfl) wk (za_cons (ze_var 1) (za_cons ze_int za_nil))))
  (zss_cons (zs_set (i := 4) sc_law.nd (ze_call (ok__law_pick T) (hr.mono (by decide)) T.g__law_pick T.F__law_pick.kp T.b__law_pick (takes_of rfl rfl rfl rfl) wk (za_cons (ze_var 1) (za_cons (ze_lst false (za_cons ze_int (za_cons ze_int (za_cons ze_int (za_cons ze_int (za_cons ze_int za_nil)))))) za_nil))))
  (zss_cons (zs_set (i := 5) sc_law.nd (ze_sl false (ze_mul false (ze_lc (own := [("k", 11)]) false rfl sc_law.nd (zi_range1 T.n_range (za_cons ze_int za_nil)) (blkOk_by (N := N_law) (sc := defScope s_law) (by decide +kernel)) (tg_name (by decide)) (fun _ _ _ _ _ => (pg_name (i := 11) sc_law.nd rfl (by first | exact Or.inl rfl | exact Or.inr rfl))) (fun _ _ _ _ _ => zts_nil) (fun _ _ _ _ _ => (ze_call (ok__law_byte T) (hr.mono (by decide)) T.g__law_byte T.F__law_byte.kp T.b__law_byte takes0 wok0 (za_cons (ze_var 1) za_nil)))) ze_int) zo_none (zo_some (ze_var 4))))
  (zss_cons (zs_set (i := 6) sc_law.nd (ze_call (ok_parted T) (hr.mono (by decide)) T.g_parted T.F_parted.kp T.b_parted (takes_of rfl rfl rfl rfl) wk (za_cons (ze_var 5) (za_cons (ze_var 3) za_nil))))
  (zss_cons (zs_setLc (own := [("k", 11)]) (i := 7) false rfl sc_law.nd (sw_true rfl rfl rfl (by decide +kernel)) (zi_range1 T.n_range (za_cons (ze_var 2) za_nil)) (blkOk_by (N := N_law) (sc := defScope s_law) (by decide +kernel)) (tg_name (by decide)) (fun _ _ _ _ _ => (pg_name (i := 11) sc_law.nd rfl (by first | exact Or.inl rfl | exact Or.inr rfl))) (fun _ _ _ _ _ => zts_nil) (fun _ _ _ _ _ => (ze_make0 T.g_Sender T.k_Sender (ok_Sender___init__ T) (hr.mono (by decide)) T.b_Sender___init__ takes0 wok0)))
  (zss_cons (zs_setLc (own := [("k", 11)]) (i := 8) false rfl sc_law.nd (sw_true rfl rfl rfl (by decide +kernel)) (zi_range1 T.n_range (za_cons (ze_var 2) za_nil)) (blkOk_by (N := N_law) (sc := defScope s_law) (by decide +kernel)) (tg_name (by decide)) (fun _ _ _ _ _ => (pg_name (i := 11) sc_law.nd rfl (by first | exact Or.inl rfl | exact Or.inr rfl))) (fun _ _ _ _ _ => zts_nil) (fun _ _ _ _ _ => (ze_make0 T.g_Ear T.k_Ear (ok_Ear___init__ T) (hr.mono (by decide)) T.b_Ear___init__ takes0 wok0)))
  (zss_cons (zs_for (passes_of rfl) rfl (zi_list (ze_var 8)) (zg_name (i := 9) sc_law.nd) (zss_one (zs_expr (ze_meth T.g_Ear T.l_Ear T.m_Ear_hear (ok_Ear_hear T) (hr.mono (by decide)) T.b_Ear_hear (takes_of rfl rfl rfl rfl) wk (ze_var 9) (za_cons (ze_call (ok__law_some_bits T) (hr.mono (by decide)) T.g__law_some_bits T.F__law_some_bits.kp T.b__law_some_bits (takes_of rfl rfl rfl rfl) wk (za_cons (ze_var 1) (za_cons ze_int za_nil))) za_nil)))))
  (zss_cons (zs_set (i := 10) sc_law.nd (ze_lc (own := [("k", 11)]) true rfl sc_law.nd (zi_range1 T.n_range (za_cons (ze_var 2) za_nil)) (blkOk_by (N := N_law) (sc := defScope s_law) (by decide +kernel)) (tg_name (by decide)) (fun _ _ _ _ _ => (pg_name (i := 11) sc_law.nd rfl (by first | exact Or.inl rfl | exact Or.inr rfl))) (fun _ _ _ _ _ => zts_nil) (fun _ _ _ _ _ => (ze_lst true za_nil))))
  (zss_cons (zs_for (passes_of rfl) rfl (zi_range1 T.n_range (za_cons (ze_cb call_len snd_len T.n_len (by decide +kernel) (za_cons (ze_var 6) za_nil)) za_nil)) (zg_name (i := 11) sc_law.nd) (zss_cons (zs_set (i := 12) sc_law.nd (ze_call (ok_dealt T) (hr.mono (by decide)) T.g_dealt T.F_dealt.kp T.b_dealt (takes_of rfl rfl rfl rfl) wk (za_cons (ze_ix (ze_var 6) (ze_var 11) (fun _ _ => rfl)) (za_cons (ze_var 2) (za_cons (ze_var 11) za_nil)))))
  (zss_one (zs_for (passes_of rfl) rfl (zi_range1 T.n_range (za_cons (ze_var 2) za_nil)) (zg_name (i := 13) sc_law.nd) (zss_cons (zs_set (i := 14) sc_law.nd (ze_meth T.g_Sender T.l_Sender T.m_Sender_say_row (ok_Sender_say_row T) (hr.mono (by decide)) T.b_Sender_say_row (takes_of rfl rfl rfl rfl) wk (ze_ix (ze_var 7) (ze_var 13) (fun _ _ => rfl)) (za_cons (ze_ix (ze_var 12) (ze_var 13) (fun _ _ => rfl)) za_nil)))
  (zss_one (zs_expr (ze_mL PySem.F.plainAttrs_list PySem.F.slot_list_extend PySem.F.type_list_extend mt_extend snd_ext (ze_ix (ze_var 10) (ze_var 13) (fun _ _ => rfl)) (za_cons (ze_add false (ze_var 14) (ze_meth T.g_Sender T.l_Sender T.m_Sender_say (ok_Sender_say T) (hr.mono (by decide)) T.b_Sender_say (takes_of rfl rfl rfl rfl) wk (ze_ix (ze_var 7) (ze_var 13) (fun _ _ => rfl)) (za_cons (ze_call (ok__law_gap T) (hr.mono (by decide)) T.g__law_gap T.F__law_gap.kp T.b__law_gap (takes_of rfl rfl rfl rfl) wk (za_cons (ze_var 1) za_nil)) za_nil))) za_nil)))))))))
  (zss_cons (zs_set (i := 15) sc_law.nd (ze_make T.g_Lanes T.k_Lanes (ok_Lanes___init__ T) (hr.mono (by decide)) T.b_Lanes___init__ (takes_of rfl rfl rfl rfl) wk (za_cons (ze_var 2) za_nil)))
  (zss_cons (zs_set (i := 16) sc_law.nd (ze_make0 T.g_Joiner T.k_Joiner (ok_Joiner___init__ T) (hr.mono (by decide)) T.b_Joiner___init__ (takes_of rfl rfl rfl rfl) wk))
  (zss_cons (zs_set (i := 17) sc_law.nd (ze_lst true za_nil))
  (zss_cons (zs_while (passes_of rfl) (zt_cmp (op_neZ hr.units) snd_ne (ze_lc (own := [("one", 24)]) false rfl sc_law.nd (zi_list (ze_var 10)) (blkOk_by (N := N_law) (sc := defScope s_law) (by decide +kernel)) (tg_name (by decide)) (fun _ _ _ _ _ => (pg_name (i := 24) sc_law.nd rfl (by first | exact Or.inl rfl | exact Or.inr rfl))) (fun _ _ _ _ _ => (zts_one (zt_cmp (op_neZ hr.units) snd_ne (ze_var 24) (ze_lst false za_nil) (by first | exact nobehind _ (by decide) (by decide) | rfl)))) (fun _ _ _ _ _ => (ze_var 24))) (ze_lst false za_nil) (by first | exact nobehind _ (by decide) (by decide) | rfl)) (zss_cons (zs_set (i := 13) sc_law.nd (ze_call (ok__law_pick T) (hr.mono (by decide)) T.g__law_pick T.F__law_pick.kp T.b__law_pick (takes_of rfl rfl rfl rfl) wk (za_cons (ze_var 1) (za_cons (ze_lc (own := [("k", 11)]) false rfl sc_law.nd (zi_range1 T.n_range (za_cons (ze_var 2) za_nil)) (blkOk_by (N := N_law) (sc := defScope s_law) (by decide +kernel)) (tg_name (by decide)) (fun _ _ _ _ _ => (pg_name (i := 11) sc_law.nd rfl (by first | exact Or.inl rfl | exact Or.inr rfl))) (fun _ _ _ _ _ => (zts_one (zt_cmp (op_neZ hr.units) snd_ne (ze_ix (ze_var 10) (ze_var 11) (fun _ _ => rfl)) (ze_lst false za_nil) (by first | exact nobehind _ (by decide) (by decide) | rfl)))) (fun _ _ _ _ _ => (ze_var 11))) za_nil))))
  (zss_cons (zs_set (i := 4) sc_law.nd (ze_call (ok__law_pick T) (hr.mono (by decide)) T.g__law_pick T.F__law_pick.kp T.b__law_pick (takes_of rfl rfl rfl rfl) wk (za_cons (ze_var 1) (za_cons (ze_lst false (za_cons ze_int (za_cons ze_int (za_cons ze_int (za_cons ze_int za_nil))))) za_nil))))
  (zss_cons (zs_for (passes_of rfl) rfl (zi_list (ze_meth T.g_Ear T.l_Ear T.m_Ear_hear (ok_Ear_hear T) (hr.mono (by decide)) T.b_Ear_hear (takes_of rfl rfl rfl rfl) wk (ze_ix (ze_var 8) (ze_var 13) (fun _ _ => rfl)) (za_cons (ze_sl false (ze_ix (ze_var 10) (ze_var 13) (fun _ _ => rfl)) zo_none (zo_some (ze_var 4))) za_nil))) (zg_tup rfl (zgs_cons (zg_name (i := 18) sc_law.nd) (zgs_cons (zg_name (i := 19) sc_law.nd) zgs_nil))) (zss_one (zs_if (zt_cmp (op_eqZ hr.units) snd_eq (ze_var 18) ze_str (by first | exact nobehind _ (by decide) (by decide) | rfl)) (zss_one (zs_for (passes_of rfl) rfl (zi_list (ze_meth T.g_Lanes T.l_Lanes T.m_Lanes_come (ok_Lanes_come T) (hr.mono (by decide)) T.b_Lanes_come (takes_of rfl rfl rfl rfl) wk (ze_var 15) (za_cons (ze_var 13) (za_cons (ze_var 19) za_nil)))) (zg_tup rfl (zgs_cons (zg_name (i := 20) sc_law.nd) (zgs_cons (zg_name (i := 21) sc_law.nd) (zgs_cons (zg_name (i := 22) sc_law.nd) zgs_nil)))) (zss_one (zs_expr (ze_mL PySem.F.plainAttrs_list PySem.F.slot_list_append PySem.F.type_list_append mt_append snd_app (ze_var 17) (za_cons (ze_if (zt_cmp (op_eqZ hr.units) snd_eq (ze_var 20) ze_str (by first | exact nobehind _ (by decide) (by decide) | rfl)) (ze_meth T.g_Joiner T.l_Joiner T.m_Joiner_take (ok_Joiner_take T) (hr.mono (by decide)) T.b_Joiner_take (takes_of rfl rfl rfl rfl) wk (ze_var 16) (za_cons (ze_var 22) za_nil)) ze_str) za_nil))))))
  zss_nil)))
  (zss_one (zs_asg (ze_sl false (ze_ix (ze_var 10) (ze_var 13) (fun _ _ => rfl)) (zo_some (ze_var 4)) zo_none) (zg_sub (ze_var 10) (ze_var 13))))))))
  (zss_cons (zs_set (i := 23) sc_law.nd (ze_add false (ze_mul false (ze_lst false (za_cons ze_non za_nil)) (ze_sub (ze_cb call_len snd_len T.n_len (by decide +kernel) (za_cons (ze_var 6) za_nil)) ze_int)) (ze_lst false (za_cons (ze_tup (za_cons (ze_var 3) (za_cons (ze_var 5) za_nil))) za_nil))))
  (zss_one (zs_ret (ze_and (ze_cmp (op_eqZ hr.units) snd_eq (ze_var 17) (ze_var 23) (by first | exact nobehind _ (by decide) (by decide) | rfl)) (ze_one (ze_cmp (op_eqZ hr.units) snd_eq (ze_meth0 T.g_Lanes T.l_Lanes T.m_Lanes_held (ok_Lanes_held T) (hr.mono (by decide)) T.b_Lanes_held (takes_of rfl rfl rfl rfl) wk (ze_var 15)) (ze_mul false (ze_lst false (za_cons ze_int za_nil)) (ze_var 2)) (by first | exact nobehind _ (by decide) (by decide) | rfl))))))))))))))))))))))
end
def spLaw (K : PySem.W.Frag) : Sp := fun vs H Q _ => ∃ (a : Addr) (ns : List Int), vs = [.ref a] ∧ SqL K H a (ns.map V.int) ∧ cellsOk ns ∧ ∀ H', Q (.bl true) H'
theorem all_mk (HL : ∀ ns : List Int, ns.length ≤ 63 → z_law [.scr ns] (fun _ => none) (fun d _ => d = .bl true) fun _ _ _ => False) {l : PySem.W.OpenLaw} {w : World} {K : PySem.W.Frag} {h : Heap} {mg : Str → Option Value} {fa : Addr} (X : K.In h) (G : h.Ns mainGlobals mg) (hfa : mg "law" = some (.ref fa))
    {cc_Ear : Addr}
    {cc_Joiner : Addr}
    {cc_Lanes : Addr}
    {cc_Reader : Addr}
    {cc_Sender : Addr}
    {cc_Taker : Addr}
    {f__wall : Addr} {od__wall an__wall : Option Addr} {sl__wall : Array (Option Value)} {oc__wall kV__wall dc__wall pm__wall cd__wall ct__wall : Value}
    {f_is_whole : Addr} {od_is_whole an_is_whole : Option Addr} {sl_is_whole : Array (Option Value)} {oc_is_whole kV_is_whole dc_is_whole pm_is_whole cd_is_whole ct_is_whole : Value}
    {f_look_word : Addr} {od_look_word an_look_word : Option Addr} {sl_look_word : Array (Option Value)} {oc_look_word kV_look_word dc_look_word pm_look_word cd_look_word ct_look_word : Value}
    {f_look_bits : Addr} {od_look_bits an_look_bits : Option Addr} {sl_look_bits : Array (Option Value)} {oc_look_bits kV_look_bits dc_look_bits pm_look_bits cd_look_bits ct_look_bits : Value}
    {f_bits_of : Addr} {od_bits_of an_bits_of : Option Addr} {sl_bits_of : Array (Option Value)} {oc_bits_of kV_bits_of dc_bits_of pm_bits_of cd_bits_of ct_bits_of : Value}
    {f_word_of : Addr} {od_word_of an_word_of : Option Addr} {sl_word_of : Array (Option Value)} {oc_word_of kV_word_of dc_word_of pm_word_of cd_word_of ct_word_of : Value}
    {f_is_item : Addr} {od_is_item an_is_item : Option Addr} {sl_is_item : Array (Option Value)} {oc_is_item kV_is_item dc_is_item pm_is_item cd_is_item ct_is_item : Value}
    {f_look_item : Addr} {od_look_item an_look_item : Option Addr} {sl_look_item : Array (Option Value)} {oc_look_item kV_look_item dc_look_item pm_look_item cd_look_item ct_look_item : Value}
    {f_look_poise : Addr} {od_look_poise an_look_poise : Option Addr} {sl_look_poise : Array (Option Value)} {oc_look_poise kV_look_poise dc_look_poise pm_look_poise cd_look_poise ct_look_poise : Value}
    {f_heavy_word : Addr} {od_heavy_word an_heavy_word : Option Addr} {sl_heavy_word : Array (Option Value)} {oc_heavy_word kV_heavy_word dc_heavy_word pm_heavy_word cd_heavy_word ct_heavy_word : Value}
    {f_put_item : Addr} {od_put_item an_put_item : Option Addr} {sl_put_item : Array (Option Value)} {oc_put_item kV_put_item dc_put_item pm_put_item cd_put_item ct_put_item : Value}
    {f_pair_item : Addr} {od_pair_item an_pair_item : Option Addr} {sl_pair_item : Array (Option Value)} {oc_pair_item kV_pair_item dc_pair_item pm_pair_item cd_pair_item ct_pair_item : Value}
    {f_item_at : Addr} {od_item_at an_item_at : Option Addr} {sl_item_at : Array (Option Value)} {oc_item_at kV_item_at dc_item_at pm_item_at cd_item_at ct_item_at : Value}
    {f_look_items : Addr} {od_look_items an_look_items : Option Addr} {sl_look_items : Array (Option Value)} {oc_look_items kV_look_items dc_look_items pm_look_items cd_look_items ct_look_items : Value}
    {f_sent_from : Addr} {od_sent_from an_sent_from : Option Addr} {sl_sent_from : Array (Option Value)} {oc_sent_from kV_sent_from dc_sent_from pm_sent_from cd_sent_from ct_sent_from : Value}
    {f_is_row : Addr} {od_is_row an_is_row : Option Addr} {sl_is_row : Array (Option Value)} {oc_is_row kV_is_row dc_is_row pm_is_row cd_is_row ct_is_row : Value}
    {f_look_row : Addr} {od_look_row an_look_row : Option Addr} {sl_look_row : Array (Option Value)} {oc_look_row kV_look_row dc_look_row pm_look_row cd_look_row ct_look_row : Value}
    {f_sum_of : Addr} {od_sum_of an_sum_of : Option Addr} {sl_sum_of : Array (Option Value)} {oc_sum_of kV_sum_of dc_sum_of pm_sum_of cd_sum_of ct_sum_of : Value}
    {f_check_of : Addr} {od_check_of an_check_of : Option Addr} {sl_check_of : Array (Option Value)} {oc_check_of kV_check_of dc_check_of pm_check_of cd_check_of ct_check_of : Value}
    {f_framed : Addr} {od_framed an_framed : Option Addr} {sl_framed : Array (Option Value)} {oc_framed kV_framed dc_framed pm_framed cd_framed ct_framed : Value}
    {f_row_within : Addr} {od_row_within an_row_within : Option Addr} {sl_row_within : Array (Option Value)} {oc_row_within kV_row_within dc_row_within pm_row_within cd_row_within ct_row_within : Value}
    {f_Reader___init__ : Addr} {od_Reader___init__ an_Reader___init__ : Option Addr} {sl_Reader___init__ : Array (Option Value)} {oc_Reader___init__ kV_Reader___init__ dc_Reader___init__ pm_Reader___init__ cd_Reader___init__ ct_Reader___init__ : Value}
    {f_Reader_heard : Addr} {od_Reader_heard an_Reader_heard : Option Addr} {sl_Reader_heard : Array (Option Value)} {oc_Reader_heard kV_Reader_heard dc_Reader_heard pm_Reader_heard cd_Reader_heard ct_Reader_heard : Value}
    {f_Reader_in_step : Addr} {od_Reader_in_step an_Reader_in_step : Option Addr} {sl_Reader_in_step : Array (Option Value)} {oc_Reader_in_step kV_Reader_in_step dc_Reader_in_step pm_Reader_in_step cd_Reader_in_step ct_Reader_in_step : Value}
    {f_Reader_poise_now : Addr} {od_Reader_poise_now an_Reader_poise_now : Option Addr} {sl_Reader_poise_now : Array (Option Value)} {oc_Reader_poise_now kV_Reader_poise_now dc_Reader_poise_now pm_Reader_poise_now cd_Reader_poise_now ct_Reader_poise_now : Value}
    {f_Reader_waiting : Addr} {od_Reader_waiting an_Reader_waiting : Option Addr} {sl_Reader_waiting : Array (Option Value)} {oc_Reader_waiting kV_Reader_waiting dc_Reader_waiting pm_Reader_waiting cd_Reader_waiting ct_Reader_waiting : Value}
    {f_Taker___init__ : Addr} {od_Taker___init__ an_Taker___init__ : Option Addr} {sl_Taker___init__ : Array (Option Value)} {oc_Taker___init__ kV_Taker___init__ dc_Taker___init__ pm_Taker___init__ cd_Taker___init__ ct_Taker___init__ : Value}
    {f_Taker_took : Addr} {od_Taker_took an_Taker_took : Option Addr} {sl_Taker_took : Array (Option Value)} {oc_Taker_took kV_Taker_took dc_Taker_took pm_Taker_took cd_Taker_took ct_Taker_took : Value}
    {f_Taker_within : Addr} {od_Taker_within an_Taker_within : Option Addr} {sl_Taker_within : Array (Option Value)} {oc_Taker_within kV_Taker_within dc_Taker_within pm_Taker_within cd_Taker_within ct_Taker_within : Value}
    {f_Ear___init__ : Addr} {od_Ear___init__ an_Ear___init__ : Option Addr} {sl_Ear___init__ : Array (Option Value)} {oc_Ear___init__ kV_Ear___init__ dc_Ear___init__ pm_Ear___init__ cd_Ear___init__ ct_Ear___init__ : Value}
    {f_Ear_in_step : Addr} {od_Ear_in_step an_Ear_in_step : Option Addr} {sl_Ear_in_step : Array (Option Value)} {oc_Ear_in_step kV_Ear_in_step dc_Ear_in_step pm_Ear_in_step cd_Ear_in_step ct_Ear_in_step : Value}
    {f_Sender___init__ : Addr} {od_Sender___init__ an_Sender___init__ : Option Addr} {sl_Sender___init__ : Array (Option Value)} {oc_Sender___init__ kV_Sender___init__ dc_Sender___init__ pm_Sender___init__ cd_Sender___init__ ct_Sender___init__ : Value}
    {f_Sender_say : Addr} {od_Sender_say an_Sender_say : Option Addr} {sl_Sender_say : Array (Option Value)} {oc_Sender_say kV_Sender_say dc_Sender_say pm_Sender_say cd_Sender_say ct_Sender_say : Value}
    {f_Sender_say_row : Addr} {od_Sender_say_row an_Sender_say_row : Option Addr} {sl_Sender_say_row : Array (Option Value)} {oc_Sender_say_row kV_Sender_say_row dc_Sender_say_row pm_Sender_say_row cd_Sender_say_row ct_Sender_say_row : Value}
    {f_Sender_poise_now : Addr} {od_Sender_poise_now an_Sender_poise_now : Option Addr} {sl_Sender_poise_now : Array (Option Value)} {oc_Sender_poise_now kV_Sender_poise_now dc_Sender_poise_now pm_Sender_poise_now cd_Sender_poise_now ct_Sender_poise_now : Value}
    {f_Sender_said : Addr} {od_Sender_said an_Sender_said : Option Addr} {sl_Sender_said : Array (Option Value)} {oc_Sender_said kV_Sender_said dc_Sender_said pm_Sender_said cd_Sender_said ct_Sender_said : Value}
    {f_parted : Addr} {od_parted an_parted : Option Addr} {sl_parted : Array (Option Value)} {oc_parted kV_parted dc_parted pm_parted cd_parted ct_parted : Value}
    {dt_parted : Addr} {dn_parted : Nat} {di_parted : List Value} {ds_parted : Array (Option Value)}
    {f_is_part : Addr} {od_is_part an_is_part : Option Addr} {sl_is_part : Array (Option Value)} {oc_is_part kV_is_part dc_is_part pm_is_part cd_is_part ct_is_part : Value}
    {f_Joiner___init__ : Addr} {od_Joiner___init__ an_Joiner___init__ : Option Addr} {sl_Joiner___init__ : Array (Option Value)} {oc_Joiner___init__ kV_Joiner___init__ dc_Joiner___init__ pm_Joiner___init__ cd_Joiner___init__ ct_Joiner___init__ : Value}
    {f_Joiner_goes_on : Addr} {od_Joiner_goes_on an_Joiner_goes_on : Option Addr} {sl_Joiner_goes_on : Array (Option Value)} {oc_Joiner_goes_on kV_Joiner_goes_on dc_Joiner_goes_on pm_Joiner_goes_on cd_Joiner_goes_on ct_Joiner_goes_on : Value}
    {f_Joiner_begun : Addr} {od_Joiner_begun an_Joiner_begun : Option Addr} {sl_Joiner_begun : Array (Option Value)} {oc_Joiner_begun kV_Joiner_begun dc_Joiner_begun pm_Joiner_begun cd_Joiner_begun ct_Joiner_begun : Value}
    {f_look_many : Addr} {od_look_many an_look_many : Option Addr} {sl_look_many : Array (Option Value)} {oc_look_many kV_look_many dc_look_many pm_look_many cd_look_many ct_look_many : Value}
    {f_dealt : Addr} {od_dealt an_dealt : Option Addr} {sl_dealt : Array (Option Value)} {oc_dealt kV_dealt dc_dealt pm_dealt cd_dealt ct_dealt : Value}
    {f_fits : Addr} {od_fits an_fits : Option Addr} {sl_fits : Array (Option Value)} {oc_fits kV_fits dc_fits pm_fits cd_fits ct_fits : Value}
    {f_gathered : Addr} {od_gathered an_gathered : Option Addr} {sl_gathered : Array (Option Value)} {oc_gathered kV_gathered dc_gathered pm_gathered cd_gathered ct_gathered : Value}
    {f_Lanes___init__ : Addr} {od_Lanes___init__ an_Lanes___init__ : Option Addr} {sl_Lanes___init__ : Array (Option Value)} {oc_Lanes___init__ kV_Lanes___init__ dc_Lanes___init__ pm_Lanes___init__ cd_Lanes___init__ ct_Lanes___init__ : Value}
    {f_Lanes_drop_late : Addr} {od_Lanes_drop_late an_Lanes_drop_late : Option Addr} {sl_Lanes_drop_late : Array (Option Value)} {oc_Lanes_drop_late kV_Lanes_drop_late dc_Lanes_drop_late pm_Lanes_drop_late cd_Lanes_drop_late ct_Lanes_drop_late : Value}
    {f_Lanes_one : Addr} {od_Lanes_one an_Lanes_one : Option Addr} {sl_Lanes_one : Array (Option Value)} {oc_Lanes_one kV_Lanes_one dc_Lanes_one pm_Lanes_one cd_Lanes_one ct_Lanes_one : Value}
    {f_Lanes_due : Addr} {od_Lanes_due an_Lanes_due : Option Addr} {sl_Lanes_due : Array (Option Value)} {oc_Lanes_due kV_Lanes_due dc_Lanes_due pm_Lanes_due cd_Lanes_due ct_Lanes_due : Value}
    {f_Lanes_held : Addr} {od_Lanes_held an_Lanes_held : Option Addr} {sl_Lanes_held : Array (Option Value)} {oc_Lanes_held kV_Lanes_held dc_Lanes_held pm_Lanes_held cd_Lanes_held ct_Lanes_held : Value}
    {f__law_town : Addr} {od__law_town an__law_town : Option Addr} {sl__law_town : Array (Option Value)} {oc__law_town kV__law_town dc__law_town pm__law_town cd__law_town ct__law_town : Value}
    {f__law_draw : Addr} {od__law_draw an__law_draw : Option Addr} {sl__law_draw : Array (Option Value)} {oc__law_draw kV__law_draw dc__law_draw pm__law_draw cd__law_draw ct__law_draw : Value}
    {f__law_pick : Addr} {od__law_pick an__law_pick : Option Addr} {sl__law_pick : Array (Option Value)} {oc__law_pick kV__law_pick dc__law_pick pm__law_pick cd__law_pick ct__law_pick : Value}
    {f__law_ten : Addr} {od__law_ten an__law_ten : Option Addr} {sl__law_ten : Array (Option Value)} {oc__law_ten kV__law_ten dc__law_ten pm__law_ten cd__law_ten ct__law_ten : Value}
    {f__law_some_bits : Addr} {od__law_some_bits an__law_some_bits : Option Addr} {sl__law_some_bits : Array (Option Value)} {oc__law_some_bits kV__law_some_bits dc__law_some_bits pm__law_some_bits cd__law_some_bits ct__law_some_bits : Value}
    {f__law_byte : Addr} {od__law_byte an__law_byte : Option Addr} {sl__law_byte : Array (Option Value)} {oc__law_byte kV__law_byte dc__law_byte pm__law_byte cd__law_byte ct__law_byte : Value}
    {f__law_gap : Addr} {od__law_gap an__law_gap : Option Addr} {sl__law_gap : Array (Option Value)} {oc__law_gap kV__law_gap dc__law_gap pm__law_gap cd__law_gap ct__law_gap : Value}
    {f_Reader_found : Addr} {od_Reader_found an_Reader_found : Option Addr} {sl_Reader_found : Array (Option Value)} {oc_Reader_found kV_Reader_found dc_Reader_found pm_Reader_found cd_Reader_found ct_Reader_found : Value}
    {f_Taker_take : Addr} {od_Taker_take an_Taker_take : Option Addr} {sl_Taker_take : Array (Option Value)} {oc_Taker_take kV_Taker_take dc_Taker_take pm_Taker_take cd_Taker_take ct_Taker_take : Value}
    {f_Joiner_take : Addr} {od_Joiner_take an_Joiner_take : Option Addr} {sl_Joiner_take : Array (Option Value)} {oc_Joiner_take kV_Joiner_take dc_Joiner_take pm_Joiner_take cd_Joiner_take ct_Joiner_take : Value}
    {f_Lanes_come : Addr} {od_Lanes_come an_Lanes_come : Option Addr} {sl_Lanes_come : Array (Option Value)} {oc_Lanes_come kV_Lanes_come dc_Lanes_come pm_Lanes_come cd_Lanes_come ct_Lanes_come : Value}
    {f_Reader_hear : Addr} {od_Reader_hear an_Reader_hear : Option Addr} {sl_Reader_hear : Array (Option Value)} {oc_Reader_hear kV_Reader_hear dc_Reader_hear pm_Reader_hear cd_Reader_hear ct_Reader_hear : Value}
    {f_Ear_hear : Addr} {od_Ear_hear an_Ear_hear : Option Addr} {sl_Ear_hear : Array (Option Value)} {oc_Ear_hear kV_Ear_hear dc_Ear_hear pm_Ear_hear cd_Ear_hear ct_Ear_hear : Value}
    {f_law : Addr} {od_law an_law : Option Addr} {sl_law : Array (Option Value)} {oc_law kV_law dc_law pm_law cd_law ct_law : Value}
    {t_BEGIN : Tok}
    {ca_CONTROLS : Addr} {cn_CONTROLS : Nat} {ci_CONTROLS : List Value} {cs_CONTROLS : Array (Option Value)}
    {ca_EVEN : Addr} {cn_EVEN : Nat} {ci_EVEN : List Value} {cs_EVEN : Array (Option Value)}
    {t_HEAD : Tok}
    {ca_HEAVY : Addr} {cn_HEAVY : Nat} {ci_HEAVY : List Value} {cs_HEAVY : Array (Option Value)}
    {t_LATE : Tok}
    {t_LONG : Tok}
    {t_LOST : Tok}
    {t_MARK : Tok}
    {t_MODULUS : Tok}
    {t_MOST : Tok}
    {t_MOST_PARTS : Tok}
    {t_MOST_ROW : Tok}
    {t_PAIRS : Tok}
    {t_PIECE : Tok}
    {ca_SIGNS : Addr} {cn_SIGNS : Nat} {ci_SIGNS : List Value} {cs_SIGNS : Array (Option Value)}
    {cb0_SIGNS : Addr} {cbn0_SIGNS : Nat} {cbi0_SIGNS : List Value} {cbs0_SIGNS : Array (Option Value)}
    {cb1_SIGNS : Addr} {cbn1_SIGNS : Nat} {cbi1_SIGNS : List Value} {cbs1_SIGNS : Array (Option Value)}
    {t_TURNS : Tok}
    {xc_BadBits : Addr}
    {xc_BadItem : Addr}
    {xc_BadLane : Addr}
    {xc_BadPoise : Addr}
    {xc_BadRow : Addr}
    {xc_BadWord : Addr}
    (cg_Ear : PySem.W.nsIn K mainGlobals "Ear" = some (some (.ref cc_Ear)))
    (cl_Ear : clB K cc_Ear = true)
    (cf_Ear : naB K cc_Ear ["reader", "taker"] = true)
    (cg_Joiner : PySem.W.nsIn K mainGlobals "Joiner" = some (some (.ref cc_Joiner)))
    (cl_Joiner : clB K cc_Joiner = true)
    (cf_Joiner : naB K cc_Joiner ["some"] = true)
    (cg_Lanes : PySem.W.nsIn K mainGlobals "Lanes" = some (some (.ref cc_Lanes)))
    (cl_Lanes : clB K cc_Lanes = true)
    (cf_Lanes : naB K cc_Lanes ["rows", "turn"] = true)
    (cg_Reader : PySem.W.nsIn K mainGlobals "Reader" = some (some (.ref cc_Reader)))
    (cl_Reader : clB K cc_Reader = true)
    (cf_Reader : naB K cc_Reader ["last", "part", "poise"] = true)
    (cg_Sender : PySem.W.nsIn K mainGlobals "Sender" = some (some (.ref cc_Sender)))
    (cl_Sender : clB K cc_Sender = true)
    (cf_Sender : naB K cc_Sender ["count", "poise"] = true)
    (cg_Taker : PySem.W.nsIn K mainGlobals "Taker" = some (some (.ref cc_Taker)))
    (cl_Taker : clB K cc_Taker = true)
    (cf_Taker : naB K cc_Taker ["some"] = true)
    (a__wall : PySem.W.nsIn K mainGlobals "_wall" = some (some (.ref f__wall)))
    (l__wall : K.lookup f__wall = some ⟨oc__wall, od__wall, .func (PySem.W.fnOf "_wall" "_wall" (defArgs s__wall) (defBody s__wall) (defScope s__wall) .none kV__wall dc__wall pm__wall an__wall cd__wall ct__wall), sl__wall⟩)
    (c__wall : PySem.W.codeIn K cd__wall "_wall" = true)
    (k__wall : PySem.W.keepIn K (.ref f__wall) = true)
    (a_is_whole : PySem.W.nsIn K mainGlobals "is_whole" = some (some (.ref f_is_whole)))
    (l_is_whole : K.lookup f_is_whole = some ⟨oc_is_whole, od_is_whole, .func (PySem.W.fnOf "is_whole" "is_whole" (defArgs s_is_whole) (defBody s_is_whole) (defScope s_is_whole) .none kV_is_whole dc_is_whole pm_is_whole an_is_whole cd_is_whole ct_is_whole), sl_is_whole⟩)
    (c_is_whole : PySem.W.codeIn K cd_is_whole "is_whole" = true)
    (k_is_whole : PySem.W.keepIn K (.ref f_is_whole) = true)
    (a_look_word : PySem.W.nsIn K mainGlobals "look_word" = some (some (.ref f_look_word)))
    (l_look_word : K.lookup f_look_word = some ⟨oc_look_word, od_look_word, .func (PySem.W.fnOf "look_word" "look_word" (defArgs s_look_word) (defBody s_look_word) (defScope s_look_word) .none kV_look_word dc_look_word pm_look_word an_look_word cd_look_word ct_look_word), sl_look_word⟩)
    (c_look_word : PySem.W.codeIn K cd_look_word "look_word" = true)
    (k_look_word : PySem.W.keepIn K (.ref f_look_word) = true)
    (a_look_bits : PySem.W.nsIn K mainGlobals "look_bits" = some (some (.ref f_look_bits)))
    (l_look_bits : K.lookup f_look_bits = some ⟨oc_look_bits, od_look_bits, .func (PySem.W.fnOf "look_bits" "look_bits" (defArgs s_look_bits) (defBody s_look_bits) (defScope s_look_bits) .none kV_look_bits dc_look_bits pm_look_bits an_look_bits cd_look_bits ct_look_bits), sl_look_bits⟩)
    (c_look_bits : PySem.W.codeIn K cd_look_bits "look_bits" = true)
    (k_look_bits : PySem.W.keepIn K (.ref f_look_bits) = true)
    (a_bits_of : PySem.W.nsIn K mainGlobals "bits_of" = some (some (.ref f_bits_of)))
    (l_bits_of : K.lookup f_bits_of = some ⟨oc_bits_of, od_bits_of, .func (PySem.W.fnOf "bits_of" "bits_of" (defArgs s_bits_of) (defBody s_bits_of) (defScope s_bits_of) .none kV_bits_of dc_bits_of pm_bits_of an_bits_of cd_bits_of ct_bits_of), sl_bits_of⟩)
    (c_bits_of : PySem.W.codeIn K cd_bits_of "bits_of" = true)
    (k_bits_of : PySem.W.keepIn K (.ref f_bits_of) = true)
    (a_word_of : PySem.W.nsIn K mainGlobals "word_of" = some (some (.ref f_word_of)))
    (l_word_of : K.lookup f_word_of = some ⟨oc_word_of, od_word_of, .func (PySem.W.fnOf "word_of" "word_of" (defArgs s_word_of) (defBody s_word_of) (defScope s_word_of) .none kV_word_of dc_word_of pm_word_of an_word_of cd_word_of ct_word_of), sl_word_of⟩)
    (c_word_of : PySem.W.codeIn K cd_word_of "word_of" = true)
    (k_word_of : PySem.W.keepIn K (.ref f_word_of) = true)
    (a_is_item : PySem.W.nsIn K mainGlobals "is_item" = some (some (.ref f_is_item)))
    (l_is_item : K.lookup f_is_item = some ⟨oc_is_item, od_is_item, .func (PySem.W.fnOf "is_item" "is_item" (defArgs s_is_item) (defBody s_is_item) (defScope s_is_item) .none kV_is_item dc_is_item pm_is_item an_is_item cd_is_item ct_is_item), sl_is_item⟩)
    (c_is_item : PySem.W.codeIn K cd_is_item "is_item" = true)
    (k_is_item : PySem.W.keepIn K (.ref f_is_item) = true)
    (a_look_item : PySem.W.nsIn K mainGlobals "look_item" = some (some (.ref f_look_item)))
    (l_look_item : K.lookup f_look_item = some ⟨oc_look_item, od_look_item, .func (PySem.W.fnOf "look_item" "look_item" (defArgs s_look_item) (defBody s_look_item) (defScope s_look_item) .none kV_look_item dc_look_item pm_look_item an_look_item cd_look_item ct_look_item), sl_look_item⟩)
    (c_look_item : PySem.W.codeIn K cd_look_item "look_item" = true)
    (k_look_item : PySem.W.keepIn K (.ref f_look_item) = true)
    (a_look_poise : PySem.W.nsIn K mainGlobals "look_poise" = some (some (.ref f_look_poise)))
    (l_look_poise : K.lookup f_look_poise = some ⟨oc_look_poise, od_look_poise, .func (PySem.W.fnOf "look_poise" "look_poise" (defArgs s_look_poise) (defBody s_look_poise) (defScope s_look_poise) .none kV_look_poise dc_look_poise pm_look_poise an_look_poise cd_look_poise ct_look_poise), sl_look_poise⟩)
    (c_look_poise : PySem.W.codeIn K cd_look_poise "look_poise" = true)
    (k_look_poise : PySem.W.keepIn K (.ref f_look_poise) = true)
    (a_heavy_word : PySem.W.nsIn K mainGlobals "heavy_word" = some (some (.ref f_heavy_word)))
    (l_heavy_word : K.lookup f_heavy_word = some ⟨oc_heavy_word, od_heavy_word, .func (PySem.W.fnOf "heavy_word" "heavy_word" (defArgs s_heavy_word) (defBody s_heavy_word) (defScope s_heavy_word) .none kV_heavy_word dc_heavy_word pm_heavy_word an_heavy_word cd_heavy_word ct_heavy_word), sl_heavy_word⟩)
    (c_heavy_word : PySem.W.codeIn K cd_heavy_word "heavy_word" = true)
    (k_heavy_word : PySem.W.keepIn K (.ref f_heavy_word) = true)
    (a_put_item : PySem.W.nsIn K mainGlobals "put_item" = some (some (.ref f_put_item)))
    (l_put_item : K.lookup f_put_item = some ⟨oc_put_item, od_put_item, .func (PySem.W.fnOf "put_item" "put_item" (defArgs s_put_item) (defBody s_put_item) (defScope s_put_item) .none kV_put_item dc_put_item pm_put_item an_put_item cd_put_item ct_put_item), sl_put_item⟩)
    (c_put_item : PySem.W.codeIn K cd_put_item "put_item" = true)
    (k_put_item : PySem.W.keepIn K (.ref f_put_item) = true)
    (a_pair_item : PySem.W.nsIn K mainGlobals "pair_item" = some (some (.ref f_pair_item)))
    (l_pair_item : K.lookup f_pair_item = some ⟨oc_pair_item, od_pair_item, .func (PySem.W.fnOf "pair_item" "pair_item" (defArgs s_pair_item) (defBody s_pair_item) (defScope s_pair_item) .none kV_pair_item dc_pair_item pm_pair_item an_pair_item cd_pair_item ct_pair_item), sl_pair_item⟩)
    (c_pair_item : PySem.W.codeIn K cd_pair_item "pair_item" = true)
    (k_pair_item : PySem.W.keepIn K (.ref f_pair_item) = true)
    (a_item_at : PySem.W.nsIn K mainGlobals "item_at" = some (some (.ref f_item_at)))
    (l_item_at : K.lookup f_item_at = some ⟨oc_item_at, od_item_at, .func (PySem.W.fnOf "item_at" "item_at" (defArgs s_item_at) (defBody s_item_at) (defScope s_item_at) .none kV_item_at dc_item_at pm_item_at an_item_at cd_item_at ct_item_at), sl_item_at⟩)
    (c_item_at : PySem.W.codeIn K cd_item_at "item_at" = true)
    (k_item_at : PySem.W.keepIn K (.ref f_item_at) = true)
    (a_look_items : PySem.W.nsIn K mainGlobals "look_items" = some (some (.ref f_look_items)))
    (l_look_items : K.lookup f_look_items = some ⟨oc_look_items, od_look_items, .func (PySem.W.fnOf "look_items" "look_items" (defArgs s_look_items) (defBody s_look_items) (defScope s_look_items) .none kV_look_items dc_look_items pm_look_items an_look_items cd_look_items ct_look_items), sl_look_items⟩)
    (c_look_items : PySem.W.codeIn K cd_look_items "look_items" = true)
    (k_look_items : PySem.W.keepIn K (.ref f_look_items) = true)
    (a_sent_from : PySem.W.nsIn K mainGlobals "sent_from" = some (some (.ref f_sent_from)))
    (l_sent_from : K.lookup f_sent_from = some ⟨oc_sent_from, od_sent_from, .func (PySem.W.fnOf "sent_from" "sent_from" (defArgs s_sent_from) (defBody s_sent_from) (defScope s_sent_from) .none kV_sent_from dc_sent_from pm_sent_from an_sent_from cd_sent_from ct_sent_from), sl_sent_from⟩)
    (c_sent_from : PySem.W.codeIn K cd_sent_from "sent_from" = true)
    (k_sent_from : PySem.W.keepIn K (.ref f_sent_from) = true)
    (a_is_row : PySem.W.nsIn K mainGlobals "is_row" = some (some (.ref f_is_row)))
    (l_is_row : K.lookup f_is_row = some ⟨oc_is_row, od_is_row, .func (PySem.W.fnOf "is_row" "is_row" (defArgs s_is_row) (defBody s_is_row) (defScope s_is_row) .none kV_is_row dc_is_row pm_is_row an_is_row cd_is_row ct_is_row), sl_is_row⟩)
    (c_is_row : PySem.W.codeIn K cd_is_row "is_row" = true)
    (k_is_row : PySem.W.keepIn K (.ref f_is_row) = true)
    (a_look_row : PySem.W.nsIn K mainGlobals "look_row" = some (some (.ref f_look_row)))
    (l_look_row : K.lookup f_look_row = some ⟨oc_look_row, od_look_row, .func (PySem.W.fnOf "look_row" "look_row" (defArgs s_look_row) (defBody s_look_row) (defScope s_look_row) .none kV_look_row dc_look_row pm_look_row an_look_row cd_look_row ct_look_row), sl_look_row⟩)
    (c_look_row : PySem.W.codeIn K cd_look_row "look_row" = true)
    (k_look_row : PySem.W.keepIn K (.ref f_look_row) = true)
    (a_sum_of : PySem.W.nsIn K mainGlobals "sum_of" = some (some (.ref f_sum_of)))
    (l_sum_of : K.lookup f_sum_of = some ⟨oc_sum_of, od_sum_of, .func (PySem.W.fnOf "sum_of" "sum_of" (defArgs s_sum_of) (defBody s_sum_of) (defScope s_sum_of) .none kV_sum_of dc_sum_of pm_sum_of an_sum_of cd_sum_of ct_sum_of), sl_sum_of⟩)
    (c_sum_of : PySem.W.codeIn K cd_sum_of "sum_of" = true)
    (k_sum_of : PySem.W.keepIn K (.ref f_sum_of) = true)
    (a_check_of : PySem.W.nsIn K mainGlobals "check_of" = some (some (.ref f_check_of)))
    (l_check_of : K.lookup f_check_of = some ⟨oc_check_of, od_check_of, .func (PySem.W.fnOf "check_of" "check_of" (defArgs s_check_of) (defBody s_check_of) (defScope s_check_of) .none kV_check_of dc_check_of pm_check_of an_check_of cd_check_of ct_check_of), sl_check_of⟩)
    (c_check_of : PySem.W.codeIn K cd_check_of "check_of" = true)
    (k_check_of : PySem.W.keepIn K (.ref f_check_of) = true)
    (a_framed : PySem.W.nsIn K mainGlobals "framed" = some (some (.ref f_framed)))
    (l_framed : K.lookup f_framed = some ⟨oc_framed, od_framed, .func (PySem.W.fnOf "framed" "framed" (defArgs s_framed) (defBody s_framed) (defScope s_framed) .none kV_framed dc_framed pm_framed an_framed cd_framed ct_framed), sl_framed⟩)
    (c_framed : PySem.W.codeIn K cd_framed "framed" = true)
    (k_framed : PySem.W.keepIn K (.ref f_framed) = true)
    (a_row_within : PySem.W.nsIn K mainGlobals "row_within" = some (some (.ref f_row_within)))
    (l_row_within : K.lookup f_row_within = some ⟨oc_row_within, od_row_within, .func (PySem.W.fnOf "row_within" "row_within" (defArgs s_row_within) (defBody s_row_within) (defScope s_row_within) .none kV_row_within dc_row_within pm_row_within an_row_within cd_row_within ct_row_within), sl_row_within⟩)
    (c_row_within : PySem.W.codeIn K cd_row_within "row_within" = true)
    (k_row_within : PySem.W.keepIn K (.ref f_row_within) = true)
    (mk_Reader : mkB K cc_Reader f_Reader___init__ = true)
    (a_Reader___init__ : PySem.W.findIn K (.ref cc_Reader) "__init__" = some (some (.ref f_Reader___init__)))
    (fn_Reader___init__ : PySem.W.isFn K (.ref f_Reader___init__) = true)
    (l_Reader___init__ : K.lookup f_Reader___init__ = some ⟨oc_Reader___init__, od_Reader___init__, .func (PySem.W.fnOf "__init__" "Reader.__init__" (defArgs s_Reader___init__) (defBody s_Reader___init__) (defScope s_Reader___init__) .none kV_Reader___init__ dc_Reader___init__ pm_Reader___init__ an_Reader___init__ cd_Reader___init__ ct_Reader___init__), sl_Reader___init__⟩)
    (c_Reader___init__ : PySem.W.codeIn K cd_Reader___init__ "Reader.__init__" = true)
    (k_Reader___init__ : PySem.W.keepIn K (.ref f_Reader___init__) = true)
    (a_Reader_heard : PySem.W.findIn K (.ref cc_Reader) "heard" = some (some (.ref f_Reader_heard)))
    (fn_Reader_heard : PySem.W.isFn K (.ref f_Reader_heard) = true)
    (l_Reader_heard : K.lookup f_Reader_heard = some ⟨oc_Reader_heard, od_Reader_heard, .func (PySem.W.fnOf "heard" "Reader.heard" (defArgs s_Reader_heard) (defBody s_Reader_heard) (defScope s_Reader_heard) .none kV_Reader_heard dc_Reader_heard pm_Reader_heard an_Reader_heard cd_Reader_heard ct_Reader_heard), sl_Reader_heard⟩)
    (c_Reader_heard : PySem.W.codeIn K cd_Reader_heard "Reader.heard" = true)
    (k_Reader_heard : PySem.W.keepIn K (.ref f_Reader_heard) = true)
    (a_Reader_in_step : PySem.W.findIn K (.ref cc_Reader) "in_step" = some (some (.ref f_Reader_in_step)))
    (fn_Reader_in_step : PySem.W.isFn K (.ref f_Reader_in_step) = true)
    (l_Reader_in_step : K.lookup f_Reader_in_step = some ⟨oc_Reader_in_step, od_Reader_in_step, .func (PySem.W.fnOf "in_step" "Reader.in_step" (defArgs s_Reader_in_step) (defBody s_Reader_in_step) (defScope s_Reader_in_step) .none kV_Reader_in_step dc_Reader_in_step pm_Reader_in_step an_Reader_in_step cd_Reader_in_step ct_Reader_in_step), sl_Reader_in_step⟩)
    (c_Reader_in_step : PySem.W.codeIn K cd_Reader_in_step "Reader.in_step" = true)
    (k_Reader_in_step : PySem.W.keepIn K (.ref f_Reader_in_step) = true)
    (a_Reader_poise_now : PySem.W.findIn K (.ref cc_Reader) "poise_now" = some (some (.ref f_Reader_poise_now)))
    (fn_Reader_poise_now : PySem.W.isFn K (.ref f_Reader_poise_now) = true)
    (l_Reader_poise_now : K.lookup f_Reader_poise_now = some ⟨oc_Reader_poise_now, od_Reader_poise_now, .func (PySem.W.fnOf "poise_now" "Reader.poise_now" (defArgs s_Reader_poise_now) (defBody s_Reader_poise_now) (defScope s_Reader_poise_now) .none kV_Reader_poise_now dc_Reader_poise_now pm_Reader_poise_now an_Reader_poise_now cd_Reader_poise_now ct_Reader_poise_now), sl_Reader_poise_now⟩)
    (c_Reader_poise_now : PySem.W.codeIn K cd_Reader_poise_now "Reader.poise_now" = true)
    (k_Reader_poise_now : PySem.W.keepIn K (.ref f_Reader_poise_now) = true)
    (a_Reader_waiting : PySem.W.findIn K (.ref cc_Reader) "waiting" = some (some (.ref f_Reader_waiting)))
    (fn_Reader_waiting : PySem.W.isFn K (.ref f_Reader_waiting) = true)
    (l_Reader_waiting : K.lookup f_Reader_waiting = some ⟨oc_Reader_waiting, od_Reader_waiting, .func (PySem.W.fnOf "waiting" "Reader.waiting" (defArgs s_Reader_waiting) (defBody s_Reader_waiting) (defScope s_Reader_waiting) .none kV_Reader_waiting dc_Reader_waiting pm_Reader_waiting an_Reader_waiting cd_Reader_waiting ct_Reader_waiting), sl_Reader_waiting⟩)
    (c_Reader_waiting : PySem.W.codeIn K cd_Reader_waiting "Reader.waiting" = true)
    (k_Reader_waiting : PySem.W.keepIn K (.ref f_Reader_waiting) = true)
    (mk_Taker : mkB K cc_Taker f_Taker___init__ = true)
    (a_Taker___init__ : PySem.W.findIn K (.ref cc_Taker) "__init__" = some (some (.ref f_Taker___init__)))
    (fn_Taker___init__ : PySem.W.isFn K (.ref f_Taker___init__) = true)
    (l_Taker___init__ : K.lookup f_Taker___init__ = some ⟨oc_Taker___init__, od_Taker___init__, .func (PySem.W.fnOf "__init__" "Taker.__init__" (defArgs s_Taker___init__) (defBody s_Taker___init__) (defScope s_Taker___init__) .none kV_Taker___init__ dc_Taker___init__ pm_Taker___init__ an_Taker___init__ cd_Taker___init__ ct_Taker___init__), sl_Taker___init__⟩)
    (c_Taker___init__ : PySem.W.codeIn K cd_Taker___init__ "Taker.__init__" = true)
    (k_Taker___init__ : PySem.W.keepIn K (.ref f_Taker___init__) = true)
    (a_Taker_took : PySem.W.findIn K (.ref cc_Taker) "took" = some (some (.ref f_Taker_took)))
    (fn_Taker_took : PySem.W.isFn K (.ref f_Taker_took) = true)
    (l_Taker_took : K.lookup f_Taker_took = some ⟨oc_Taker_took, od_Taker_took, .func (PySem.W.fnOf "took" "Taker.took" (defArgs s_Taker_took) (defBody s_Taker_took) (defScope s_Taker_took) .none kV_Taker_took dc_Taker_took pm_Taker_took an_Taker_took cd_Taker_took ct_Taker_took), sl_Taker_took⟩)
    (c_Taker_took : PySem.W.codeIn K cd_Taker_took "Taker.took" = true)
    (k_Taker_took : PySem.W.keepIn K (.ref f_Taker_took) = true)
    (a_Taker_within : PySem.W.findIn K (.ref cc_Taker) "within" = some (some (.ref f_Taker_within)))
    (fn_Taker_within : PySem.W.isFn K (.ref f_Taker_within) = true)
    (l_Taker_within : K.lookup f_Taker_within = some ⟨oc_Taker_within, od_Taker_within, .func (PySem.W.fnOf "within" "Taker.within" (defArgs s_Taker_within) (defBody s_Taker_within) (defScope s_Taker_within) .none kV_Taker_within dc_Taker_within pm_Taker_within an_Taker_within cd_Taker_within ct_Taker_within), sl_Taker_within⟩)
    (c_Taker_within : PySem.W.codeIn K cd_Taker_within "Taker.within" = true)
    (k_Taker_within : PySem.W.keepIn K (.ref f_Taker_within) = true)
    (mk_Ear : mkB K cc_Ear f_Ear___init__ = true)
    (a_Ear___init__ : PySem.W.findIn K (.ref cc_Ear) "__init__" = some (some (.ref f_Ear___init__)))
    (fn_Ear___init__ : PySem.W.isFn K (.ref f_Ear___init__) = true)
    (l_Ear___init__ : K.lookup f_Ear___init__ = some ⟨oc_Ear___init__, od_Ear___init__, .func (PySem.W.fnOf "__init__" "Ear.__init__" (defArgs s_Ear___init__) (defBody s_Ear___init__) (defScope s_Ear___init__) .none kV_Ear___init__ dc_Ear___init__ pm_Ear___init__ an_Ear___init__ cd_Ear___init__ ct_Ear___init__), sl_Ear___init__⟩)
    (c_Ear___init__ : PySem.W.codeIn K cd_Ear___init__ "Ear.__init__" = true)
    (k_Ear___init__ : PySem.W.keepIn K (.ref f_Ear___init__) = true)
    (a_Ear_in_step : PySem.W.findIn K (.ref cc_Ear) "in_step" = some (some (.ref f_Ear_in_step)))
    (fn_Ear_in_step : PySem.W.isFn K (.ref f_Ear_in_step) = true)
    (l_Ear_in_step : K.lookup f_Ear_in_step = some ⟨oc_Ear_in_step, od_Ear_in_step, .func (PySem.W.fnOf "in_step" "Ear.in_step" (defArgs s_Ear_in_step) (defBody s_Ear_in_step) (defScope s_Ear_in_step) .none kV_Ear_in_step dc_Ear_in_step pm_Ear_in_step an_Ear_in_step cd_Ear_in_step ct_Ear_in_step), sl_Ear_in_step⟩)
    (c_Ear_in_step : PySem.W.codeIn K cd_Ear_in_step "Ear.in_step" = true)
    (k_Ear_in_step : PySem.W.keepIn K (.ref f_Ear_in_step) = true)
    (mk_Sender : mkB K cc_Sender f_Sender___init__ = true)
    (a_Sender___init__ : PySem.W.findIn K (.ref cc_Sender) "__init__" = some (some (.ref f_Sender___init__)))
    (fn_Sender___init__ : PySem.W.isFn K (.ref f_Sender___init__) = true)
    (l_Sender___init__ : K.lookup f_Sender___init__ = some ⟨oc_Sender___init__, od_Sender___init__, .func (PySem.W.fnOf "__init__" "Sender.__init__" (defArgs s_Sender___init__) (defBody s_Sender___init__) (defScope s_Sender___init__) .none kV_Sender___init__ dc_Sender___init__ pm_Sender___init__ an_Sender___init__ cd_Sender___init__ ct_Sender___init__), sl_Sender___init__⟩)
    (c_Sender___init__ : PySem.W.codeIn K cd_Sender___init__ "Sender.__init__" = true)
    (k_Sender___init__ : PySem.W.keepIn K (.ref f_Sender___init__) = true)
    (a_Sender_say : PySem.W.findIn K (.ref cc_Sender) "say" = some (some (.ref f_Sender_say)))
    (fn_Sender_say : PySem.W.isFn K (.ref f_Sender_say) = true)
    (l_Sender_say : K.lookup f_Sender_say = some ⟨oc_Sender_say, od_Sender_say, .func (PySem.W.fnOf "say" "Sender.say" (defArgs s_Sender_say) (defBody s_Sender_say) (defScope s_Sender_say) .none kV_Sender_say dc_Sender_say pm_Sender_say an_Sender_say cd_Sender_say ct_Sender_say), sl_Sender_say⟩)
    (c_Sender_say : PySem.W.codeIn K cd_Sender_say "Sender.say" = true)
    (k_Sender_say : PySem.W.keepIn K (.ref f_Sender_say) = true)
    (a_Sender_say_row : PySem.W.findIn K (.ref cc_Sender) "say_row" = some (some (.ref f_Sender_say_row)))
    (fn_Sender_say_row : PySem.W.isFn K (.ref f_Sender_say_row) = true)
    (l_Sender_say_row : K.lookup f_Sender_say_row = some ⟨oc_Sender_say_row, od_Sender_say_row, .func (PySem.W.fnOf "say_row" "Sender.say_row" (defArgs s_Sender_say_row) (defBody s_Sender_say_row) (defScope s_Sender_say_row) .none kV_Sender_say_row dc_Sender_say_row pm_Sender_say_row an_Sender_say_row cd_Sender_say_row ct_Sender_say_row), sl_Sender_say_row⟩)
    (c_Sender_say_row : PySem.W.codeIn K cd_Sender_say_row "Sender.say_row" = true)
    (k_Sender_say_row : PySem.W.keepIn K (.ref f_Sender_say_row) = true)
    (a_Sender_poise_now : PySem.W.findIn K (.ref cc_Sender) "poise_now" = some (some (.ref f_Sender_poise_now)))
    (fn_Sender_poise_now : PySem.W.isFn K (.ref f_Sender_poise_now) = true)
    (l_Sender_poise_now : K.lookup f_Sender_poise_now = some ⟨oc_Sender_poise_now, od_Sender_poise_now, .func (PySem.W.fnOf "poise_now" "Sender.poise_now" (defArgs s_Sender_poise_now) (defBody s_Sender_poise_now) (defScope s_Sender_poise_now) .none kV_Sender_poise_now dc_Sender_poise_now pm_Sender_poise_now an_Sender_poise_now cd_Sender_poise_now ct_Sender_poise_now), sl_Sender_poise_now⟩)
    (c_Sender_poise_now : PySem.W.codeIn K cd_Sender_poise_now "Sender.poise_now" = true)
    (k_Sender_poise_now : PySem.W.keepIn K (.ref f_Sender_poise_now) = true)
    (a_Sender_said : PySem.W.findIn K (.ref cc_Sender) "said" = some (some (.ref f_Sender_said)))
    (fn_Sender_said : PySem.W.isFn K (.ref f_Sender_said) = true)
    (l_Sender_said : K.lookup f_Sender_said = some ⟨oc_Sender_said, od_Sender_said, .func (PySem.W.fnOf "said" "Sender.said" (defArgs s_Sender_said) (defBody s_Sender_said) (defScope s_Sender_said) .none kV_Sender_said dc_Sender_said pm_Sender_said an_Sender_said cd_Sender_said ct_Sender_said), sl_Sender_said⟩)
    (c_Sender_said : PySem.W.codeIn K cd_Sender_said "Sender.said" = true)
    (k_Sender_said : PySem.W.keepIn K (.ref f_Sender_said) = true)
    (a_parted : PySem.W.nsIn K mainGlobals "parted" = some (some (.ref f_parted)))
    (l_parted : K.lookup f_parted = some ⟨oc_parted, od_parted, .func (PySem.W.fnOf "parted" "parted" (defArgs s_parted) (defBody s_parted) (defScope s_parted) (.ref dt_parted) kV_parted dc_parted pm_parted an_parted cd_parted ct_parted), sl_parted⟩)
    (dl_parted : K.lookup dt_parted = some ⟨.type "tuple", none, .seq di_parted.toArray dn_parted, ds_parted⟩)
    (dv_parted : di_parted.map absV = [V.int 0].map some)
    (c_parted : PySem.W.codeIn K cd_parted "parted" = true)
    (k_parted : PySem.W.keepIn K (.ref f_parted) = true)
    (a_is_part : PySem.W.nsIn K mainGlobals "is_part" = some (some (.ref f_is_part)))
    (l_is_part : K.lookup f_is_part = some ⟨oc_is_part, od_is_part, .func (PySem.W.fnOf "is_part" "is_part" (defArgs s_is_part) (defBody s_is_part) (defScope s_is_part) .none kV_is_part dc_is_part pm_is_part an_is_part cd_is_part ct_is_part), sl_is_part⟩)
    (c_is_part : PySem.W.codeIn K cd_is_part "is_part" = true)
    (k_is_part : PySem.W.keepIn K (.ref f_is_part) = true)
    (mk_Joiner : mkB K cc_Joiner f_Joiner___init__ = true)
    (a_Joiner___init__ : PySem.W.findIn K (.ref cc_Joiner) "__init__" = some (some (.ref f_Joiner___init__)))
    (fn_Joiner___init__ : PySem.W.isFn K (.ref f_Joiner___init__) = true)
    (l_Joiner___init__ : K.lookup f_Joiner___init__ = some ⟨oc_Joiner___init__, od_Joiner___init__, .func (PySem.W.fnOf "__init__" "Joiner.__init__" (defArgs s_Joiner___init__) (defBody s_Joiner___init__) (defScope s_Joiner___init__) .none kV_Joiner___init__ dc_Joiner___init__ pm_Joiner___init__ an_Joiner___init__ cd_Joiner___init__ ct_Joiner___init__), sl_Joiner___init__⟩)
    (c_Joiner___init__ : PySem.W.codeIn K cd_Joiner___init__ "Joiner.__init__" = true)
    (k_Joiner___init__ : PySem.W.keepIn K (.ref f_Joiner___init__) = true)
    (a_Joiner_goes_on : PySem.W.findIn K (.ref cc_Joiner) "goes_on" = some (some (.ref f_Joiner_goes_on)))
    (fn_Joiner_goes_on : PySem.W.isFn K (.ref f_Joiner_goes_on) = true)
    (l_Joiner_goes_on : K.lookup f_Joiner_goes_on = some ⟨oc_Joiner_goes_on, od_Joiner_goes_on, .func (PySem.W.fnOf "goes_on" "Joiner.goes_on" (defArgs s_Joiner_goes_on) (defBody s_Joiner_goes_on) (defScope s_Joiner_goes_on) .none kV_Joiner_goes_on dc_Joiner_goes_on pm_Joiner_goes_on an_Joiner_goes_on cd_Joiner_goes_on ct_Joiner_goes_on), sl_Joiner_goes_on⟩)
    (c_Joiner_goes_on : PySem.W.codeIn K cd_Joiner_goes_on "Joiner.goes_on" = true)
    (k_Joiner_goes_on : PySem.W.keepIn K (.ref f_Joiner_goes_on) = true)
    (a_Joiner_begun : PySem.W.findIn K (.ref cc_Joiner) "begun" = some (some (.ref f_Joiner_begun)))
    (fn_Joiner_begun : PySem.W.isFn K (.ref f_Joiner_begun) = true)
    (l_Joiner_begun : K.lookup f_Joiner_begun = some ⟨oc_Joiner_begun, od_Joiner_begun, .func (PySem.W.fnOf "begun" "Joiner.begun" (defArgs s_Joiner_begun) (defBody s_Joiner_begun) (defScope s_Joiner_begun) .none kV_Joiner_begun dc_Joiner_begun pm_Joiner_begun an_Joiner_begun cd_Joiner_begun ct_Joiner_begun), sl_Joiner_begun⟩)
    (c_Joiner_begun : PySem.W.codeIn K cd_Joiner_begun "Joiner.begun" = true)
    (k_Joiner_begun : PySem.W.keepIn K (.ref f_Joiner_begun) = true)
    (a_look_many : PySem.W.nsIn K mainGlobals "look_many" = some (some (.ref f_look_many)))
    (l_look_many : K.lookup f_look_many = some ⟨oc_look_many, od_look_many, .func (PySem.W.fnOf "look_many" "look_many" (defArgs s_look_many) (defBody s_look_many) (defScope s_look_many) .none kV_look_many dc_look_many pm_look_many an_look_many cd_look_many ct_look_many), sl_look_many⟩)
    (c_look_many : PySem.W.codeIn K cd_look_many "look_many" = true)
    (k_look_many : PySem.W.keepIn K (.ref f_look_many) = true)
    (a_dealt : PySem.W.nsIn K mainGlobals "dealt" = some (some (.ref f_dealt)))
    (l_dealt : K.lookup f_dealt = some ⟨oc_dealt, od_dealt, .func (PySem.W.fnOf "dealt" "dealt" (defArgs s_dealt) (defBody s_dealt) (defScope s_dealt) .none kV_dealt dc_dealt pm_dealt an_dealt cd_dealt ct_dealt), sl_dealt⟩)
    (c_dealt : PySem.W.codeIn K cd_dealt "dealt" = true)
    (k_dealt : PySem.W.keepIn K (.ref f_dealt) = true)
    (a_fits : PySem.W.nsIn K mainGlobals "fits" = some (some (.ref f_fits)))
    (l_fits : K.lookup f_fits = some ⟨oc_fits, od_fits, .func (PySem.W.fnOf "fits" "fits" (defArgs s_fits) (defBody s_fits) (defScope s_fits) .none kV_fits dc_fits pm_fits an_fits cd_fits ct_fits), sl_fits⟩)
    (c_fits : PySem.W.codeIn K cd_fits "fits" = true)
    (k_fits : PySem.W.keepIn K (.ref f_fits) = true)
    (a_gathered : PySem.W.nsIn K mainGlobals "gathered" = some (some (.ref f_gathered)))
    (l_gathered : K.lookup f_gathered = some ⟨oc_gathered, od_gathered, .func (PySem.W.fnOf "gathered" "gathered" (defArgs s_gathered) (defBody s_gathered) (defScope s_gathered) .none kV_gathered dc_gathered pm_gathered an_gathered cd_gathered ct_gathered), sl_gathered⟩)
    (c_gathered : PySem.W.codeIn K cd_gathered "gathered" = true)
    (k_gathered : PySem.W.keepIn K (.ref f_gathered) = true)
    (mk_Lanes : mkB K cc_Lanes f_Lanes___init__ = true)
    (a_Lanes___init__ : PySem.W.findIn K (.ref cc_Lanes) "__init__" = some (some (.ref f_Lanes___init__)))
    (fn_Lanes___init__ : PySem.W.isFn K (.ref f_Lanes___init__) = true)
    (l_Lanes___init__ : K.lookup f_Lanes___init__ = some ⟨oc_Lanes___init__, od_Lanes___init__, .func (PySem.W.fnOf "__init__" "Lanes.__init__" (defArgs s_Lanes___init__) (defBody s_Lanes___init__) (defScope s_Lanes___init__) .none kV_Lanes___init__ dc_Lanes___init__ pm_Lanes___init__ an_Lanes___init__ cd_Lanes___init__ ct_Lanes___init__), sl_Lanes___init__⟩)
    (c_Lanes___init__ : PySem.W.codeIn K cd_Lanes___init__ "Lanes.__init__" = true)
    (k_Lanes___init__ : PySem.W.keepIn K (.ref f_Lanes___init__) = true)
    (a_Lanes_drop_late : PySem.W.findIn K (.ref cc_Lanes) "drop_late" = some (some (.ref f_Lanes_drop_late)))
    (fn_Lanes_drop_late : PySem.W.isFn K (.ref f_Lanes_drop_late) = true)
    (l_Lanes_drop_late : K.lookup f_Lanes_drop_late = some ⟨oc_Lanes_drop_late, od_Lanes_drop_late, .func (PySem.W.fnOf "drop_late" "Lanes.drop_late" (defArgs s_Lanes_drop_late) (defBody s_Lanes_drop_late) (defScope s_Lanes_drop_late) .none kV_Lanes_drop_late dc_Lanes_drop_late pm_Lanes_drop_late an_Lanes_drop_late cd_Lanes_drop_late ct_Lanes_drop_late), sl_Lanes_drop_late⟩)
    (c_Lanes_drop_late : PySem.W.codeIn K cd_Lanes_drop_late "Lanes.drop_late" = true)
    (k_Lanes_drop_late : PySem.W.keepIn K (.ref f_Lanes_drop_late) = true)
    (a_Lanes_one : PySem.W.findIn K (.ref cc_Lanes) "one" = some (some (.ref f_Lanes_one)))
    (fn_Lanes_one : PySem.W.isFn K (.ref f_Lanes_one) = true)
    (l_Lanes_one : K.lookup f_Lanes_one = some ⟨oc_Lanes_one, od_Lanes_one, .func (PySem.W.fnOf "one" "Lanes.one" (defArgs s_Lanes_one) (defBody s_Lanes_one) (defScope s_Lanes_one) .none kV_Lanes_one dc_Lanes_one pm_Lanes_one an_Lanes_one cd_Lanes_one ct_Lanes_one), sl_Lanes_one⟩)
    (c_Lanes_one : PySem.W.codeIn K cd_Lanes_one "Lanes.one" = true)
    (k_Lanes_one : PySem.W.keepIn K (.ref f_Lanes_one) = true)
    (a_Lanes_due : PySem.W.findIn K (.ref cc_Lanes) "due" = some (some (.ref f_Lanes_due)))
    (fn_Lanes_due : PySem.W.isFn K (.ref f_Lanes_due) = true)
    (l_Lanes_due : K.lookup f_Lanes_due = some ⟨oc_Lanes_due, od_Lanes_due, .func (PySem.W.fnOf "due" "Lanes.due" (defArgs s_Lanes_due) (defBody s_Lanes_due) (defScope s_Lanes_due) .none kV_Lanes_due dc_Lanes_due pm_Lanes_due an_Lanes_due cd_Lanes_due ct_Lanes_due), sl_Lanes_due⟩)
    (c_Lanes_due : PySem.W.codeIn K cd_Lanes_due "Lanes.due" = true)
    (k_Lanes_due : PySem.W.keepIn K (.ref f_Lanes_due) = true)
    (a_Lanes_held : PySem.W.findIn K (.ref cc_Lanes) "held" = some (some (.ref f_Lanes_held)))
    (fn_Lanes_held : PySem.W.isFn K (.ref f_Lanes_held) = true)
    (l_Lanes_held : K.lookup f_Lanes_held = some ⟨oc_Lanes_held, od_Lanes_held, .func (PySem.W.fnOf "held" "Lanes.held" (defArgs s_Lanes_held) (defBody s_Lanes_held) (defScope s_Lanes_held) .none kV_Lanes_held dc_Lanes_held pm_Lanes_held an_Lanes_held cd_Lanes_held ct_Lanes_held), sl_Lanes_held⟩)
    (c_Lanes_held : PySem.W.codeIn K cd_Lanes_held "Lanes.held" = true)
    (k_Lanes_held : PySem.W.keepIn K (.ref f_Lanes_held) = true)
    (a__law_town : PySem.W.nsIn K mainGlobals "_law_town" = some (some (.ref f__law_town)))
    (l__law_town : K.lookup f__law_town = some ⟨oc__law_town, od__law_town, .func (PySem.W.fnOf "_law_town" "_law_town" (defArgs s__law_town) (defBody s__law_town) (defScope s__law_town) .none kV__law_town dc__law_town pm__law_town an__law_town cd__law_town ct__law_town), sl__law_town⟩)
    (c__law_town : PySem.W.codeIn K cd__law_town "_law_town" = true)
    (k__law_town : PySem.W.keepIn K (.ref f__law_town) = true)
    (a__law_draw : PySem.W.nsIn K mainGlobals "_law_draw" = some (some (.ref f__law_draw)))
    (l__law_draw : K.lookup f__law_draw = some ⟨oc__law_draw, od__law_draw, .func (PySem.W.fnOf "_law_draw" "_law_draw" (defArgs s__law_draw) (defBody s__law_draw) (defScope s__law_draw) .none kV__law_draw dc__law_draw pm__law_draw an__law_draw cd__law_draw ct__law_draw), sl__law_draw⟩)
    (c__law_draw : PySem.W.codeIn K cd__law_draw "_law_draw" = true)
    (k__law_draw : PySem.W.keepIn K (.ref f__law_draw) = true)
    (a__law_pick : PySem.W.nsIn K mainGlobals "_law_pick" = some (some (.ref f__law_pick)))
    (l__law_pick : K.lookup f__law_pick = some ⟨oc__law_pick, od__law_pick, .func (PySem.W.fnOf "_law_pick" "_law_pick" (defArgs s__law_pick) (defBody s__law_pick) (defScope s__law_pick) .none kV__law_pick dc__law_pick pm__law_pick an__law_pick cd__law_pick ct__law_pick), sl__law_pick⟩)
    (c__law_pick : PySem.W.codeIn K cd__law_pick "_law_pick" = true)
    (k__law_pick : PySem.W.keepIn K (.ref f__law_pick) = true)
    (a__law_ten : PySem.W.nsIn K mainGlobals "_law_ten" = some (some (.ref f__law_ten)))
    (l__law_ten : K.lookup f__law_ten = some ⟨oc__law_ten, od__law_ten, .func (PySem.W.fnOf "_law_ten" "_law_ten" (defArgs s__law_ten) (defBody s__law_ten) (defScope s__law_ten) .none kV__law_ten dc__law_ten pm__law_ten an__law_ten cd__law_ten ct__law_ten), sl__law_ten⟩)
    (c__law_ten : PySem.W.codeIn K cd__law_ten "_law_ten" = true)
    (k__law_ten : PySem.W.keepIn K (.ref f__law_ten) = true)
    (a__law_some_bits : PySem.W.nsIn K mainGlobals "_law_some_bits" = some (some (.ref f__law_some_bits)))
    (l__law_some_bits : K.lookup f__law_some_bits = some ⟨oc__law_some_bits, od__law_some_bits, .func (PySem.W.fnOf "_law_some_bits" "_law_some_bits" (defArgs s__law_some_bits) (defBody s__law_some_bits) (defScope s__law_some_bits) .none kV__law_some_bits dc__law_some_bits pm__law_some_bits an__law_some_bits cd__law_some_bits ct__law_some_bits), sl__law_some_bits⟩)
    (c__law_some_bits : PySem.W.codeIn K cd__law_some_bits "_law_some_bits" = true)
    (k__law_some_bits : PySem.W.keepIn K (.ref f__law_some_bits) = true)
    (a__law_byte : PySem.W.nsIn K mainGlobals "_law_byte" = some (some (.ref f__law_byte)))
    (l__law_byte : K.lookup f__law_byte = some ⟨oc__law_byte, od__law_byte, .func (PySem.W.fnOf "_law_byte" "_law_byte" (defArgs s__law_byte) (defBody s__law_byte) (defScope s__law_byte) .none kV__law_byte dc__law_byte pm__law_byte an__law_byte cd__law_byte ct__law_byte), sl__law_byte⟩)
    (c__law_byte : PySem.W.codeIn K cd__law_byte "_law_byte" = true)
    (k__law_byte : PySem.W.keepIn K (.ref f__law_byte) = true)
    (a__law_gap : PySem.W.nsIn K mainGlobals "_law_gap" = some (some (.ref f__law_gap)))
    (l__law_gap : K.lookup f__law_gap = some ⟨oc__law_gap, od__law_gap, .func (PySem.W.fnOf "_law_gap" "_law_gap" (defArgs s__law_gap) (defBody s__law_gap) (defScope s__law_gap) .none kV__law_gap dc__law_gap pm__law_gap an__law_gap cd__law_gap ct__law_gap), sl__law_gap⟩)
    (c__law_gap : PySem.W.codeIn K cd__law_gap "_law_gap" = true)
    (k__law_gap : PySem.W.keepIn K (.ref f__law_gap) = true)
    (a_Reader_found : PySem.W.findIn K (.ref cc_Reader) "found" = some (some (.ref f_Reader_found)))
    (fn_Reader_found : PySem.W.isFn K (.ref f_Reader_found) = true)
    (l_Reader_found : K.lookup f_Reader_found = some ⟨oc_Reader_found, od_Reader_found, .func (PySem.W.fnOf "found" "Reader.found" (defArgs s_Reader_found) (defBody s_Reader_found) (defScope s_Reader_found) .none kV_Reader_found dc_Reader_found pm_Reader_found an_Reader_found cd_Reader_found ct_Reader_found), sl_Reader_found⟩)
    (c_Reader_found : PySem.W.codeIn K cd_Reader_found "Reader.found" = true)
    (k_Reader_found : PySem.W.keepIn K (.ref f_Reader_found) = true)
    (a_Taker_take : PySem.W.findIn K (.ref cc_Taker) "take" = some (some (.ref f_Taker_take)))
    (fn_Taker_take : PySem.W.isFn K (.ref f_Taker_take) = true)
    (l_Taker_take : K.lookup f_Taker_take = some ⟨oc_Taker_take, od_Taker_take, .func (PySem.W.fnOf "take" "Taker.take" (defArgs s_Taker_take) (defBody s_Taker_take) (defScope s_Taker_take) .none kV_Taker_take dc_Taker_take pm_Taker_take an_Taker_take cd_Taker_take ct_Taker_take), sl_Taker_take⟩)
    (c_Taker_take : PySem.W.codeIn K cd_Taker_take "Taker.take" = true)
    (k_Taker_take : PySem.W.keepIn K (.ref f_Taker_take) = true)
    (a_Joiner_take : PySem.W.findIn K (.ref cc_Joiner) "take" = some (some (.ref f_Joiner_take)))
    (fn_Joiner_take : PySem.W.isFn K (.ref f_Joiner_take) = true)
    (l_Joiner_take : K.lookup f_Joiner_take = some ⟨oc_Joiner_take, od_Joiner_take, .func (PySem.W.fnOf "take" "Joiner.take" (defArgs s_Joiner_take) (defBody s_Joiner_take) (defScope s_Joiner_take) .none kV_Joiner_take dc_Joiner_take pm_Joiner_take an_Joiner_take cd_Joiner_take ct_Joiner_take), sl_Joiner_take⟩)
    (c_Joiner_take : PySem.W.codeIn K cd_Joiner_take "Joiner.take" = true)
    (k_Joiner_take : PySem.W.keepIn K (.ref f_Joiner_take) = true)
    (a_Lanes_come : PySem.W.findIn K (.ref cc_Lanes) "come" = some (some (.ref f_Lanes_come)))
    (fn_Lanes_come : PySem.W.isFn K (.ref f_Lanes_come) = true)
    (l_Lanes_come : K.lookup f_Lanes_come = some ⟨oc_Lanes_come, od_Lanes_come, .func (PySem.W.fnOf "come" "Lanes.come" (defArgs s_Lanes_come) (defBody s_Lanes_come) (defScope s_Lanes_come) .none kV_Lanes_come dc_Lanes_come pm_Lanes_come an_Lanes_come cd_Lanes_come ct_Lanes_come), sl_Lanes_come⟩)
    (c_Lanes_come : PySem.W.codeIn K cd_Lanes_come "Lanes.come" = true)
    (k_Lanes_come : PySem.W.keepIn K (.ref f_Lanes_come) = true)
    (a_Reader_hear : PySem.W.findIn K (.ref cc_Reader) "hear" = some (some (.ref f_Reader_hear)))
    (fn_Reader_hear : PySem.W.isFn K (.ref f_Reader_hear) = true)
    (l_Reader_hear : K.lookup f_Reader_hear = some ⟨oc_Reader_hear, od_Reader_hear, .func (PySem.W.fnOf "hear" "Reader.hear" (defArgs s_Reader_hear) (defBody s_Reader_hear) (defScope s_Reader_hear) .none kV_Reader_hear dc_Reader_hear pm_Reader_hear an_Reader_hear cd_Reader_hear ct_Reader_hear), sl_Reader_hear⟩)
    (c_Reader_hear : PySem.W.codeIn K cd_Reader_hear "Reader.hear" = true)
    (k_Reader_hear : PySem.W.keepIn K (.ref f_Reader_hear) = true)
    (a_Ear_hear : PySem.W.findIn K (.ref cc_Ear) "hear" = some (some (.ref f_Ear_hear)))
    (fn_Ear_hear : PySem.W.isFn K (.ref f_Ear_hear) = true)
    (l_Ear_hear : K.lookup f_Ear_hear = some ⟨oc_Ear_hear, od_Ear_hear, .func (PySem.W.fnOf "hear" "Ear.hear" (defArgs s_Ear_hear) (defBody s_Ear_hear) (defScope s_Ear_hear) .none kV_Ear_hear dc_Ear_hear pm_Ear_hear an_Ear_hear cd_Ear_hear ct_Ear_hear), sl_Ear_hear⟩)
    (c_Ear_hear : PySem.W.codeIn K cd_Ear_hear "Ear.hear" = true)
    (k_Ear_hear : PySem.W.keepIn K (.ref f_Ear_hear) = true)
    (a_law : PySem.W.nsIn K mainGlobals "law" = some (some (.ref f_law)))
    (l_law : K.lookup f_law = some ⟨oc_law, od_law, .func (PySem.W.fnOf "law" "law" (defArgs s_law) (defBody s_law) (defScope s_law) .none kV_law dc_law pm_law an_law cd_law ct_law), sl_law⟩)
    (c_law : PySem.W.codeIn K cd_law "law" = true)
    (k_law : PySem.W.keepIn K (.ref f_law) = true)
    (cn_BEGIN : PySem.W.nsIn K mainGlobals "BEGIN" = some (some (.str "begin" t_BEGIN)))
    (ga_CONTROLS : PySem.W.nsIn K mainGlobals "CONTROLS" = some (some (.ref ca_CONTROLS)))
    (gl_CONTROLS : K.lookup ca_CONTROLS = some ⟨.type "tuple", none, .seq ci_CONTROLS.toArray cn_CONTROLS, cs_CONTROLS⟩)
    (gv_CONTROLS : ci_CONTROLS.map absV = cv_CONTROLS.map some)
    (ga_EVEN : PySem.W.nsIn K mainGlobals "EVEN" = some (some (.ref ca_EVEN)))
    (gl_EVEN : K.lookup ca_EVEN = some ⟨.type "tuple", none, .seq ci_EVEN.toArray cn_EVEN, cs_EVEN⟩)
    (gv_EVEN : ci_EVEN.map absV = cv_EVEN.map some)
    (cn_HEAD : PySem.W.nsIn K mainGlobals "HEAD" = some (some (.int 3 t_HEAD)))
    (ga_HEAVY : PySem.W.nsIn K mainGlobals "HEAVY" = some (some (.ref ca_HEAVY)))
    (gl_HEAVY : K.lookup ca_HEAVY = some ⟨.type "tuple", none, .seq ci_HEAVY.toArray cn_HEAVY, cs_HEAVY⟩)
    (gv_HEAVY : ci_HEAVY.map absV = cv_HEAVY.map some)
    (cn_LATE : PySem.W.nsIn K mainGlobals "LATE" = some (some (.int 128 t_LATE)))
    (cn_LONG : PySem.W.nsIn K mainGlobals "LONG" = some (some (.int 10 t_LONG)))
    (cn_LOST : PySem.W.nsIn K mainGlobals "LOST" = some (some (.str "lost" t_LOST)))
    (cn_MARK : PySem.W.nsIn K mainGlobals "MARK" = some (some (.int 250 t_MARK)))
    (cn_MODULUS : PySem.W.nsIn K mainGlobals "MODULUS" = some (some (.int 65521 t_MODULUS)))
    (cn_MOST : PySem.W.nsIn K mainGlobals "MOST" = some (some (.int 1023 t_MOST)))
    (cn_MOST_PARTS : PySem.W.nsIn K mainGlobals "MOST_PARTS" = some (some (.int 10 t_MOST_PARTS)))
    (cn_MOST_ROW : PySem.W.nsIn K mainGlobals "MOST_ROW" = some (some (.int 64 t_MOST_ROW)))
    (cn_PAIRS : PySem.W.nsIn K mainGlobals "PAIRS" = some (some (.int 76 t_PAIRS)))
    (cn_PIECE : PySem.W.nsIn K mainGlobals "PIECE" = some (some (.int 61 t_PIECE)))
    (ga_SIGNS : PySem.W.nsIn K mainGlobals "SIGNS" = some (some (.ref ca_SIGNS)))
    (gl_SIGNS : K.lookup ca_SIGNS = some ⟨.type "tuple", none, .seq ci_SIGNS.toArray cn_SIGNS, cs_SIGNS⟩)
    (gv_SIGNS : ci_SIGNS.map absV = [some (V.ref cb0_SIGNS), some (V.ref cb1_SIGNS)])
    (gl0_SIGNS : K.lookup cb0_SIGNS = some ⟨.type "tuple", none, .seq cbi0_SIGNS.toArray cbn0_SIGNS, cbs0_SIGNS⟩)
    (gv0_SIGNS : cbi0_SIGNS.map absV = (n0_SIGNS.map V.int).map some)
    (gl1_SIGNS : K.lookup cb1_SIGNS = some ⟨.type "tuple", none, .seq cbi1_SIGNS.toArray cbn1_SIGNS, cbs1_SIGNS⟩)
    (gv1_SIGNS : cbi1_SIGNS.map absV = (n1_SIGNS.map V.int).map some)
    (cn_TURNS : PySem.W.nsIn K mainGlobals "TURNS" = some (some (.int 256 t_TURNS)))
    (n_all : PySem.W.nsIn K mainGlobals "all" = some none)
    (n_bool : PySem.W.nsIn K mainGlobals "bool" = some none)
    (n_divmod : PySem.W.nsIn K mainGlobals "divmod" = some none)
    (n_enumerate : PySem.W.nsIn K mainGlobals "enumerate" = some none)
    (n_int : PySem.W.nsIn K mainGlobals "int" = some none)
    (n_isinstance : PySem.W.nsIn K mainGlobals "isinstance" = some none)
    (n_len : PySem.W.nsIn K mainGlobals "len" = some none)
    (n_list : PySem.W.nsIn K mainGlobals "list" = some none)
    (n_max : PySem.W.nsIn K mainGlobals "max" = some none)
    (n_range : PySem.W.nsIn K mainGlobals "range" = some none)
    (n_sorted : PySem.W.nsIn K mainGlobals "sorted" = some none)
    (n_str : PySem.W.nsIn K mainGlobals "str" = some none)
    (n_sum : PySem.W.nsIn K mainGlobals "sum" = some none)
    (n_tuple : PySem.W.nsIn K mainGlobals "tuple" = some none)
    (xa_BadBits : PySem.W.nsIn K mainGlobals "BadBits" = some (some (.ref xc_BadBits)))
    (xx_BadBits : PySem.W.excIn K xc_BadBits [.type "ValueError", .type "Exception", .type "BaseException", .type "object"] "ValueError.__new__" = true)
    (xk_BadBits : PySem.W.keepIn K (.ref xc_BadBits) = true)
    (xb_BadBits : PySem.W.subIn K (.ref xc_BadBits) (.type "BaseException") = some true)
    (xt_BadBits : PySem.W.typeIn K (.ref xc_BadBits) = some (.type "type"))
    (xa_BadItem : PySem.W.nsIn K mainGlobals "BadItem" = some (some (.ref xc_BadItem)))
    (xx_BadItem : PySem.W.excIn K xc_BadItem [.type "ValueError", .type "Exception", .type "BaseException", .type "object"] "ValueError.__new__" = true)
    (xk_BadItem : PySem.W.keepIn K (.ref xc_BadItem) = true)
    (xb_BadItem : PySem.W.subIn K (.ref xc_BadItem) (.type "BaseException") = some true)
    (xt_BadItem : PySem.W.typeIn K (.ref xc_BadItem) = some (.type "type"))
    (xa_BadLane : PySem.W.nsIn K mainGlobals "BadLane" = some (some (.ref xc_BadLane)))
    (xx_BadLane : PySem.W.excIn K xc_BadLane [.type "ValueError", .type "Exception", .type "BaseException", .type "object"] "ValueError.__new__" = true)
    (xk_BadLane : PySem.W.keepIn K (.ref xc_BadLane) = true)
    (xb_BadLane : PySem.W.subIn K (.ref xc_BadLane) (.type "BaseException") = some true)
    (xt_BadLane : PySem.W.typeIn K (.ref xc_BadLane) = some (.type "type"))
    (xa_BadPoise : PySem.W.nsIn K mainGlobals "BadPoise" = some (some (.ref xc_BadPoise)))
    (xx_BadPoise : PySem.W.excIn K xc_BadPoise [.type "ValueError", .type "Exception", .type "BaseException", .type "object"] "ValueError.__new__" = true)
    (xk_BadPoise : PySem.W.keepIn K (.ref xc_BadPoise) = true)
    (xb_BadPoise : PySem.W.subIn K (.ref xc_BadPoise) (.type "BaseException") = some true)
    (xt_BadPoise : PySem.W.typeIn K (.ref xc_BadPoise) = some (.type "type"))
    (xa_BadRow : PySem.W.nsIn K mainGlobals "BadRow" = some (some (.ref xc_BadRow)))
    (xx_BadRow : PySem.W.excIn K xc_BadRow [.type "ValueError", .type "Exception", .type "BaseException", .type "object"] "ValueError.__new__" = true)
    (xk_BadRow : PySem.W.keepIn K (.ref xc_BadRow) = true)
    (xb_BadRow : PySem.W.subIn K (.ref xc_BadRow) (.type "BaseException") = some true)
    (xt_BadRow : PySem.W.typeIn K (.ref xc_BadRow) = some (.type "type"))
    (xa_BadWord : PySem.W.nsIn K mainGlobals "BadWord" = some (some (.ref xc_BadWord)))
    (xx_BadWord : PySem.W.excIn K xc_BadWord [.type "ValueError", .type "Exception", .type "BaseException", .type "object"] "ValueError.__new__" = true)
    (xk_BadWord : PySem.W.keepIn K (.ref xc_BadWord) = true)
    (xb_BadWord : PySem.W.subIn K (.ref xc_BadWord) (.type "BaseException") = some true)
    (xt_BadWord : PySem.W.typeIn K (.ref xc_BadWord) = some (.type "type")) :
    ∃ fd : FuncData, (∀ (s : Shared) (v : Value), BindsTo s fd ⟨[v], []⟩ [("script", v)]) ∧ ∀ base : Heap, K.In base → base.Ns mainGlobals mg → FnOk l.prog w K mg base (L2.CX l.prog w) 9 fa fd ["script"] (spLaw K) := by
  have e := hfa.symm.trans (PySem.W.mg_of X G a_law)
  cases e
  have F__wall := fun_mk (st := s__wall) l__wall c__wall k__wall
  have b__wall := F__wall.binds (ps := p__wall) fun _ _ _ _ _ _ us hl => match us, hl with | [_], _ => rfl
  have F_is_whole := fun_mk (st := s_is_whole) l_is_whole c_is_whole k_is_whole
  have b_is_whole := F_is_whole.binds (ps := p_is_whole) fun _ _ _ _ _ _ us hl => match us, hl with | [_, _, _], _ => rfl
  have F_look_word := fun_mk (st := s_look_word) l_look_word c_look_word k_look_word
  have b_look_word := F_look_word.binds (ps := p_look_word) fun _ _ _ _ _ _ us hl => match us, hl with | [_], _ => rfl
  have F_look_bits := fun_mk (st := s_look_bits) l_look_bits c_look_bits k_look_bits
  have b_look_bits := F_look_bits.binds (ps := p_look_bits) fun _ _ _ _ _ _ us hl => match us, hl with | [_], _ => rfl
  have F_bits_of := fun_mk (st := s_bits_of) l_bits_of c_bits_of k_bits_of
  have b_bits_of := F_bits_of.binds (ps := p_bits_of) fun _ _ _ _ _ _ us hl => match us, hl with | [_], _ => rfl
  have F_word_of := fun_mk (st := s_word_of) l_word_of c_word_of k_word_of
  have b_word_of := F_word_of.binds (ps := p_word_of) fun _ _ _ _ _ _ us hl => match us, hl with | [_], _ => rfl
  have F_is_item := fun_mk (st := s_is_item) l_is_item c_is_item k_is_item
  have b_is_item := F_is_item.binds (ps := p_is_item) fun _ _ _ _ _ _ us hl => match us, hl with | [_], _ => rfl
  have F_look_item := fun_mk (st := s_look_item) l_look_item c_look_item k_look_item
  have b_look_item := F_look_item.binds (ps := p_look_item) fun _ _ _ _ _ _ us hl => match us, hl with | [_], _ => rfl
  have F_look_poise := fun_mk (st := s_look_poise) l_look_poise c_look_poise k_look_poise
  have b_look_poise := F_look_poise.binds (ps := p_look_poise) fun _ _ _ _ _ _ us hl => match us, hl with | [_], _ => rfl
  have F_heavy_word := fun_mk (st := s_heavy_word) l_heavy_word c_heavy_word k_heavy_word
  have b_heavy_word := F_heavy_word.binds (ps := p_heavy_word) fun _ _ _ _ _ _ us hl => match us, hl with | [_], _ => rfl
  have F_put_item := fun_mk (st := s_put_item) l_put_item c_put_item k_put_item
  have b_put_item := F_put_item.binds (ps := p_put_item) fun _ _ _ _ _ _ us hl => match us, hl with | [_, _], _ => rfl
  have F_pair_item := fun_mk (st := s_pair_item) l_pair_item c_pair_item k_pair_item
  have b_pair_item := F_pair_item.binds (ps := p_pair_item) fun _ _ _ _ _ _ us hl => match us, hl with | [_], _ => rfl
  have F_item_at := fun_mk (st := s_item_at) l_item_at c_item_at k_item_at
  have b_item_at := F_item_at.binds (ps := p_item_at) fun _ _ _ _ _ _ us hl => match us, hl with | [_], _ => rfl
  have F_look_items := fun_mk (st := s_look_items) l_look_items c_look_items k_look_items
  have b_look_items := F_look_items.binds (ps := p_look_items) fun _ _ _ _ _ _ us hl => match us, hl with | [_], _ => rfl
  have F_sent_from := fun_mk (st := s_sent_from) l_sent_from c_sent_from k_sent_from
  have b_sent_from := F_sent_from.binds (ps := p_sent_from) fun _ _ _ _ _ _ us hl => match us, hl with | [_, _], _ => rfl
  have F_is_row := fun_mk (st := s_is_row) l_is_row c_is_row k_is_row
  have b_is_row := F_is_row.binds (ps := p_is_row) fun _ _ _ _ _ _ us hl => match us, hl with | [_, _], _ => rfl
  have F_look_row := fun_mk (st := s_look_row) l_look_row c_look_row k_look_row
  have b_look_row := F_look_row.binds (ps := p_look_row) fun _ _ _ _ _ _ us hl => match us, hl with | [_, _], _ => rfl
  have F_sum_of := fun_mk (st := s_sum_of) l_sum_of c_sum_of k_sum_of
  have b_sum_of := F_sum_of.binds (ps := p_sum_of) fun _ _ _ _ _ _ us hl => match us, hl with | [_], _ => rfl
  have F_check_of := fun_mk (st := s_check_of) l_check_of c_check_of k_check_of
  have b_check_of := F_check_of.binds (ps := p_check_of) fun _ _ _ _ _ _ us hl => match us, hl with | [_], _ => rfl
  have F_framed := fun_mk (st := s_framed) l_framed c_framed k_framed
  have b_framed := F_framed.binds (ps := p_framed) fun _ _ _ _ _ _ us hl => match us, hl with | [_], _ => rfl
  have F_row_within := fun_mk (st := s_row_within) l_row_within c_row_within k_row_within
  have b_row_within := F_row_within.binds (ps := p_row_within) fun _ _ _ _ _ _ us hl => match us, hl with | [_], _ => rfl
  have F_Reader___init__ := fun_mk (st := s_Reader___init__) l_Reader___init__ c_Reader___init__ k_Reader___init__
  have b_Reader___init__ := F_Reader___init__.binds (ps := p_Reader___init__) fun _ _ _ _ _ _ us hl => match us, hl with | [_], _ => rfl
  have F_Reader_heard := fun_mk (st := s_Reader_heard) l_Reader_heard c_Reader_heard k_Reader_heard
  have b_Reader_heard := F_Reader_heard.binds (ps := p_Reader_heard) fun _ _ _ _ _ _ us hl => match us, hl with | [_, _], _ => rfl
  have F_Reader_in_step := fun_mk (st := s_Reader_in_step) l_Reader_in_step c_Reader_in_step k_Reader_in_step
  have b_Reader_in_step := F_Reader_in_step.binds (ps := p_Reader_in_step) fun _ _ _ _ _ _ us hl => match us, hl with | [_], _ => rfl
  have F_Reader_poise_now := fun_mk (st := s_Reader_poise_now) l_Reader_poise_now c_Reader_poise_now k_Reader_poise_now
  have b_Reader_poise_now := F_Reader_poise_now.binds (ps := p_Reader_poise_now) fun _ _ _ _ _ _ us hl => match us, hl with | [_], _ => rfl
  have F_Reader_waiting := fun_mk (st := s_Reader_waiting) l_Reader_waiting c_Reader_waiting k_Reader_waiting
  have b_Reader_waiting := F_Reader_waiting.binds (ps := p_Reader_waiting) fun _ _ _ _ _ _ us hl => match us, hl with | [_], _ => rfl
  have F_Taker___init__ := fun_mk (st := s_Taker___init__) l_Taker___init__ c_Taker___init__ k_Taker___init__
  have b_Taker___init__ := F_Taker___init__.binds (ps := p_Taker___init__) fun _ _ _ _ _ _ us hl => match us, hl with | [_], _ => rfl
  have F_Taker_took := fun_mk (st := s_Taker_took) l_Taker_took c_Taker_took k_Taker_took
  have b_Taker_took := F_Taker_took.binds (ps := p_Taker_took) fun _ _ _ _ _ _ us hl => match us, hl with | [_, _], _ => rfl
  have F_Taker_within := fun_mk (st := s_Taker_within) l_Taker_within c_Taker_within k_Taker_within
  have b_Taker_within := F_Taker_within.binds (ps := p_Taker_within) fun _ _ _ _ _ _ us hl => match us, hl with | [_], _ => rfl
  have F_Ear___init__ := fun_mk (st := s_Ear___init__) l_Ear___init__ c_Ear___init__ k_Ear___init__
  have b_Ear___init__ := F_Ear___init__.binds (ps := p_Ear___init__) fun _ _ _ _ _ _ us hl => match us, hl with | [_], _ => rfl
  have F_Ear_in_step := fun_mk (st := s_Ear_in_step) l_Ear_in_step c_Ear_in_step k_Ear_in_step
  have b_Ear_in_step := F_Ear_in_step.binds (ps := p_Ear_in_step) fun _ _ _ _ _ _ us hl => match us, hl with | [_], _ => rfl
  have F_Sender___init__ := fun_mk (st := s_Sender___init__) l_Sender___init__ c_Sender___init__ k_Sender___init__
  have b_Sender___init__ := F_Sender___init__.binds (ps := p_Sender___init__) fun _ _ _ _ _ _ us hl => match us, hl with | [_], _ => rfl
  have F_Sender_say := fun_mk (st := s_Sender_say) l_Sender_say c_Sender_say k_Sender_say
  have b_Sender_say := F_Sender_say.binds (ps := p_Sender_say) fun _ _ _ _ _ _ us hl => match us, hl with | [_, _], _ => rfl
  have F_Sender_say_row := fun_mk (st := s_Sender_say_row) l_Sender_say_row c_Sender_say_row k_Sender_say_row
  have b_Sender_say_row := F_Sender_say_row.binds (ps := p_Sender_say_row) fun _ _ _ _ _ _ us hl => match us, hl with | [_, _], _ => rfl
  have F_Sender_poise_now := fun_mk (st := s_Sender_poise_now) l_Sender_poise_now c_Sender_poise_now k_Sender_poise_now
  have b_Sender_poise_now := F_Sender_poise_now.binds (ps := p_Sender_poise_now) fun _ _ _ _ _ _ us hl => match us, hl with | [_], _ => rfl
  have F_Sender_said := fun_mk (st := s_Sender_said) l_Sender_said c_Sender_said k_Sender_said
  have b_Sender_said := F_Sender_said.binds (ps := p_Sender_said) fun _ _ _ _ _ _ us hl => match us, hl with | [_], _ => rfl
  have F_parted := funD_mk (st1 := s_parted) (dvs := [V.int 0]) l_parted c_parted k_parted dl_parted dv_parted (by simp)
  obtain ⟨es_parted, ev_parted, b_parted⟩ := F_parted.binds1 (ps := p_parted) 2 1 (by simp) rfl fun _ _ _ _ _ _ _ us its h1 h2 => match us, its, h1, h2 with | [_, _], [_], _, _ => ⟨_, rfl, rfl⟩
  cases ev_parted
  have F_is_part := fun_mk (st := s_is_part) l_is_part c_is_part k_is_part
  have b_is_part := F_is_part.binds (ps := p_is_part) fun _ _ _ _ _ _ us hl => match us, hl with | [_], _ => rfl
  have F_Joiner___init__ := fun_mk (st := s_Joiner___init__) l_Joiner___init__ c_Joiner___init__ k_Joiner___init__
  have b_Joiner___init__ := F_Joiner___init__.binds (ps := p_Joiner___init__) fun _ _ _ _ _ _ us hl => match us, hl with | [_], _ => rfl
  have F_Joiner_goes_on := fun_mk (st := s_Joiner_goes_on) l_Joiner_goes_on c_Joiner_goes_on k_Joiner_goes_on
  have b_Joiner_goes_on := F_Joiner_goes_on.binds (ps := p_Joiner_goes_on) fun _ _ _ _ _ _ us hl => match us, hl with | [_, _], _ => rfl
  have F_Joiner_begun := fun_mk (st := s_Joiner_begun) l_Joiner_begun c_Joiner_begun k_Joiner_begun
  have b_Joiner_begun := F_Joiner_begun.binds (ps := p_Joiner_begun) fun _ _ _ _ _ _ us hl => match us, hl with | [_], _ => rfl
  have F_look_many := fun_mk (st := s_look_many) l_look_many c_look_many k_look_many
  have b_look_many := F_look_many.binds (ps := p_look_many) fun _ _ _ _ _ _ us hl => match us, hl with | [_], _ => rfl
  have F_dealt := fun_mk (st := s_dealt) l_dealt c_dealt k_dealt
  have b_dealt := F_dealt.binds (ps := p_dealt) fun _ _ _ _ _ _ us hl => match us, hl with | [_, _, _], _ => rfl
  have F_fits := fun_mk (st := s_fits) l_fits c_fits k_fits
  have b_fits := F_fits.binds (ps := p_fits) fun _ _ _ _ _ _ us hl => match us, hl with | [_], _ => rfl
  have F_gathered := fun_mk (st := s_gathered) l_gathered c_gathered k_gathered
  have b_gathered := F_gathered.binds (ps := p_gathered) fun _ _ _ _ _ _ us hl => match us, hl with | [_], _ => rfl
  have F_Lanes___init__ := fun_mk (st := s_Lanes___init__) l_Lanes___init__ c_Lanes___init__ k_Lanes___init__
  have b_Lanes___init__ := F_Lanes___init__.binds (ps := p_Lanes___init__) fun _ _ _ _ _ _ us hl => match us, hl with | [_, _], _ => rfl
  have F_Lanes_drop_late := fun_mk (st := s_Lanes_drop_late) l_Lanes_drop_late c_Lanes_drop_late k_Lanes_drop_late
  have b_Lanes_drop_late := F_Lanes_drop_late.binds (ps := p_Lanes_drop_late) fun _ _ _ _ _ _ us hl => match us, hl with | [_], _ => rfl
  have F_Lanes_one := fun_mk (st := s_Lanes_one) l_Lanes_one c_Lanes_one k_Lanes_one
  have b_Lanes_one := F_Lanes_one.binds (ps := p_Lanes_one) fun _ _ _ _ _ _ us hl => match us, hl with | [_], _ => rfl
  have F_Lanes_due := fun_mk (st := s_Lanes_due) l_Lanes_due c_Lanes_due k_Lanes_due
  have b_Lanes_due := F_Lanes_due.binds (ps := p_Lanes_due) fun _ _ _ _ _ _ us hl => match us, hl with | [_], _ => rfl
  have F_Lanes_held := fun_mk (st := s_Lanes_held) l_Lanes_held c_Lanes_held k_Lanes_held
  have b_Lanes_held := F_Lanes_held.binds (ps := p_Lanes_held) fun _ _ _ _ _ _ us hl => match us, hl with | [_], _ => rfl
  have F__law_town := fun_mk (st := s__law_town) l__law_town c__law_town k__law_town
  have b__law_town := F__law_town.binds (ps := p__law_town) fun _ _ _ _ _ _ us hl => match us, hl with | [_], _ => rfl
  have F__law_draw := fun_mk (st := s__law_draw) l__law_draw c__law_draw k__law_draw
  have b__law_draw := F__law_draw.binds (ps := p__law_draw) fun _ _ _ _ _ _ us hl => match us, hl with | [_, _], _ => rfl
  have F__law_pick := fun_mk (st := s__law_pick) l__law_pick c__law_pick k__law_pick
  have b__law_pick := F__law_pick.binds (ps := p__law_pick) fun _ _ _ _ _ _ us hl => match us, hl with | [_, _], _ => rfl
  have F__law_ten := fun_mk (st := s__law_ten) l__law_ten c__law_ten k__law_ten
  have b__law_ten := F__law_ten.binds (ps := p__law_ten) fun _ _ _ _ _ _ us hl => match us, hl with | [_], _ => rfl
  have F__law_some_bits := fun_mk (st := s__law_some_bits) l__law_some_bits c__law_some_bits k__law_some_bits
  have b__law_some_bits := F__law_some_bits.binds (ps := p__law_some_bits) fun _ _ _ _ _ _ us hl => match us, hl with | [_, _], _ => rfl
  have F__law_byte := fun_mk (st := s__law_byte) l__law_byte c__law_byte k__law_byte
  have b__law_byte := F__law_byte.binds (ps := p__law_byte) fun _ _ _ _ _ _ us hl => match us, hl with | [_], _ => rfl
  have F__law_gap := fun_mk (st := s__law_gap) l__law_gap c__law_gap k__law_gap
  have b__law_gap := F__law_gap.binds (ps := p__law_gap) fun _ _ _ _ _ _ us hl => match us, hl with | [_], _ => rfl
  have F_Reader_found := fun_mk (st := s_Reader_found) l_Reader_found c_Reader_found k_Reader_found
  have b_Reader_found := F_Reader_found.binds (ps := p_Reader_found) fun _ _ _ _ _ _ us hl => match us, hl with | [_], _ => rfl
  have F_Taker_take := fun_mk (st := s_Taker_take) l_Taker_take c_Taker_take k_Taker_take
  have b_Taker_take := F_Taker_take.binds (ps := p_Taker_take) fun _ _ _ _ _ _ us hl => match us, hl with | [_, _], _ => rfl
  have F_Joiner_take := fun_mk (st := s_Joiner_take) l_Joiner_take c_Joiner_take k_Joiner_take
  have b_Joiner_take := F_Joiner_take.binds (ps := p_Joiner_take) fun _ _ _ _ _ _ us hl => match us, hl with | [_, _], _ => rfl
  have F_Lanes_come := fun_mk (st := s_Lanes_come) l_Lanes_come c_Lanes_come k_Lanes_come
  have b_Lanes_come := F_Lanes_come.binds (ps := p_Lanes_come) fun _ _ _ _ _ _ us hl => match us, hl with | [_, _, _], _ => rfl
  have F_Reader_hear := fun_mk (st := s_Reader_hear) l_Reader_hear c_Reader_hear k_Reader_hear
  have b_Reader_hear := F_Reader_hear.binds (ps := p_Reader_hear) fun _ _ _ _ _ _ us hl => match us, hl with | [_, _], _ => rfl
  have F_Ear_hear := fun_mk (st := s_Ear_hear) l_Ear_hear c_Ear_hear k_Ear_hear
  have b_Ear_hear := F_Ear_hear.binds (ps := p_Ear_hear) fun _ _ _ _ _ _ us hl => match us, hl with | [_, _], _ => rfl
  have F_law := fun_mk (st := s_law) l_law c_law k_law
  have b_law := F_law.binds (ps := p_law) fun _ _ _ _ _ _ us hl => match us, hl with | [_], _ => rfl
  let T : Tx K mg := { f__wall := f__wall, d__wall := _, F__wall := F__wall, b__wall := b__wall, g__wall := PySem.W.mg_of X G a__wall, f_is_whole := f_is_whole, d_is_whole := _, F_is_whole := F_is_whole, b_is_whole := b_is_whole, g_is_whole := PySem.W.mg_of X G a_is_whole, f_look_word := f_look_word, d_look_word := _, F_look_word := F_look_word, b_look_word := b_look_word, g_look_word := PySem.W.mg_of X G a_look_word, f_look_bits := f_look_bits, d_look_bits := _, F_look_bits := F_look_bits, b_look_bits := b_look_bits, g_look_bits := PySem.W.mg_of X G a_look_bits, f_bits_of := f_bits_of, d_bits_of := _, F_bits_of := F_bits_of, b_bits_of := b_bits_of, g_bits_of := PySem.W.mg_of X G a_bits_of, f_word_of := f_word_of, d_word_of := _, F_word_of := F_word_of, b_word_of := b_word_of, g_word_of := PySem.W.mg_of X G a_word_of, f_is_item := f_is_item, d_is_item := _, F_is_item := F_is_item, b_is_item := b_is_item, g_is_item := PySem.W.mg_of X G a_is_item, f_look_item := f_look_item, d_look_item := _, F_look_item := F_look_item, b_look_item := b_look_item, g_look_item := PySem.W.mg_of X G a_look_item, f_look_poise := f_look_poise, d_look_poise := _, F_look_poise := F_look_poise, b_look_poise := b_look_poise, g_look_poise := PySem.W.mg_of X G a_look_poise, f_heavy_word := f_heavy_word, d_heavy_word := _, F_heavy_word := F_heavy_word, b_heavy_word := b_heavy_word, g_heavy_word := PySem.W.mg_of X G a_heavy_word, f_put_item := f_put_item, d_put_item := _, F_put_item := F_put_item, b_put_item := b_put_item, g_put_item := PySem.W.mg_of X G a_put_item, f_pair_item := f_pair_item, d_pair_item := _, F_pair_item := F_pair_item, b_pair_item := b_pair_item, g_pair_item := PySem.W.mg_of X G a_pair_item, f_item_at := f_item_at, d_item_at := _, F_item_at := F_item_at, b_item_at := b_item_at, g_item_at := PySem.W.mg_of X G a_item_at, f_look_items := f_look_items, d_look_items := _, F_look_items := F_look_items, b_look_items := b_look_items, g_look_items := PySem.W.mg_of X G a_look_items, f_sent_from := f_sent_from, d_sent_from := _, F_sent_from := F_sent_from, b_sent_from := b_sent_from, g_sent_from := PySem.W.mg_of X G a_sent_from, f_is_row := f_is_row, d_is_row := _, F_is_row := F_is_row, b_is_row := b_is_row, g_is_row := PySem.W.mg_of X G a_is_row, f_look_row := f_look_row, d_look_row := _, F_look_row := F_look_row, b_look_row := b_look_row, g_look_row := PySem.W.mg_of X G a_look_row, f_sum_of := f_sum_of, d_sum_of := _, F_sum_of := F_sum_of, b_sum_of := b_sum_of, g_sum_of := PySem.W.mg_of X G a_sum_of, f_check_of := f_check_of, d_check_of := _, F_check_of := F_check_of, b_check_of := b_check_of, g_check_of := PySem.W.mg_of X G a_check_of, f_framed := f_framed, d_framed := _, F_framed := F_framed, b_framed := b_framed, g_framed := PySem.W.mg_of X G a_framed, f_row_within := f_row_within, d_row_within := _, F_row_within := F_row_within, b_row_within := b_row_within, g_row_within := PySem.W.mg_of X G a_row_within, f_Reader___init__ := f_Reader___init__, d_Reader___init__ := _, F_Reader___init__ := F_Reader___init__, b_Reader___init__ := b_Reader___init__, f_Reader_heard := f_Reader_heard, d_Reader_heard := _, F_Reader_heard := F_Reader_heard, b_Reader_heard := b_Reader_heard, f_Reader_in_step := f_Reader_in_step, d_Reader_in_step := _, F_Reader_in_step := F_Reader_in_step, b_Reader_in_step := b_Reader_in_step, f_Reader_poise_now := f_Reader_poise_now, d_Reader_poise_now := _, F_Reader_poise_now := F_Reader_poise_now, b_Reader_poise_now := b_Reader_poise_now, f_Reader_waiting := f_Reader_waiting, d_Reader_waiting := _, F_Reader_waiting := F_Reader_waiting, b_Reader_waiting := b_Reader_waiting, f_Taker___init__ := f_Taker___init__, d_Taker___init__ := _, F_Taker___init__ := F_Taker___init__, b_Taker___init__ := b_Taker___init__, f_Taker_took := f_Taker_took, d_Taker_took := _, F_Taker_took := F_Taker_took, b_Taker_took := b_Taker_took, f_Taker_within := f_Taker_within, d_Taker_within := _, F_Taker_within := F_Taker_within, b_Taker_within := b_Taker_within, f_Ear___init__ := f_Ear___init__, d_Ear___init__ := _, F_Ear___init__ := F_Ear___init__, b_Ear___init__ := b_Ear___init__, f_Ear_in_step := f_Ear_in_step, d_Ear_in_step := _, F_Ear_in_step := F_Ear_in_step, b_Ear_in_step := b_Ear_in_step, f_Sender___init__ := f_Sender___init__, d_Sender___init__ := _, F_Sender___init__ := F_Sender___init__, b_Sender___init__ := b_Sender___init__, f_Sender_say := f_Sender_say, d_Sender_say := _, F_Sender_say := F_Sender_say, b_Sender_say := b_Sender_say, f_Sender_say_row := f_Sender_say_row, d_Sender_say_row := _, F_Sender_say_row := F_Sender_say_row, b_Sender_say_row := b_Sender_say_row, f_Sender_poise_now := f_Sender_poise_now, d_Sender_poise_now := _, F_Sender_poise_now := F_Sender_poise_now, b_Sender_poise_now := b_Sender_poise_now, f_Sender_said := f_Sender_said, d_Sender_said := _, F_Sender_said := F_Sender_said, b_Sender_said := b_Sender_said, f_parted := f_parted, d_parted := _, F_parted := F_parted, b_parted := b_parted, g_parted := PySem.W.mg_of X G a_parted, f_is_part := f_is_part, d_is_part := _, F_is_part := F_is_part, b_is_part := b_is_part, g_is_part := PySem.W.mg_of X G a_is_part, f_Joiner___init__ := f_Joiner___init__, d_Joiner___init__ := _, F_Joiner___init__ := F_Joiner___init__, b_Joiner___init__ := b_Joiner___init__, f_Joiner_goes_on := f_Joiner_goes_on, d_Joiner_goes_on := _, F_Joiner_goes_on := F_Joiner_goes_on, b_Joiner_goes_on := b_Joiner_goes_on, f_Joiner_begun := f_Joiner_begun, d_Joiner_begun := _, F_Joiner_begun := F_Joiner_begun, b_Joiner_begun := b_Joiner_begun, f_look_many := f_look_many, d_look_many := _, F_look_many := F_look_many, b_look_many := b_look_many, g_look_many := PySem.W.mg_of X G a_look_many, f_dealt := f_dealt, d_dealt := _, F_dealt := F_dealt, b_dealt := b_dealt, g_dealt := PySem.W.mg_of X G a_dealt, f_fits := f_fits, d_fits := _, F_fits := F_fits, b_fits := b_fits, g_fits := PySem.W.mg_of X G a_fits, f_gathered := f_gathered, d_gathered := _, F_gathered := F_gathered, b_gathered := b_gathered, g_gathered := PySem.W.mg_of X G a_gathered, f_Lanes___init__ := f_Lanes___init__, d_Lanes___init__ := _, F_Lanes___init__ := F_Lanes___init__, b_Lanes___init__ := b_Lanes___init__, f_Lanes_drop_late := f_Lanes_drop_late, d_Lanes_drop_late := _, F_Lanes_drop_late := F_Lanes_drop_late, b_Lanes_drop_late := b_Lanes_drop_late, f_Lanes_one := f_Lanes_one, d_Lanes_one := _, F_Lanes_one := F_Lanes_one, b_Lanes_one := b_Lanes_one, f_Lanes_due := f_Lanes_due, d_Lanes_due := _, F_Lanes_due := F_Lanes_due, b_Lanes_due := b_Lanes_due, f_Lanes_held := f_Lanes_held, d_Lanes_held := _, F_Lanes_held := F_Lanes_held, b_Lanes_held := b_Lanes_held, f__law_town := f__law_town, d__law_town := _, F__law_town := F__law_town, b__law_town := b__law_town, g__law_town := PySem.W.mg_of X G a__law_town, f__law_draw := f__law_draw, d__law_draw := _, F__law_draw := F__law_draw, b__law_draw := b__law_draw, g__law_draw := PySem.W.mg_of X G a__law_draw, f__law_pick := f__law_pick, d__law_pick := _, F__law_pick := F__law_pick, b__law_pick := b__law_pick, g__law_pick := PySem.W.mg_of X G a__law_pick, f__law_ten := f__law_ten, d__law_ten := _, F__law_ten := F__law_ten, b__law_ten := b__law_ten, g__law_ten := PySem.W.mg_of X G a__law_ten, f__law_some_bits := f__law_some_bits, d__law_some_bits := _, F__law_some_bits := F__law_some_bits, b__law_some_bits := b__law_some_bits, g__law_some_bits := PySem.W.mg_of X G a__law_some_bits, f__law_byte := f__law_byte, d__law_byte := _, F__law_byte := F__law_byte, b__law_byte := b__law_byte, g__law_byte := PySem.W.mg_of X G a__law_byte, f__law_gap := f__law_gap, d__law_gap := _, F__law_gap := F__law_gap, b__law_gap := b__law_gap, g__law_gap := PySem.W.mg_of X G a__law_gap, f_Reader_found := f_Reader_found, d_Reader_found := _, F_Reader_found := F_Reader_found, b_Reader_found := b_Reader_found, f_Taker_take := f_Taker_take, d_Taker_take := _, F_Taker_take := F_Taker_take, b_Taker_take := b_Taker_take, f_Joiner_take := f_Joiner_take, d_Joiner_take := _, F_Joiner_take := F_Joiner_take, b_Joiner_take := b_Joiner_take, f_Lanes_come := f_Lanes_come, d_Lanes_come := _, F_Lanes_come := F_Lanes_come, b_Lanes_come := b_Lanes_come, f_Reader_hear := f_Reader_hear, d_Reader_hear := _, F_Reader_hear := F_Reader_hear, b_Reader_hear := b_Reader_hear, f_Ear_hear := f_Ear_hear, d_Ear_hear := _, F_Ear_hear := F_Ear_hear, b_Ear_hear := b_Ear_hear, f_law := fa, d_law := _, F_law := F_law, b_law := b_law, g_law := PySem.W.mg_of X G a_law, g_BEGIN := ⟨_, PySem.W.mg_of X G cn_BEGIN⟩, a_CONTROLS := ca_CONTROLS, g_CONTROLS := PySem.W.mg_of X G ga_CONTROLS, k_CONTROLS := ktup_mk gl_CONTROLS gv_CONTROLS (by rw [← List.length_map (f := absV), gv_CONTROLS]; decide +kernel), a_EVEN := ca_EVEN, g_EVEN := PySem.W.mg_of X G ga_EVEN, k_EVEN := ktup_mk gl_EVEN gv_EVEN (by rw [← List.length_map (f := absV), gv_EVEN]; decide +kernel), g_HEAD := ⟨_, PySem.W.mg_of X G cn_HEAD⟩, a_HEAVY := ca_HEAVY, g_HEAVY := PySem.W.mg_of X G ga_HEAVY, k_HEAVY := ktup_mk gl_HEAVY gv_HEAVY (by rw [← List.length_map (f := absV), gv_HEAVY]; decide +kernel), g_LATE := ⟨_, PySem.W.mg_of X G cn_LATE⟩, g_LONG := ⟨_, PySem.W.mg_of X G cn_LONG⟩, g_LOST := ⟨_, PySem.W.mg_of X G cn_LOST⟩, g_MARK := ⟨_, PySem.W.mg_of X G cn_MARK⟩, g_MODULUS := ⟨_, PySem.W.mg_of X G cn_MODULUS⟩, g_MOST := ⟨_, PySem.W.mg_of X G cn_MOST⟩, g_MOST_PARTS := ⟨_, PySem.W.mg_of X G cn_MOST_PARTS⟩, g_MOST_ROW := ⟨_, PySem.W.mg_of X G cn_MOST_ROW⟩, g_PAIRS := ⟨_, PySem.W.mg_of X G cn_PAIRS⟩, g_PIECE := ⟨_, PySem.W.mg_of X G cn_PIECE⟩, a_SIGNS := ca_SIGNS, g_SIGNS := PySem.W.mg_of X G ga_SIGNS, k_SIGNS := ktup_mk gl_SIGNS gv_SIGNS (by rw [← List.length_map (f := absV), gv_SIGNS]; exact (show 2 ≤ sizeLine by decide)), b0_SIGNS := cb0_SIGNS, k0_SIGNS := ktup_mk gl0_SIGNS gv0_SIGNS (by rw [← List.length_map (f := absV), gv0_SIGNS]; decide +kernel), b1_SIGNS := cb1_SIGNS, k1_SIGNS := ktup_mk gl1_SIGNS gv1_SIGNS (by rw [← List.length_map (f := absV), gv1_SIGNS]; decide +kernel), g_TURNS := ⟨_, PySem.W.mg_of X G cn_TURNS⟩, n_all := PySem.W.mg_none_of X G n_all, n_bool := PySem.W.mg_none_of X G n_bool, n_divmod := PySem.W.mg_none_of X G n_divmod, n_enumerate := PySem.W.mg_none_of X G n_enumerate, n_int := PySem.W.mg_none_of X G n_int, n_isinstance := PySem.W.mg_none_of X G n_isinstance, n_len := PySem.W.mg_none_of X G n_len, n_list := PySem.W.mg_none_of X G n_list, n_max := PySem.W.mg_none_of X G n_max, n_range := PySem.W.mg_none_of X G n_range, n_sorted := PySem.W.mg_none_of X G n_sorted, n_str := PySem.W.mg_none_of X G n_str, n_sum := PySem.W.mg_none_of X G n_sum, n_tuple := PySem.W.mg_none_of X G n_tuple, c_BadBits := xc_BadBits, g_BadBits := PySem.W.mg_of X G xa_BadBits, x_BadBits := xx_BadBits, k_BadBits := xk_BadBits, b_BadBits := xb_BadBits, t_BadBits := xt_BadBits, c_BadItem := xc_BadItem, g_BadItem := PySem.W.mg_of X G xa_BadItem, x_BadItem := xx_BadItem, k_BadItem := xk_BadItem, b_BadItem := xb_BadItem, t_BadItem := xt_BadItem, c_BadLane := xc_BadLane, g_BadLane := PySem.W.mg_of X G xa_BadLane, x_BadLane := xx_BadLane, k_BadLane := xk_BadLane, b_BadLane := xb_BadLane, t_BadLane := xt_BadLane, c_BadPoise := xc_BadPoise, g_BadPoise := PySem.W.mg_of X G xa_BadPoise, x_BadPoise := xx_BadPoise, k_BadPoise := xk_BadPoise, b_BadPoise := xb_BadPoise, t_BadPoise := xt_BadPoise, c_BadRow := xc_BadRow, g_BadRow := PySem.W.mg_of X G xa_BadRow, x_BadRow := xx_BadRow, k_BadRow := xk_BadRow, b_BadRow := xb_BadRow, t_BadRow := xt_BadRow, c_BadWord := xc_BadWord, g_BadWord := PySem.W.mg_of X G xa_BadWord, x_BadWord := xx_BadWord, k_BadWord := xk_BadWord, b_BadWord := xb_BadWord, t_BadWord := xt_BadWord, c_Ear := cc_Ear, g_Ear := PySem.W.mg_of X G cg_Ear, l_Ear := clB_ok cl_Ear, a_Ear := cf_Ear, k_Ear := mkB_ok mk_Ear, m_Ear_in_step := ⟨a_Ear_in_step, fn_Ear_in_step, k_Ear_in_step⟩, m_Ear_hear := ⟨a_Ear_hear, fn_Ear_hear, k_Ear_hear⟩, c_Joiner := cc_Joiner, g_Joiner := PySem.W.mg_of X G cg_Joiner, l_Joiner := clB_ok cl_Joiner, a_Joiner := cf_Joiner, k_Joiner := mkB_ok mk_Joiner, m_Joiner_goes_on := ⟨a_Joiner_goes_on, fn_Joiner_goes_on, k_Joiner_goes_on⟩, m_Joiner_begun := ⟨a_Joiner_begun, fn_Joiner_begun, k_Joiner_begun⟩, m_Joiner_take := ⟨a_Joiner_take, fn_Joiner_take, k_Joiner_take⟩, c_Lanes := cc_Lanes, g_Lanes := PySem.W.mg_of X G cg_Lanes, l_Lanes := clB_ok cl_Lanes, a_Lanes := cf_Lanes, k_Lanes := mkB_ok mk_Lanes, m_Lanes_drop_late := ⟨a_Lanes_drop_late, fn_Lanes_drop_late, k_Lanes_drop_late⟩, m_Lanes_one := ⟨a_Lanes_one, fn_Lanes_one, k_Lanes_one⟩, m_Lanes_due := ⟨a_Lanes_due, fn_Lanes_due, k_Lanes_due⟩, m_Lanes_held := ⟨a_Lanes_held, fn_Lanes_held, k_Lanes_held⟩, m_Lanes_come := ⟨a_Lanes_come, fn_Lanes_come, k_Lanes_come⟩, c_Reader := cc_Reader, g_Reader := PySem.W.mg_of X G cg_Reader, l_Reader := clB_ok cl_Reader, a_Reader := cf_Reader, k_Reader := mkB_ok mk_Reader, m_Reader_heard := ⟨a_Reader_heard, fn_Reader_heard, k_Reader_heard⟩, m_Reader_in_step := ⟨a_Reader_in_step, fn_Reader_in_step, k_Reader_in_step⟩, m_Reader_poise_now := ⟨a_Reader_poise_now, fn_Reader_poise_now, k_Reader_poise_now⟩, m_Reader_waiting := ⟨a_Reader_waiting, fn_Reader_waiting, k_Reader_waiting⟩, m_Reader_found := ⟨a_Reader_found, fn_Reader_found, k_Reader_found⟩, m_Reader_hear := ⟨a_Reader_hear, fn_Reader_hear, k_Reader_hear⟩, c_Sender := cc_Sender, g_Sender := PySem.W.mg_of X G cg_Sender, l_Sender := clB_ok cl_Sender, a_Sender := cf_Sender, k_Sender := mkB_ok mk_Sender, m_Sender_say := ⟨a_Sender_say, fn_Sender_say, k_Sender_say⟩, m_Sender_say_row := ⟨a_Sender_say_row, fn_Sender_say_row, k_Sender_say_row⟩, m_Sender_poise_now := ⟨a_Sender_poise_now, fn_Sender_poise_now, k_Sender_poise_now⟩, m_Sender_said := ⟨a_Sender_said, fn_Sender_said, k_Sender_said⟩, c_Taker := cc_Taker, g_Taker := PySem.W.mg_of X G cg_Taker, l_Taker := clB_ok cl_Taker, a_Taker := cf_Taker, k_Taker := mkB_ok mk_Taker, m_Taker_took := ⟨a_Taker_took, fn_Taker_took, k_Taker_took⟩, m_Taker_within := ⟨a_Taker_within, fn_Taker_within, k_Taker_within⟩, m_Taker_take := ⟨a_Taker_take, fn_Taker_take, k_Taker_take⟩ }
  refine ⟨PySem.W.fnOf "law" "law" (defArgs s_law) (defBody s_law) (defScope s_law) .none kV_law dc_law pm_law an_law cd_law ct_law, fun s v => .of_eq rfl, fun base _ _ => FnOk.imp (ok_law (P := l.prog) (w := w) (base := base) T) fun vs H Q E h => ?_⟩
  obtain ⟨a, ns, rfl, sq, hl, q⟩ := h
  refine ⟨⟨H, fun _ => none⟩, fun _ => none, [.scr ns], fun d _ => d = .bl true, fun _ _ _ => False, ⟨fun _ _ e => e, (fun _ _ e => nomatch e), (fun _ _ e => nomatch e)⟩, .cons (.scr sq hl) .nil, HL ns hl.1, fun d M' hd F' H' v s w r => ?_, fun _ _ _ z => z.elim⟩
  subst hd
  cases r
  exact q H'
end Zp
open PySem PySem.W PyProof.Rows
set_option maxRecDepth 100000 in
set_option maxHeartbeats 0 in
theorem PySem.Challenge.cw_evenline_k48_whole_all_the_way_holds : PySem.Challenge.rw_evenline_k48_whole_all_the_way.Holds := by
  w_on; o_law; k_head; (case hw => w_witness2)
  k_fill
  refine Zl.walk_cells (l := PySem.Challenge.rw_evenline_k48_whole_all_the_way) (k := 9) (x := "script") (CX := fun w => L2.CX PySem.Challenge.rw_evenline_k48_whole_all_the_way.prog w) (sp := fun w => Zp.spLaw _) rfl rfl ⟨rfl, by decide, by decide⟩ (fun w h Y => PySem.W.kIn_of Y) ?F (fun _ _ a ns hc hS => ⟨a, ns, rfl, hS, hc, fun _ => rfl⟩) (fun _ _ _ _ _ h => Zl.cx_no h)
  case F =>
    intro w mg fa h KX G hmg
    refine' Zp.all_mk Zp.law_holds KX G hmg ?cg_Ear ?cl_Ear ?cf_Ear ?cg_Joiner ?cl_Joiner ?cf_Joiner ?cg_Lanes ?cl_Lanes ?cf_Lanes ?cg_Reader ?cl_Reader ?cf_Reader ?cg_Sender ?cl_Sender ?cf_Sender ?cg_Taker ?cl_Taker ?cf_Taker ?a__wall ?l__wall ?c__wall ?k__wall ?a_is_whole ?l_is_whole ?c_is_whole ?k_is_whole ?a_look_word ?l_look_word ?c_look_word ?k_look_word ?a_look_bits ?l_look_bits ?c_look_bits ?k_look_bits ?a_bits_of ?l_bits_of ?c_bits_of ?k_bits_of ?a_word_of ?l_word_of ?c_word_of ?k_word_of ?a_is_item ?l_is_item ?c_is_item ?k_is_item ?a_look_item ?l_look_item ?c_look_item ?k_look_item ?a_look_poise ?l_look_poise ?c_look_poise ?k_look_poise ?a_heavy_word ?l_heavy_word ?c_heavy_word ?k_heavy_word ?a_put_item ?l_put_item ?c_put_item ?k_put_item ?a_pair_item ?l_pair_item ?c_pair_item ?k_pair_item ?a_item_at ?l_item_at ?c_item_at ?k_item_at ?a_look_items ?l_look_items ?c_look_items ?k_look_items ?a_sent_from ?l_sent_from ?c_sent_from ?k_sent_from ?a_is_row ?l_is_row ?c_is_row ?k_is_row ?a_look_row ?l_look_row ?c_look_row ?k_look_row ?a_sum_of ?l_sum_of ?c_sum_of ?k_sum_of ?a_check_of ?l_check_of ?c_check_of ?k_check_of ?a_framed ?l_framed ?c_framed ?k_framed ?a_row_within ?l_row_within ?c_row_within ?k_row_within ?mk_Reader ?a_Reader___init__ ?fn_Reader___init__ ?l_Reader___init__ ?c_Reader___init__ ?k_Reader___init__ ?a_Reader_heard ?fn_Reader_heard ?l_Reader_heard ?c_Reader_heard ?k_Reader_heard ?a_Reader_in_step ?fn_Reader_in_step ?l_Reader_in_step ?c_Reader_in_step ?k_Reader_in_step ?a_Reader_poise_now ?fn_Reader_poise_now ?l_Reader_poise_now ?c_Reader_poise_now ?k_Reader_poise_now ?a_Reader_waiting ?fn_Reader_waiting ?l_Reader_waiting ?c_Reader_waiting ?k_Reader_waiting ?mk_Taker ?a_Taker___init__ ?fn_Taker___init__ ?l_Taker___init__ ?c_Taker___init__ ?k_Taker___init__ ?a_Taker_took ?fn_Taker_took ?l_Taker_took ?c_Taker_took ?k_Taker_took ?a_Taker_within ?fn_Taker_within ?l_Taker_within ?c_Taker_within ?k_Taker_within ?mk_Ear ?a_Ear___init__ ?fn_Ear___init__ ?l_Ear___init__ ?c_Ear___init__ ?k_Ear___init__ ?a_Ear_in_step ?fn_Ear_in_step ?l_Ear_in_step ?c_Ear_in_step ?k_Ear_in_step ?mk_Sender ?a_Sender___init__ ?fn_Sender___init__ ?l_Sender___init__ ?c_Sender___init__ ?k_Sender___init__ ?a_Sender_say ?fn_Sender_say ?l_Sender_say ?c_Sender_say ?k_Sender_say ?a_Sender_say_row ?fn_Sender_say_row ?l_Sender_say_row ?c_Sender_say_row ?k_Sender_say_row ?a_Sender_poise_now ?fn_Sender_poise_now ?l_Sender_poise_now ?c_Sender_poise_now ?k_Sender_poise_now ?a_Sender_said ?fn_Sender_said ?l_Sender_said ?c_Sender_said ?k_Sender_said ?a_parted ?l_parted ?dl_parted ?dv_parted ?c_parted ?k_parted ?a_is_part ?l_is_part ?c_is_part ?k_is_part ?mk_Joiner ?a_Joiner___init__ ?fn_Joiner___init__ ?l_Joiner___init__ ?c_Joiner___init__ ?k_Joiner___init__ ?a_Joiner_goes_on ?fn_Joiner_goes_on ?l_Joiner_goes_on ?c_Joiner_goes_on ?k_Joiner_goes_on ?a_Joiner_begun ?fn_Joiner_begun ?l_Joiner_begun ?c_Joiner_begun ?k_Joiner_begun ?a_look_many ?l_look_many ?c_look_many ?k_look_many ?a_dealt ?l_dealt ?c_dealt ?k_dealt ?a_fits ?l_fits ?c_fits ?k_fits ?a_gathered ?l_gathered ?c_gathered ?k_gathered ?mk_Lanes ?a_Lanes___init__ ?fn_Lanes___init__ ?l_Lanes___init__ ?c_Lanes___init__ ?k_Lanes___init__ ?a_Lanes_drop_late ?fn_Lanes_drop_late ?l_Lanes_drop_late ?c_Lanes_drop_late ?k_Lanes_drop_late ?a_Lanes_one ?fn_Lanes_one ?l_Lanes_one ?c_Lanes_one ?k_Lanes_one ?a_Lanes_due ?fn_Lanes_due ?l_Lanes_due ?c_Lanes_due ?k_Lanes_due ?a_Lanes_held ?fn_Lanes_held ?l_Lanes_held ?c_Lanes_held ?k_Lanes_held ?a__law_town ?l__law_town ?c__law_town ?k__law_town ?a__law_draw ?l__law_draw ?c__law_draw ?k__law_draw ?a__law_pick ?l__law_pick ?c__law_pick ?k__law_pick ?a__law_ten ?l__law_ten ?c__law_ten ?k__law_ten ?a__law_some_bits ?l__law_some_bits ?c__law_some_bits ?k__law_some_bits ?a__law_byte ?l__law_byte ?c__law_byte ?k__law_byte ?a__law_gap ?l__law_gap ?c__law_gap ?k__law_gap ?a_Reader_found ?fn_Reader_found ?l_Reader_found ?c_Reader_found ?k_Reader_found ?a_Taker_take ?fn_Taker_take ?l_Taker_take ?c_Taker_take ?k_Taker_take ?a_Joiner_take ?fn_Joiner_take ?l_Joiner_take ?c_Joiner_take ?k_Joiner_take ?a_Lanes_come ?fn_Lanes_come ?l_Lanes_come ?c_Lanes_come ?k_Lanes_come ?a_Reader_hear ?fn_Reader_hear ?l_Reader_hear ?c_Reader_hear ?k_Reader_hear ?a_Ear_hear ?fn_Ear_hear ?l_Ear_hear ?c_Ear_hear ?k_Ear_hear ?a_law ?l_law ?c_law ?k_law ?cn_BEGIN ?ga_CONTROLS ?gl_CONTROLS ?gv_CONTROLS ?ga_EVEN ?gl_EVEN ?gv_EVEN ?cn_HEAD ?ga_HEAVY ?gl_HEAVY ?gv_HEAVY ?cn_LATE ?cn_LONG ?cn_LOST ?cn_MARK ?cn_MODULUS ?cn_MOST ?cn_MOST_PARTS ?cn_MOST_ROW ?cn_PAIRS ?cn_PIECE ?ga_SIGNS ?gl_SIGNS ?gv_SIGNS ?gl0_SIGNS ?gv0_SIGNS ?gl1_SIGNS ?gv1_SIGNS ?cn_TURNS ?n_all ?n_bool ?n_divmod ?n_enumerate ?n_int ?n_isinstance ?n_len ?n_list ?n_max ?n_range ?n_sorted ?n_str ?n_sum ?n_tuple ?xa_BadBits ?xx_BadBits ?xk_BadBits ?xb_BadBits ?xt_BadBits ?xa_BadItem ?xx_BadItem ?xk_BadItem ?xb_BadItem ?xt_BadItem ?xa_BadLane ?xx_BadLane ?xk_BadLane ?xb_BadLane ?xt_BadLane ?xa_BadPoise ?xx_BadPoise ?xk_BadPoise ?xb_BadPoise ?xt_BadPoise ?xa_BadRow ?xx_BadRow ?xk_BadRow ?xb_BadRow ?xt_BadRow ?xa_BadWord ?xx_BadWord ?xk_BadWord ?xb_BadWord ?xt_BadWord
    (case cg_Ear => k_is)
    (case cl_Ear => kernel_rfl)
    (case cf_Ear => kernel_rfl)
    (case cg_Joiner => k_is)
    (case cl_Joiner => kernel_rfl)
    (case cf_Joiner => kernel_rfl)
    (case cg_Lanes => k_is)
    (case cl_Lanes => kernel_rfl)
    (case cf_Lanes => kernel_rfl)
    (case cg_Reader => k_is)
    (case cl_Reader => kernel_rfl)
    (case cf_Reader => kernel_rfl)
    (case cg_Sender => k_is)
    (case cl_Sender => kernel_rfl)
    (case cf_Sender => kernel_rfl)
    (case cg_Taker => k_is)
    (case cl_Taker => kernel_rfl)
    (case cf_Taker => kernel_rfl)
    (case a__wall => k_is)
    (case l__wall => k_is)
    (case c__wall => k_is)
    (case k__wall => k_is)
    (case a_is_whole => k_is)
    (case l_is_whole => k_is)
    (case c_is_whole => k_is)
    (case k_is_whole => k_is)
    (case a_look_word => k_is)
    (case l_look_word => k_is)
    (case c_look_word => k_is)
    (case k_look_word => k_is)
    (case a_look_bits => k_is)
    (case l_look_bits => k_is)
    (case c_look_bits => k_is)
    (case k_look_bits => k_is)
    (case a_bits_of => k_is)
    (case l_bits_of => k_is)
    (case c_bits_of => k_is)
    (case k_bits_of => k_is)
    (case a_word_of => k_is)
    (case l_word_of => k_is)
    (case c_word_of => k_is)
    (case k_word_of => k_is)
    (case a_is_item => k_is)
    (case l_is_item => k_is)
    (case c_is_item => k_is)
    (case k_is_item => k_is)
    (case a_look_item => k_is)
    (case l_look_item => k_is)
    (case c_look_item => k_is)
    (case k_look_item => k_is)
    (case a_look_poise => k_is)
    (case l_look_poise => k_is)
    (case c_look_poise => k_is)
    (case k_look_poise => k_is)
    (case a_heavy_word => k_is)
    (case l_heavy_word => k_is)
    (case c_heavy_word => k_is)
    (case k_heavy_word => k_is)
    (case a_put_item => k_is)
    (case l_put_item => k_is)
    (case c_put_item => k_is)
    (case k_put_item => k_is)
    (case a_pair_item => k_is)
    (case l_pair_item => k_is)
    (case c_pair_item => k_is)
    (case k_pair_item => k_is)
    (case a_item_at => k_is)
    (case l_item_at => k_is)
    (case c_item_at => k_is)
    (case k_item_at => k_is)
    (case a_look_items => k_is)
    (case l_look_items => k_is)
    (case c_look_items => k_is)
    (case k_look_items => k_is)
    (case a_sent_from => k_is)
    (case l_sent_from => k_is)
    (case c_sent_from => k_is)
    (case k_sent_from => k_is)
    (case a_is_row => k_is)
    (case l_is_row => k_is)
    (case c_is_row => k_is)
    (case k_is_row => k_is)
    (case a_look_row => k_is)
    (case l_look_row => k_is)
    (case c_look_row => k_is)
    (case k_look_row => k_is)
    (case a_sum_of => k_is)
    (case l_sum_of => k_is)
    (case c_sum_of => k_is)
    (case k_sum_of => k_is)
    (case a_check_of => k_is)
    (case l_check_of => k_is)
    (case c_check_of => k_is)
    (case k_check_of => k_is)
    (case a_framed => k_is)
    (case l_framed => k_is)
    (case c_framed => k_is)
    (case k_framed => k_is)
    (case a_row_within => k_is)
    (case l_row_within => k_is)
    (case c_row_within => k_is)
    (case k_row_within => k_is)
    (case mk_Reader => kernel_rfl)
    (case a_Reader___init__ => k_is)
    (case fn_Reader___init__ => k_is)
    (case l_Reader___init__ => k_is)
    (case c_Reader___init__ => k_is)
    (case k_Reader___init__ => k_is)
    (case a_Reader_heard => k_is)
    (case fn_Reader_heard => k_is)
    (case l_Reader_heard => k_is)
    (case c_Reader_heard => k_is)
    (case k_Reader_heard => k_is)
    (case a_Reader_in_step => k_is)
    (case fn_Reader_in_step => k_is)
    (case l_Reader_in_step => k_is)
    (case c_Reader_in_step => k_is)
    (case k_Reader_in_step => k_is)
    (case a_Reader_poise_now => k_is)
    (case fn_Reader_poise_now => k_is)
    (case l_Reader_poise_now => k_is)
    (case c_Reader_poise_now => k_is)
    (case k_Reader_poise_now => k_is)
    (case a_Reader_waiting => k_is)
    (case fn_Reader_waiting => k_is)
    (case l_Reader_waiting => k_is)
    (case c_Reader_waiting => k_is)
    (case k_Reader_waiting => k_is)
    (case mk_Taker => kernel_rfl)
    (case a_Taker___init__ => k_is)
    (case fn_Taker___init__ => k_is)
    (case l_Taker___init__ => k_is)
    (case c_Taker___init__ => k_is)
    (case k_Taker___init__ => k_is)
    (case a_Taker_took => k_is)
    (case fn_Taker_took => k_is)
    (case l_Taker_took => k_is)
    (case c_Taker_took => k_is)
    (case k_Taker_took => k_is)
    (case a_Taker_within => k_is)
    (case fn_Taker_within => k_is)
    (case l_Taker_within => k_is)
    (case c_Taker_within => k_is)
    (case k_Taker_within => k_is)
    (case mk_Ear => kernel_rfl)
    (case a_Ear___init__ => k_is)
    (case fn_Ear___init__ => k_is)
    (case l_Ear___init__ => k_is)
    (case c_Ear___init__ => k_is)
    (case k_Ear___init__ => k_is)
    (case a_Ear_in_step => k_is)
    (case fn_Ear_in_step => k_is)
    (case l_Ear_in_step => k_is)
    (case c_Ear_in_step => k_is)
    (case k_Ear_in_step => k_is)
    (case mk_Sender => kernel_rfl)
    (case a_Sender___init__ => k_is)
    (case fn_Sender___init__ => k_is)
    (case l_Sender___init__ => k_is)
    (case c_Sender___init__ => k_is)
    (case k_Sender___init__ => k_is)
    (case a_Sender_say => k_is)
    (case fn_Sender_say => k_is)
    (case l_Sender_say => k_is)
    (case c_Sender_say => k_is)
    (case k_Sender_say => k_is)
    (case a_Sender_say_row => k_is)
    (case fn_Sender_say_row => k_is)
    (case l_Sender_say_row => k_is)
    (case c_Sender_say_row => k_is)
    (case k_Sender_say_row => k_is)
    (case a_Sender_poise_now => k_is)
    (case fn_Sender_poise_now => k_is)
    (case l_Sender_poise_now => k_is)
    (case c_Sender_poise_now => k_is)
    (case k_Sender_poise_now => k_is)
    (case a_Sender_said => k_is)
    (case fn_Sender_said => k_is)
    (case l_Sender_said => k_is)
    (case c_Sender_said => k_is)
    (case k_Sender_said => k_is)
    (case a_parted => k_is)
    (case l_parted => k_is)
    (case dl_parted => k_is)
    (case dv_parted => first | rfl | decide +kernel | k_is)
    (case c_parted => k_is)
    (case k_parted => k_is)
    (case a_is_part => k_is)
    (case l_is_part => k_is)
    (case c_is_part => k_is)
    (case k_is_part => k_is)
    (case mk_Joiner => kernel_rfl)
    (case a_Joiner___init__ => k_is)
    (case fn_Joiner___init__ => k_is)
    (case l_Joiner___init__ => k_is)
    (case c_Joiner___init__ => k_is)
    (case k_Joiner___init__ => k_is)
    (case a_Joiner_goes_on => k_is)
    (case fn_Joiner_goes_on => k_is)
    (case l_Joiner_goes_on => k_is)
    (case c_Joiner_goes_on => k_is)
    (case k_Joiner_goes_on => k_is)
    (case a_Joiner_begun => k_is)
    (case fn_Joiner_begun => k_is)
    (case l_Joiner_begun => k_is)
    (case c_Joiner_begun => k_is)
    (case k_Joiner_begun => k_is)
    (case a_look_many => k_is)
    (case l_look_many => k_is)
    (case c_look_many => k_is)
    (case k_look_many => k_is)
    (case a_dealt => k_is)
    (case l_dealt => k_is)
    (case c_dealt => k_is)
    (case k_dealt => k_is)
    (case a_fits => k_is)
    (case l_fits => k_is)
    (case c_fits => k_is)
    (case k_fits => k_is)
    (case a_gathered => k_is)
    (case l_gathered => k_is)
    (case c_gathered => k_is)
    (case k_gathered => k_is)
    (case mk_Lanes => kernel_rfl)
    (case a_Lanes___init__ => k_is)
    (case fn_Lanes___init__ => k_is)
    (case l_Lanes___init__ => k_is)
    (case c_Lanes___init__ => k_is)
    (case k_Lanes___init__ => k_is)
    (case a_Lanes_drop_late => k_is)
    (case fn_Lanes_drop_late => k_is)
    (case l_Lanes_drop_late => k_is)
    (case c_Lanes_drop_late => k_is)
    (case k_Lanes_drop_late => k_is)
    (case a_Lanes_one => k_is)
    (case fn_Lanes_one => k_is)
    (case l_Lanes_one => k_is)
    (case c_Lanes_one => k_is)
    (case k_Lanes_one => k_is)
    (case a_Lanes_due => k_is)
    (case fn_Lanes_due => k_is)
    (case l_Lanes_due => k_is)
    (case c_Lanes_due => k_is)
    (case k_Lanes_due => k_is)
    (case a_Lanes_held => k_is)
    (case fn_Lanes_held => k_is)
    (case l_Lanes_held => k_is)
    (case c_Lanes_held => k_is)
    (case k_Lanes_held => k_is)
    (case a__law_town => k_is)
    (case l__law_town => k_is)
    (case c__law_town => k_is)
    (case k__law_town => k_is)
    (case a__law_draw => k_is)
    (case l__law_draw => k_is)
    (case c__law_draw => k_is)
    (case k__law_draw => k_is)
    (case a__law_pick => k_is)
    (case l__law_pick => k_is)
    (case c__law_pick => k_is)
    (case k__law_pick => k_is)
    (case a__law_ten => k_is)
    (case l__law_ten => k_is)
    (case c__law_ten => k_is)
    (case k__law_ten => k_is)
    (case a__law_some_bits => k_is)
    (case l__law_some_bits => k_is)
    (case c__law_some_bits => k_is)
    (case k__law_some_bits => k_is)
    (case a__law_byte => k_is)
    (case l__law_byte => k_is)
    (case c__law_byte => k_is)
    (case k__law_byte => k_is)
    (case a__law_gap => k_is)
    (case l__law_gap => k_is)
    (case c__law_gap => k_is)
    (case k__law_gap => k_is)
    (case a_Reader_found => k_is)
    (case fn_Reader_found => k_is)
    (case l_Reader_found => k_is)
    (case c_Reader_found => k_is)
    (case k_Reader_found => k_is)
    (case a_Taker_take => k_is)
    (case fn_Taker_take => k_is)
    (case l_Taker_take => k_is)
    (case c_Taker_take => k_is)
    (case k_Taker_take => k_is)
    (case a_Joiner_take => k_is)
    (case fn_Joiner_take => k_is)
    (case l_Joiner_take => k_is)
    (case c_Joiner_take => k_is)
    (case k_Joiner_take => k_is)
    (case a_Lanes_come => k_is)
    (case fn_Lanes_come => k_is)
    (case l_Lanes_come => k_is)
    (case c_Lanes_come => k_is)
    (case k_Lanes_come => k_is)
    (case a_Reader_hear => k_is)
    (case fn_Reader_hear => k_is)
    (case l_Reader_hear => k_is)
    (case c_Reader_hear => k_is)
    (case k_Reader_hear => k_is)
    (case a_Ear_hear => k_is)
    (case fn_Ear_hear => k_is)
    (case l_Ear_hear => k_is)
    (case c_Ear_hear => k_is)
    (case k_Ear_hear => k_is)
    (case a_law => k_is)
    (case l_law => k_is)
    (case c_law => k_is)
    (case k_law => k_is)
    (case cn_BEGIN => k_is)
    (case ga_CONTROLS => k_is)
    (case gl_CONTROLS => k_is)
    (case gv_CONTROLS => first | rfl | decide +kernel | k_is)
    (case ga_EVEN => k_is)
    (case gl_EVEN => k_is)
    (case gv_EVEN => first | rfl | decide +kernel | k_is)
    (case cn_HEAD => k_is)
    (case ga_HEAVY => k_is)
    (case gl_HEAVY => k_is)
    (case gv_HEAVY => first | rfl | decide +kernel | k_is)
    (case cn_LATE => k_is)
    (case cn_LONG => k_is)
    (case cn_LOST => k_is)
    (case cn_MARK => k_is)
    (case cn_MODULUS => k_is)
    (case cn_MOST => k_is)
    (case cn_MOST_PARTS => k_is)
    (case cn_MOST_ROW => k_is)
    (case cn_PAIRS => k_is)
    (case cn_PIECE => k_is)
    (case ga_SIGNS => k_is)
    (case gl_SIGNS => k_is)
    (case gv_SIGNS => first | rfl | decide +kernel | k_is)
    (case gl0_SIGNS => k_is)
    (case gv0_SIGNS => first | rfl | decide +kernel | k_is)
    (case gl1_SIGNS => k_is)
    (case gv1_SIGNS => first | rfl | decide +kernel | k_is)
    (case cn_TURNS => k_is)
    (case n_all => k_is)
    (case n_bool => k_is)
    (case n_divmod => k_is)
    (case n_enumerate => k_is)
    (case n_int => k_is)
    (case n_isinstance => k_is)
    (case n_len => k_is)
    (case n_list => k_is)
    (case n_max => k_is)
    (case n_range => k_is)
    (case n_sorted => k_is)
    (case n_str => k_is)
    (case n_sum => k_is)
    (case n_tuple => k_is)
    (case xa_BadBits => k_is)
    (case xx_BadBits => k_exc)
    (case xk_BadBits => k_is)
    (case xb_BadBits => k_is)
    (case xt_BadBits => k_is)
    (case xa_BadItem => k_is)
    (case xx_BadItem => k_exc)
    (case xk_BadItem => k_is)
    (case xb_BadItem => k_is)
    (case xt_BadItem => k_is)
    (case xa_BadLane => k_is)
    (case xx_BadLane => k_exc)
    (case xk_BadLane => k_is)
    (case xb_BadLane => k_is)
    (case xt_BadLane => k_is)
    (case xa_BadPoise => k_is)
    (case xx_BadPoise => k_exc)
    (case xk_BadPoise => k_is)
    (case xb_BadPoise => k_is)
    (case xt_BadPoise => k_is)
    (case xa_BadRow => k_is)
    (case xx_BadRow => k_exc)
    (case xk_BadRow => k_is)
    (case xb_BadRow => k_is)
    (case xt_BadRow => k_is)
    (case xa_BadWord => k_is)
    (case xx_BadWord => k_exc)
    (case xk_BadWord => k_is)
    (case xb_BadWord => k_is)
    (case xt_BadWord => k_is)
