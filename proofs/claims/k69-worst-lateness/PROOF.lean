import PyProof.Rows.All
import Wide.All
import OpenK.AllK
import Wide.FinOn
import HandS.ForMost
import HandS.Walk
import HandS.Lambda
import HandS.Star
import HandS.TupAny
import HandS.Style
import HandS.Wide
import HandS.IsInst
import HandS.TupMul
import HandS.SortInts
import HandS.Conv
import HandS.Deep
import HandS.SetFor
import HandS.More
import KE.GoesEnum
import KE.GoesMore
import KE.GoesZip
import HandS.Codes
import KE.KRevSl
import HandS.OwnEq
import HandS.EndBits
import HandS.SortOrd
import KE.OsSort
import HandS.Dict
import HandS.Head0
import HandS.Head1
import HandS.Head2
import HandS.HeadHook1
import HandS.HeadHook2
import HandS.Defaults
import HandS.DictComp
import HandS.HeadHook4
import HandS.EndTab
import KE.KSortKeySt
import HandS.Iter
import PySem.Challenge.RW_whatfirst_k69_worst_lateness_bent
import HandS.HeadEnd
set_option Elab.async false
set_option linter.all false
set_option maxRecDepth 100000
set_option maxHeartbeats 0
/-! ## Cr: programs as functions of plain data, over the hand layer -/
namespace Cr
open PySem L2

/-- plain data: what a value is, whatever its address -/
inductive D where
  | non | bl (b : Bool) | int (i : Int) | str (x : Str) | pen
  | tup (xs : List D) | lst (xs : List D) | dct (kvs : List (Key × D)) | obj (c : String) (fs : List (Str × D)) | row (k : Nat)
  deriving Inhabited
/-- no code table -/
abbrev Ntb (o : HO) : Prop := ∀ ps, o ≠ .tbl ps
/-- what stays fixed: the classes by name -/
structure Gm where
  cls : String → Option Addr
  tb : List (Addr × Str)
instance : CoeFun Gm fun _ => String → Option Addr := ⟨Gm.cls⟩
/-- the pen's address; what is never changed any more; lists of ints that are changed in place, told by number -/
structure Wd where
  pen : Option Addr
  S : Addr → Prop
  rows : List Addr

mutual
inductive Rep (G : Gm) (W : Wd) (H : Hp) : V → D → Prop
  | non : Rep G W H .non .non
  | bl (b : Bool) : Rep G W H (.bl b) (.bl b)
  | int (i : Int) : Rep G W H (.int i) (.int i)
  | str (x : Str) : Rep G W H (.str x) (.str x)
  | pen {a : Addr} (e : W.pen = some a) : Rep G W H (.ref a) .pen
  | row {a : Addr} {k : Nat} (e : W.rows[k]? = some a) : Rep G W H (.ref a) (.row k)
  | tup {a : Addr} {xs : List V} {ds : List D} (e : H a = some (.tup xs)) (r : Reps G W H xs ds) : Rep G W H (.ref a) (.tup ds)
  | lst {a : Addr} {xs : List V} {ds : List D} (s : W.S a) (e : H a = some (.lst xs)) (r : Reps G W H xs ds) : Rep G W H (.ref a) (.lst ds)
  | dct {a : Addr} {ks : List (Key × V)} {kvs : List (Key × D)} (s : W.S a) (e : H a = some (.dK ks)) (n : ks.map Prod.fst = kvs.map Prod.fst) (r : Reps G W H (ks.map Prod.snd) (kvs.map Prod.snd)) : Rep G W H (.ref a) (.dct kvs)
  | obj {a C dx : Addr} {c : String} {gs : List (Str × V)} {fs : List (Str × D)} (s : W.S a) (k : G c = some C) (e : H a = some (.ins C dx gs)) (n : gs.map Prod.fst = fs.map Prod.fst)
      (r : Reps G W H (gs.map Prod.snd) (fs.map Prod.snd)) : Rep G W H (.ref a) (.obj c fs)
inductive Reps (G : Gm) (W : Wd) (H : Hp) : List V → List D → Prop
  | nil : Reps G W H [] []
  | cons {v : V} {vs : List V} {d : D} {ds : List D} (h : Rep G W H v d) (t : Reps G W H vs ds) : Reps G W H (v :: vs) (d :: ds)
end

section
variable {G : Gm} {W W' : Wd} {H H' : Hp}
mutual
theorem Rep.mono (hp : W'.pen = W.pen) (hr : ∀ (k : Nat) (a : Addr), W.rows[k]? = some a → W'.rows[k]? = some a) (hs : ∀ a, W.S a → W'.S a) (hk : ∀ a o, W.S a → Ntb o → H a = some o → H' a = some o) (ht : ∀ a xs, H a = some (.tup xs) → H' a = some (.tup xs)) :
    ∀ {v : V} {d : D}, Rep G W H v d → Rep G W' H' v d
  | _, _, .non => .non
  | _, _, .bl b => .bl b
  | _, _, .int i => .int i
  | _, _, .str x => .str x
  | _, _, .pen e => .pen (hp.trans e)
  | _, _, .row e => .row (hr _ _ e)
  | _, _, .tup e r => .tup (ht _ _ e) (Reps.mono hp hr hs hk ht r)
  | _, _, .lst s e r => .lst (hs _ s) (hk _ _ s (fun _ z => by cases z) e) (Reps.mono hp hr hs hk ht r)
  | _, _, .dct s e n r => .dct (hs _ s) (hk _ _ s (fun _ z => by cases z) e) n (Reps.mono hp hr hs hk ht r)
  | _, _, .obj s k e n r => .obj (hs _ s) k (hk _ _ s (fun _ z => by cases z) e) n (Reps.mono hp hr hs hk ht r)
theorem Reps.mono (hp : W'.pen = W.pen) (hr : ∀ (k : Nat) (a : Addr), W.rows[k]? = some a → W'.rows[k]? = some a) (hs : ∀ a, W.S a → W'.S a) (hk : ∀ a o, W.S a → Ntb o → H a = some o → H' a = some o) (ht : ∀ a xs, H a = some (.tup xs) → H' a = some (.tup xs)) :
    ∀ {vs : List V} {ds : List D}, Reps G W H vs ds → Reps G W' H' vs ds
  | _, _, .nil => .nil
  | _, _, .cons h t => .cons (Rep.mono hp hr hs hk ht h) (Reps.mono hp hr hs hk ht t)
end
theorem Reps.len : ∀ {vs : List V} {ds : List D}, Reps G W H vs ds → vs.length = ds.length
  | _, _, .nil => rfl
  | _, _, .cons _ t => congrArg (· + 1) t.len
theorem Reps.get : ∀ {vs : List V} {ds : List D} {i : Nat} {d : D}, Reps G W H vs ds → ds[i]? = some d → ∃ v, vs[i]? = some v ∧ Rep G W H v d
  | _, _, _, _, .nil, e => by simp at e
  | _, _, 0, _, .cons h _, e => by simp at e; subst e; exact ⟨_, rfl, h⟩
  | _, _, i + 1, d, .cons _ t, e => by
    obtain ⟨v, h1, h2⟩ := Reps.get (i := i) (d := d) t (by simpa using e)
    exact ⟨v, by simpa using h1, h2⟩
theorem Reps.getV : ∀ {vs : List V} {ds : List D} {i : Nat} {v : V}, Reps G W H vs ds → vs[i]? = some v → ∃ d, ds[i]? = some d ∧ Rep G W H v d
  | _, _, _, _, .nil, e => by simp at e
  | _, _, 0, _, .cons h _, e => by simp at e; subst e; exact ⟨_, rfl, h⟩
  | _, _, i + 1, v, .cons _ t, e => by
    obtain ⟨d, h1, h2⟩ := Reps.getV (i := i) (v := v) t (by simpa using e)
    exact ⟨d, by simpa using h1, h2⟩
theorem Reps.app : ∀ {vs ws : List V} {ds es : List D}, Reps G W H vs ds → Reps G W H ws es → Reps G W H (vs ++ ws) (ds ++ es)
  | _, _, _, _, .nil, s => s
  | _, _, _, _, .cons h t, s => .cons h (t.app s)
theorem Reps.take : ∀ {vs : List V} {ds : List D} (n : Nat), Reps G W H vs ds → Reps G W H (vs.take n) (ds.take n)
  | _, _, 0, _ => .nil
  | _, _, _ + 1, .nil => .nil
  | _, _, n + 1, .cons h t => .cons h (t.take n)
theorem Reps.drop : ∀ {vs : List V} {ds : List D} (n : Nat), Reps G W H vs ds → Reps G W H (vs.drop n) (ds.drop n)
  | _, _, 0, r => r
  | _, _, _ + 1, .nil => .nil
  | _, _, n + 1, .cons _ t => t.drop n
theorem Reps.set {v : V} {d : D} (h : Rep G W H v d) : ∀ {vs : List V} {ds : List D} (i : Nat), Reps G W H vs ds → Reps G W H (vs.set i v) (ds.set i d)
  | _, _, _, .nil => .nil
  | _, _, 0, .cons _ t => .cons h t
  | _, _, i + 1, .cons q t => .cons q (Reps.set h i t)
theorem Reps.erase : ∀ {vs : List V} {ds : List D} (i : Nat), Reps G W H vs ds → Reps G W H (vs.eraseIdx i) (ds.eraseIdx i)
  | _, _, _, .nil => .nil
  | _, _, 0, .cons _ t => t
  | _, _, i + 1, .cons q t => .cons q (t.erase i)
theorem Reps.rev {vs : List V} {ds : List D} (r : Reps G W H vs ds) : Reps G W H vs.reverse ds.reverse := by
  induction vs generalizing ds with
  | nil => cases r; exact .nil
  | cons v vs ih =>
    cases r with
    | cons h t =>
      rw [List.reverse_cons, List.reverse_cons]
      exact (ih t).app (.cons h .nil)
theorem Reps.rep {vs : List V} {ds : List D} (r : Reps G W H vs ds) : ∀ k : Nat, Reps G W H (List.replicate k vs).flatten (List.replicate k ds).flatten
  | 0 => .nil
  | k + 1 => by
    rw [List.replicate_succ, List.replicate_succ, List.flatten_cons, List.flatten_cons]
    exact r.app (Reps.rep r k)
theorem Reps.ints : ∀ {vs : List V} {ns : List Int}, Reps G W H vs (ns.map D.int) → vs = ns.map V.int
  | _, [], .nil => rfl
  | _, n :: ns, .cons h t => by
    cases h
    rw [Reps.ints (ns := ns) t]
    rfl
theorem Reps.ofInts : ∀ (ns : List Int), Reps G W H (ns.map V.int) (ns.map D.int)
  | [] => .nil
  | n :: ns => .cons (.int n) (Reps.ofInts ns)
theorem Reps.bls : ∀ {vs : List V} {bs : List Bool}, Reps G W H vs (bs.map D.bl) → vs = bs.map V.bl
  | _, [], .nil => rfl
  | _, n :: ns, .cons h t => by
    cases h
    rw [Reps.bls (bs := ns) t]
    rfl
end

/-! ### slots -/
inductive Slot where
  | no | sh (d : D) | ow (ds : List D) | od (kvs : List (Key × D)) | oo (x : Addr) (c : String) (fs : List (Str × D))
  deriving Inhabited
def Slot.isOwn : Slot → Bool
  | .ow _ => true
  | .od _ => true
  | .oo _ _ _ => true
  | _ => false
abbrev Env := List Slot
def SlotOk (G : Gm) (W : Wd) (H : Hp) : V → Slot → Prop
  | _, .no => True
  | v, .sh d => Rep G W H v d
  | v, .ow ds => ∃ a xs, v = .ref a ∧ H a = some (.lst xs) ∧ Reps G W H xs ds
  | v, .od kvs => ∃ a ks, v = .ref a ∧ H a = some (.dK ks) ∧ ks.map Prod.fst = kvs.map Prod.fst ∧ Reps G W H (ks.map Prod.snd) (kvs.map Prod.snd)
  | v, .oo x c fs => ∃ a C dx gs, v = .ref a ∧ (G c = some C ∧ a = x) ∧ H a = some (.ins C dx gs) ∧ gs.map Prod.fst = fs.map Prod.fst ∧ Reps G W H (gs.map Prod.snd) (fs.map Prod.snd)
def Own (env : Env) (σ : St) (a : Addr) : Prop := ∃ (i : Nat) (s : Slot), env[i]? = some s ∧ s.isOwn = true ∧ σ[i]? = some (some (.ref a))

/-! ### the pen -/
structure PenSt where
  cells : List Int
  at_ : Nat
  digits : Int
  count : Int
  fold : Int
  rows : List (List Int)
  deriving Inhabited
structure PenSt.Ok (p : PenSt) : Prop where
  le : p.at_ ≤ p.cells.length
  len : p.cells.length ≤ 63
  dg : 0 ≤ p.digits
  f0 : 0 ≤ p.fold
  f1 : p.fold < 2147483648
def kCells : Key := Sum.inr "cells"
def kAt : Key := Sum.inr "at"
def kDigits : Key := Sum.inr "digits"
def kCount : Key := Sum.inr "count"
def kFold : Key := Sum.inr "fold"
def penKvs (c : Addr) (p : PenSt) : List (Key × V) := [(kCells, .ref c), (kAt, .int p.at_), (kDigits, .int p.digits), (kCount, .int p.count), (kFold, .int p.fold)]
structure RwOk (W : Wd) (p : PenSt) (H : Hp) : Prop where
  len : W.rows.length = p.rows.length
  nd : W.rows.Nodup
  at_ : ∀ (k : Nat) (a : Addr), W.rows[k]? = some a → ¬ W.S a ∧ W.pen ≠ some a ∧ ∃ ns, p.rows[k]? = some ns ∧ H a = some (.lst (ns.map V.int))
/-- the code tables of the defs that make lambdas -/
def tabA (G : Gm) (a : Addr) : Prop := ∃ q, (a, q) ∈ G.tb
def TbOk (G : Gm) (W : Wd) (H : Hp) : Prop := LamX.Tabs G.tb H ∧ ∀ a, tabA G a → ¬ W.S a ∧ W.pen ≠ some a ∧ a ∉ W.rows
/-- what the world says of the heap -/
structure WOk (G : Gm) (W : Wd) (p : PenSt) (H : Hp) : Prop where
  tb : TbOk G W H
  trk : ∀ a, W.S a → H a ≠ none
  pen : ∀ q, W.pen = some q → ¬ W.S q ∧ p.Ok ∧ ∃ c, W.S c ∧ H c = some (.lst (p.cells.map V.int)) ∧ H q = some (.dK (penKvs c p))
  rw : RwOk W p H
/-- what an expression may change -/
def penA (G : Gm) (W : Wd) : Addr → Prop := fun a => W.pen = some a ∨ a ∈ W.rows ∨ tabA G a
/-- neither a table nor a code object -/
def NoTb (o : HO) : Prop := (∀ ps, o ≠ .tbl ps) ∧ ∀ φ, o ≠ .ext φ
theorem tabs_upd {T : List (Addr × Str)} {H : Hp} {x : Addr} {u : HO} (h : LamX.Tabs T H) (n : ∀ o, H x = some o → NoTb o) : LamX.Tabs T (upd H x u) := fun q hq => by
  obtain ⟨ps, h1, h2, h3⟩ := h q hq
  refine ⟨ps, by rw [upd_ne (fun z : q.1 = x => (n _ (z ▸ h1)).1 ps rfl)]; exact h1, h2, fun pos cv hc => ?_⟩
  obtain ⟨c, e1, e2⟩ := h3 pos cv hc
  exact ⟨c, e1, by rw [upd_ne (fun z : c = x => (n _ (z ▸ e2)).2 _ rfl)]; exact e2⟩
theorem TbOk.upd {G : Gm} {W : Wd} {H : Hp} {x : Addr} {u : HO} (h : TbOk G W H) (n : ∀ o, H x = some o → NoTb o) : TbOk G W (L2.upd H x u) := ⟨tabs_upd h.1 n, h.2⟩
theorem TbOk.new {G : Gm} {W : Wd} {H : Hp} {x : Addr} {u : HO} (h : TbOk G W H) (n : H x = none) : TbOk G W (L2.upd H x u) := h.upd fun o e => by rw [n] at e; cases e
structure R (G : Gm) (W : Wd) (env : Env) (p : PenSt) (σ : St) (H : Hp) : Prop where
  len : env.length = σ.length
  ok : WOk G W p H
  slot : ∀ (i : Nat) (s : Slot), env[i]? = some s → s ≠ .no → ∃ v, σ[i]? = some (some v) ∧ SlotOk G W H v s
  own : ∀ a, Own env σ a → ¬ W.S a ∧ ¬ penA G W a
  dis : ∀ (i j : Nat) (s t : Slot) (a : Addr), env[i]? = some s → s.isOwn = true → σ[i]? = some (some (.ref a)) → env[j]? = some t → t.isOwn = true → σ[j]? = some (some (.ref a)) → i = j

/-- from (W, H) to (W', H'): only what A tells of (and new things) may have changed -/
structure Tr (A : Addr → Prop) (W : Wd) (H : Hp) (W' : Wd) (H' : Hp) : Prop where
  kp : ∀ a o, ¬ A a → Ntb o → H a = some o → H' a = some o
  tk : ∀ a, H a ≠ none → H' a ≠ none
  pe : W'.pen = W.pen
  re : ∀ (k : Nat) (a : Addr), W.rows[k]? = some a → W'.rows[k]? = some a
  rn : ∀ a, a ∈ W'.rows → a ∈ W.rows ∨ H a = none
  sub : ∀ a, W.S a → W'.S a
  nw : ∀ a, W'.S a → W.S a ∨ H a = none ∨ A a
def ownA (G : Gm) (W : Wd) (env : Env) (σ : St) : Addr → Prop := fun a => penA G W a ∨ Own env σ a
section
variable {A A1 : Addr → Prop} {G : Gm} {W W1 W2 : Wd} {H H1 H2 : Hp} {env env1 : Env} {σ σ1 : St} {p p1 : PenSt}
theorem Tr.refl : Tr A W H W H := ⟨fun _ _ _ _ e => e, fun _ e => e, rfl, fun _ _ e => e, fun _ e => .inl e, fun _ e => e, fun _ e => .inl e⟩
theorem Tr.trans (a : Tr A W H W1 H1) (b : Tr A1 W1 H1 W2 H2) (hA : ∀ x, A1 x → A x ∨ H x = none) : Tr A W H W2 H2 where
  kp := fun x o hx nt e => b.kp x o (fun z => (hA x z).elim hx fun n => by rw [n] at e; cases e) nt (a.kp x o hx nt e)
  tk := fun x e => b.tk x (a.tk x e)
  pe := b.pe.trans a.pe
  re := fun k x e => b.re k x (a.re k x e)
  rn := fun x e => (b.rn x e).elim (a.rn x) fun n => .inr (Classical.byContradiction fun z => a.tk x z n)
  sub := fun x e => b.sub x (a.sub x e)
  nw := fun x e => by
    rcases b.nw x e with h | h | h
    · exact a.nw x h
    · exact .inr (.inl (Classical.byContradiction fun n => a.tk x n h))
    · rcases hA x h with z | z
      · exact .inr (.inr z)
      · exact .inr (.inl z)
theorem Tr.mono (a : Tr A W H W1 H1) (h : ∀ x, A x → A1 x) : Tr A1 W H W1 H1 :=
  ⟨fun x o hx nt e => a.kp x o (fun z => hx (h x z)) nt e, a.tk, a.pe, a.re, a.rn, a.sub, fun x e => (a.nw x e).imp_right fun z => z.imp_right (h x)⟩
theorem Tr.pa (t : Tr A W H W1 H1) : ∀ x, penA G W1 x → penA G W x ∨ H x = none := fun x z => z.elim (fun z => Or.inl (Or.inl (t.pe.symm.trans z))) fun z => z.elim (fun z => (t.rn x z).imp_left fun z => Or.inr (Or.inl z)) fun z => Or.inl (Or.inr (Or.inr z))
/-- of expressions, one behind another -/
theorem Tr.then (a : Tr (penA G W) W H W1 H1) (b : Tr (penA G W1) W1 H1 W2 H2) : Tr (penA G W) W H W2 H2 :=
  a.trans b a.pa

theorem RwOk.mem (r : RwOk W p H) {a : Addr} (h : a ∈ W.rows) : ¬ W.S a ∧ W.pen ≠ some a ∧ ∃ ns : List Int, H a = some (.lst (ns.map V.int)) := by
  obtain ⟨k, hk⟩ := List.getElem?_of_mem h
  obtain ⟨h1, h2, ns, _, h3⟩ := r.at_ k a hk
  exact ⟨h1, h2, ns, h3⟩
theorem WOk.pen_obj (r : WOk G W p H) {a : Addr} (h : penA G W a) : ∃ o, H a = some o ∧ ∀ xs, o ≠ .tup xs := by
  rcases h with h | h | ⟨q, h⟩
  · obtain ⟨_, _, c, _, _, e⟩ := r.pen a h
    exact ⟨_, e, fun _ z => by cases z⟩
  · obtain ⟨_, _, ns, e⟩ := r.rw.mem h
    exact ⟨_, e, fun _ z => by cases z⟩
  · obtain ⟨ps, e, _⟩ := r.tb.1 _ h
    exact ⟨_, e, fun _ z => by cases z⟩
theorem WOk.penA_notS (r : WOk G W p H) {a : Addr} (h : penA G W a) : ¬ W.S a := by
  rcases h with h | h | h
  · exact (r.pen a h).1
  · exact (r.rw.mem h).1
  · exact (r.tb.2 a h).1
theorem R.own_no (r : R G W env p σ H) {a : Addr} (h : Own env σ a) : ∀ o, H a = some o → NoTb o := fun o eo => by
  obtain ⟨i, s, e, ho, es⟩ := h
  obtain ⟨v, e2, q⟩ := r.slot i s e (by rintro rfl; cases ho)
  rw [es] at e2
  cases e2
  cases s with
  | no => cases ho
  | sh d => cases ho
  | ow ds => obtain ⟨b, xs, eb, hb, _⟩ := q; cases eb; rw [hb] at eo; cases eo; exact ⟨fun _ z => (by cases z), fun _ z => (by cases z)⟩
  | od ds => obtain ⟨b, xs, eb, hb, _⟩ := q; cases eb; rw [hb] at eo; cases eo; exact ⟨fun _ z => (by cases z), fun _ z => (by cases z)⟩
  | oo x0 c ds => obtain ⟨b, C, dx, xs, eb, _, hb, _⟩ := q; cases eb; rw [hb] at eo; cases eo; exact ⟨fun _ z => (by cases z), fun _ z => (by cases z)⟩
theorem R.own_obj (r : R G W env p σ H) {a : Addr} (h : Own env σ a) : ∃ o, H a = some o ∧ ∀ xs, o ≠ .tup xs := by
  obtain ⟨i, s, e, ho, es⟩ := h
  obtain ⟨v, e2, q⟩ := r.slot i s e (by rintro rfl; cases ho)
  rw [es] at e2
  cases e2
  cases s with
  | no => cases ho
  | sh d => cases ho
  | ow ds => obtain ⟨b, xs, eb, hb, _⟩ := q; cases eb; exact ⟨_, hb, fun _ z => by cases z⟩
  | od ds => obtain ⟨b, xs, eb, hb, _⟩ := q; cases eb; exact ⟨_, hb, fun _ z => by cases z⟩
  | oo x0 c ds => obtain ⟨b, C, dx, xs, eb, _, hb, _⟩ := q; cases eb; exact ⟨_, hb, fun _ z => by cases z⟩
theorem R.ownA_obj (r : R G W env p σ H) {a : Addr} (h : ownA G W env σ a) : ∃ o, H a = some o ∧ ∀ xs, o ≠ .tup xs := by
  rcases h with h | h
  · exact r.ok.pen_obj h
  · exact r.own_obj h
theorem R.ownA_notS (r : R G W env p σ H) {a : Addr} (h : ownA G W env σ a) : ¬ W.S a := by
  rcases h with h | h
  · exact r.ok.penA_notS h
  · exact (r.own a h).1

/-- data are kept by what changes only own things and the pen -/
theorem Rep.tr {v : V} {d : D} (h : Rep G W H v d) (t : Tr A W H W1 H1) (hA : ∀ a, A a → ¬ W.S a ∧ ∃ o, H a = some o ∧ ∀ xs, o ≠ .tup xs) : Rep G W1 H1 v d :=
  h.mono t.pe t.re t.sub (fun a o s nt e => t.kp a o (fun z => (hA a z).1 s) nt e) (fun a xs e => t.kp a _ (fun z => by
    obtain ⟨o, e', n⟩ := (hA a z).2
    rw [e] at e'
    cases e'
    exact n xs rfl) (fun _ z => by cases z) e)
theorem Reps.tr {v : List V} {d : List D} (h : Reps G W H v d) (t : Tr A W H W1 H1) (hA : ∀ a, A a → ¬ W.S a ∧ ∃ o, H a = some o ∧ ∀ xs, o ≠ .tup xs) : Reps G W1 H1 v d :=
  h.mono t.pe t.re t.sub (fun a o s nt e => t.kp a o (fun z => (hA a z).1 s) nt e) (fun a xs e => t.kp a _ (fun z => by
    obtain ⟨o, e', n⟩ := (hA a z).2
    rw [e] at e'
    cases e'
    exact n xs rfl) (fun _ z => by cases z) e)
theorem WOk.penA_ok (r : WOk G W p H) : ∀ a, penA G W a → ¬ W.S a ∧ ∃ o, H a = some o ∧ ∀ xs, o ≠ .tup xs := fun a h => ⟨r.penA_notS h, r.pen_obj h⟩
theorem R.ownA_ok (r : R G W env p σ H) : ∀ a, ownA G W env σ a → ¬ W.S a ∧ ∃ o, H a = some o ∧ ∀ xs, o ≠ .tup xs := fun a h => ⟨r.ownA_notS h, r.ownA_obj h⟩
theorem Rep.te {v : V} {d : D} (h : Rep G W H v d) (t : Tr (penA G W) W H W1 H1) (r : WOk G W p H) : Rep G W1 H1 v d := h.tr t r.penA_ok
theorem Reps.te {v : List V} {d : List D} (h : Reps G W H v d) (t : Tr (penA G W) W H W1 H1) (r : WOk G W p H) : Reps G W1 H1 v d := h.tr t r.penA_ok
theorem SlotOk.te {v : V} {s : Slot} (h : SlotOk G W H v s) (t : Tr (penA G W) W H W1 H1) (r : WOk G W p H) (hn : ∀ a, v = .ref a → s.isOwn = true → ¬ penA G W a) : SlotOk G W1 H1 v s := by
  cases s with
  | no => exact True.intro
  | sh d => exact Rep.te h t r
  | ow ds =>
    obtain ⟨a, xs, rfl, e, q⟩ := h
    exact ⟨a, xs, rfl, t.kp a _ (hn a rfl rfl) (fun _ z => by cases z) e, q.te t r⟩
  | od ds =>
    obtain ⟨a, xs, rfl, e, n, q⟩ := h
    exact ⟨a, xs, rfl, t.kp a _ (hn a rfl rfl) (fun _ z => by cases z) e, n, q.te t r⟩
  | oo x0 c ds =>
    obtain ⟨a, C, dx, xs, rfl, k, e, n, q⟩ := h
    exact ⟨a, C, dx, xs, rfl, k, t.kp a _ (hn a rfl rfl) (fun _ z => by cases z) e, n, q.te t r⟩
/-- the state behind an expression (or a call) -/
theorem R.step (r : R G W env p σ H) (t : Tr (penA G W) W H W1 H1) (w : WOk G W1 p1 H1) : R G W1 env p1 σ H1 := by
  refine ⟨r.len, w, fun i s e n => ?_, fun a h => ?_, r.dis⟩
  · obtain ⟨v, e2, q⟩ := r.slot i s e n
    exact ⟨v, e2, q.te t r.ok fun a ea ho => (r.own a ⟨i, s, e, ho, ea ▸ e2⟩).2⟩
  · obtain ⟨h1, h2⟩ := r.own a h
    refine ⟨fun z => ?_, fun z => (t.pa a z).elim h2 fun n => ?_⟩
    rotate_left
    · obtain ⟨o, e, _⟩ := r.own_obj h
      rw [n] at e
      cases e
    rcases t.nw a z with q | q | q
    · exact h1 q
    · obtain ⟨o, e, _⟩ := r.own_obj h
      rw [q] at e
      cases e
    · exact h2 q
end
end Cr
namespace Cr
open PySem L2

/-! ### judgements weakened -/
theorem peI {X : Cx} {e : Expr} {t t' : TE} (h : PE X e t) (k : ∀ σ H Q, t' σ H Q → t σ H Q) : PE X e t' := ⟨fun pins s σ H Q I q => h.run pins s σ H Q I (k σ H Q q)⟩
theorem ptI {X : Cx} {e : Expr} {t t' : TT} (h : PT X e t) (k : ∀ σ H Q, t' σ H Q → t σ H Q) : PT X e t' := ⟨fun pins s σ H Q I q => h.run pins s σ H Q I (k σ H Q q)⟩
theorem pwI {X : Cx} {e : Expr} {t t' : TT} (h : PW X e t) (k : ∀ σ H Q, t' σ H Q → t σ H Q) : PW X e t' := ⟨fun wh pins s σ H Q I q => h.run wh pins s σ H Q I (k σ H Q q)⟩
theorem paI {X : Cx} {e : List Expr} {t t' : TA} (h : PA X e t) (k : ∀ σ H Q, t' σ H Q → t σ H Q) : PA X e t' := ⟨fun pos pins s σ H Q I q => h.run pos pins s σ H Q I (k σ H Q q)⟩
theorem psI {X : Cx} {e : Stmt} {t t' : TS} (h : PS X e t) (k : ∀ D σ H, t' D σ H → t D σ H) : PS X e t' := ⟨fun pins s σ H D I q => h.run pins s σ H D I (k D σ H q)⟩
theorem pssI {X : Cx} {e : List Stmt} {t t' : TS} (h : PSs X e t) (k : ∀ D σ H, t' D σ H → t D σ H) : PSs X e t' := ⟨fun pins s σ H D I q => h.run pins s σ H D I (k D σ H q)⟩
theorem pgI {X : Cx} {e : Expr} {t t' : TG} (h : PG X e t) (k : ∀ v σ H Q, t' v σ H Q → t v σ H Q) : PG X e t' := ⟨fun pins s σ H v u Q I r q => h.run pins s σ H v u Q I r (k v σ H Q q)⟩
theorem piI {X : Cx} {tg e : Expr} {t t' : TI} (h : PI X tg e t) (k : ∀ σ H Q, t' σ H Q → t σ H Q) : PI X tg e t' := ⟨fun pins s σ H Q I q => h.run pins s σ H Q I (k σ H Q q)⟩
theorem ptsI {X : Cx} {e : List Expr} {t t' : TT} (h : PTs X e t) (k : ∀ σ H Q, t' σ H Q → t σ H Q) : PTs X e t' := ⟨fun pins s σ H Q I q => h.run pins s σ H Q I (k σ H Q q)⟩

/-! ### what is borrowed: a list or a dict of the frame's own, read at once -/
def RepB (G : Gm) (W : Wd) (env : Env) (σ : St) (H : Hp) (v : V) (d : D) : Prop :=
  Rep G W H v d ∨ (∃ a xs ds, v = .ref a ∧ d = .lst ds ∧ Own env σ a ∧ H a = some (.lst xs) ∧ Reps G W H xs ds) ∨
    ∃ a ks kvs, v = .ref a ∧ d = .dct kvs ∧ Own env σ a ∧ H a = some (.dK ks) ∧ ks.map Prod.fst = kvs.map Prod.fst ∧ Reps G W H (ks.map Prod.snd) (kvs.map Prod.snd)
section
variable {G : Gm} {W W1 : Wd} {H H1 : Hp} {env : Env} {σ : St} {p : PenSt} {v : V}
theorem RepB.te {d : D} (h : RepB G W env σ H v d) (t : Tr (penA G W) W H W1 H1) (r : R G W env p σ H) : RepB G W1 env σ H1 v d := by
  rcases h with h | ⟨a, xs, ds, ev, ed, o, e, q⟩ | ⟨a, ks, kvs, ev, ed, o, e, n, q⟩
  · exact .inl (h.te t r.ok)
  · exact .inr (.inl ⟨a, xs, ds, ev, ed, o, t.kp a _ (r.own a o).2 (fun _ z => by cases z) e, q.te t r.ok⟩)
  · exact .inr (.inr ⟨a, ks, kvs, ev, ed, o, t.kp a _ (r.own a o).2 (fun _ z => by cases z) e, n, q.te t r.ok⟩)
theorem RepB.lst {ds : List D} (h : RepB G W env σ H v (.lst ds)) : ∃ a xs, v = .ref a ∧ H a = some (.lst xs) ∧ Reps G W H xs ds := by
  rcases h with h | ⟨a, xs, es, ev, ed, o, e, q⟩ | ⟨a, ks, kvs, ev, ed, o, e, n, q⟩
  · cases h with
    | lst s e r => exact ⟨_, _, rfl, e, r⟩
  · cases ed
    exact ⟨a, xs, ev, e, q⟩
  · cases ed
theorem RepB.lstN {ds : List D} (r : R G W env p σ H) (h : RepB G W env σ H v (.lst ds)) : ∃ a xs, v = .ref a ∧ H a = some (.lst xs) ∧ Reps G W H xs ds ∧ ¬ penA G W a := by
  rcases h with h | ⟨a, xs, es, ev, ed, o, e, q⟩ | ⟨a, ks, kvs, ev, ed, o, e, n, q⟩
  · cases h with
    | lst s e q => exact ⟨_, _, rfl, e, q, fun z => r.ok.penA_notS z s⟩
  · cases ed
    exact ⟨a, xs, ev, e, q, (r.own a o).2⟩
  · cases ed
theorem RepB.tup {ds : List D} (h : RepB G W env σ H v (.tup ds)) : ∃ a xs, v = .ref a ∧ H a = some (.tup xs) ∧ Reps G W H xs ds ∧ Rep G W H v (.tup ds) := by
  rcases h with h | ⟨a, xs, es, ev, ed, o, e, q⟩ | ⟨a, ks, kvs, ev, ed, o, e, n, q⟩
  · cases h with
    | tup e r => exact ⟨_, _, rfl, e, r, .tup e r⟩
  · cases ed
  · cases ed
theorem RepB.dct {ds : List (Key × D)} (h : RepB G W env σ H v (.dct ds)) : ∃ a ks, v = .ref a ∧ H a = some (.dK ks) ∧ ks.map Prod.fst = ds.map Prod.fst ∧ Reps G W H (ks.map Prod.snd) (ds.map Prod.snd) := by
  rcases h with h | ⟨a, xs, es, ev, ed, o, e, q⟩ | ⟨a, ks, kvs, ev, ed, o, e, n, q⟩
  · cases h with
    | dct s e n r => exact ⟨_, _, rfl, e, n, r⟩
  · cases ed
  · cases ed
    exact ⟨a, ks, ev, e, n, q⟩
theorem RepB.obj {c : String} {fs : List (Str × D)} (h : RepB G W env σ H v (.obj c fs)) : Rep G W H v (.obj c fs) := by
  rcases h with h | ⟨a, xs, es, ev, ed, o, e, q⟩ | ⟨a, ks, kvs, ev, ed, o, e, n, q⟩
  · exact h
  · cases ed
  · cases ed
theorem RepB.int {i : Int} (h : RepB G W env σ H v (.int i)) : v = .int i := by
  rcases h with h | ⟨a, xs, es, ev, ed, o, e, q⟩ | ⟨a, ks, kvs, ev, ed, o, e, n, q⟩
  · cases h; rfl
  · cases ed
  · cases ed
theorem RepB.bl {i : Bool} (h : RepB G W env σ H v (.bl i)) : v = .bl i := by
  rcases h with h | ⟨a, xs, es, ev, ed, o, e, q⟩ | ⟨a, ks, kvs, ev, ed, o, e, n, q⟩
  · cases h; rfl
  · cases ed
  · cases ed
theorem RepB.str {i : Str} (h : RepB G W env σ H v (.str i)) : v = .str i := by
  rcases h with h | ⟨a, xs, es, ev, ed, o, e, q⟩ | ⟨a, ks, kvs, ev, ed, o, e, n, q⟩
  · cases h; rfl
  · cases ed
  · cases ed
theorem RepB.non (h : RepB G W env σ H v .non) : v = .non := by
  rcases h with h | ⟨a, xs, es, ev, ed, o, e, q⟩ | ⟨a, ks, kvs, ev, ed, o, e, n, q⟩
  · cases h; rfl
  · cases ed
  · cases ed
end

/-! ### new things -/
section
variable {G : Gm} {W : Wd} {H : Hp} {env : Env} {σ : St} {p : PenSt} {q : Addr} {o : HO}
/-- q is never changed any more -/
def Wd.add (W : Wd) (q : Addr) : Wd := ⟨W.pen, fun a => W.S a ∨ a = q, W.rows⟩
theorem WOk.upd (w : WOk G W p H) (hn : H q = none) : WOk G W p (upd H q o) := by
  refine ⟨w.tb.new hn, fun a s e => ?_, fun b e => ?_, w.rw.len, w.rw.nd, fun k a e => ?_⟩
  rotate_right
  · obtain ⟨h1, h2, ns, h3, h4⟩ := w.rw.at_ k a e
    exact ⟨h1, h2, ns, h3, by rw [upd_ne (ne_of_none h4 hn)]; exact h4⟩
  · by_cases h : a = q
    · subst h
      rw [upd_same] at e
      cases e
    · rw [upd_ne h] at e
      exact w.trk a s e
  · obtain ⟨h1, h2, c, h3, h4, h5⟩ := w.pen b e
    exact ⟨h1, h2, c, h3, by rw [upd_ne (ne_of_none h4 hn)]; exact h4, by rw [upd_ne (ne_of_none h5 hn)]; exact h5⟩
theorem WOk.add (w : WOk G W p H) (hn : ¬ penA G W q) (he : H q ≠ none) : WOk G (W.add q) p H := by
  refine ⟨⟨w.tb.1, fun a ta => ⟨fun z => z.elim (w.tb.2 a ta).1 fun z => hn (.inr (.inr (z ▸ ta))), (w.tb.2 a ta).2⟩⟩, fun a s => ?_, fun b e => ?_, w.rw.len, w.rw.nd, fun k a e => ?_⟩
  rotate_right
  · obtain ⟨h1, h2, h3⟩ := w.rw.at_ k a e
    exact ⟨fun z => z.elim h1 fun z => hn (.inr (.inl (z ▸ List.mem_of_getElem? e))), h2, h3⟩
  · rcases s with s | rfl
    · exact w.trk a s
    · exact he
  · obtain ⟨h1, h2, c, h3, h4⟩ := w.pen b e
    refine ⟨fun z => z.elim h1 fun z => hn (.inl (z ▸ e)), h2, c, .inl h3, h4⟩
theorem WOk.atX (w : WOk G W p H) {x : Addr} {u : HO} (n : ¬ W.S x ∧ ¬ penA G W x) (nt : ∀ o, H x = some o → NoTb o) : WOk G W p (L2.upd H x u) := by
  have n1 : ∀ y, W.S y → y ≠ x := fun y s z => n.1 (z ▸ s)
  have n2 : ∀ y, penA G W y → y ≠ x := fun y s z => n.2 (z ▸ s)
  refine ⟨w.tb.upd nt, fun y hy => ?_, fun q hq => ?_, w.rw.len, w.rw.nd, fun k a ek => ?_⟩
  · by_cases z : y = x
    · rw [z, upd_same]; exact fun z => by cases z
    · rw [upd_ne z]; exact w.trk y hy
  · obtain ⟨g1, g2, cc, g3, g4, g5⟩ := w.pen q hq
    exact ⟨g1, g2, cc, g3, by rw [upd_ne (n1 _ g3)]; exact g4, by rw [upd_ne (n2 _ (.inl hq))]; exact g5⟩
  · obtain ⟨g1, g2, ns, g3, g4⟩ := w.rw.at_ k a ek
    exact ⟨g1, g2, ns, g3, by rw [upd_ne (n2 _ (.inr (.inl (List.mem_of_getElem? ek))))]; exact g4⟩
theorem noTb_lst {H : Hp} {x : Addr} {xs : List V} (e : H x = some (.lst xs)) : ∀ o, H x = some o → NoTb o := fun o z => by
  rw [e] at z
  cases z
  exact ⟨fun _ z => (by cases z), fun _ z => (by cases z)⟩
theorem noTb_dK {H : Hp} {x : Addr} {xs : List (Key × V)} (e : H x = some (.dK xs)) : ∀ o, H x = some o → NoTb o := fun o z => by
  rw [e] at z
  cases z
  exact ⟨fun _ z => (by cases z), fun _ z => (by cases z)⟩
theorem WOk.pen_ne (w : WOk G W p H) (hn : H q = none) : ¬ penA G W q := fun e => by
  obtain ⟨o, h5, _⟩ := w.pen_obj e
  rw [hn] at h5
  cases h5
theorem Tr.new {A : Addr → Prop} (hn : H q = none) : Tr A W H W (upd H q o) :=
  ⟨fun a u _ _ e => by rw [upd_ne (ne_of_none e hn)]; exact e, fun a e => by
    by_cases h : a = q
    · subst h
      exact absurd hn e
    · rw [upd_ne h]
      exact e, rfl, fun _ _ e => e, fun _ e => .inl e, fun _ e => e, fun _ e => .inl e⟩
theorem Tr.newS {A : Addr → Prop} (hn : H q = none) : Tr A W H (W.add q) (upd H q o) :=
  ⟨(Tr.new (W := W) hn).kp, (Tr.new (A := A) (W := W) hn).tk, rfl, fun _ _ e => e, fun _ e => .inl e, fun _ e => .inl e, fun a e => e.elim .inl fun z => .inr (.inl (z ▸ hn))⟩
theorem R.new (r : R G W env p σ H) (hn : H q = none) : R G W env p σ (upd H q o) := r.step (Tr.new hn) (r.ok.upd hn)
theorem R.newS (r : R G W env p σ H) (hn : H q = none) : R G (W.add q) env p σ (upd H q o) :=
  r.step (Tr.newS hn) ((r.ok.upd hn).add (r.ok.pen_ne hn) (by rw [upd_same]; exact fun z => by cases z))
theorem Own.ne (r : R G W env p σ H) (hn : H q = none) {a : Addr} (h : Own env σ a) : a ≠ q := by
  obtain ⟨o, e, _⟩ := r.own_obj h
  exact ne_of_none e hn
end

/-! ### what an expression gives -/
abbrev FV (α : Type) := Env → PenSt → Option (α × PenSt)
abbrev Post := Wd → Hp → V → Prop
def PostV (G : Gm) (W : Wd) (env : Env) (σ : St) (H : Hp) (p : PenSt) (P : Post) (Q : VK) : Prop :=
  ∀ W' H' v, Tr (penA G W) W H W' H' → R G W' env p σ H' → P W' H' v → Q v H'
/-- data; borrowed data; a slot's content (new, where it is to be owned) -/
def tE (G : Gm) (f : FV D) : TE := fun σ H Q => ∃ W env p r p', R G W env p σ H ∧ f env p = some (r, p') ∧ PostV G W env σ H p' (fun W' H' v => Rep G W' H' v r) Q
def tB (G : Gm) (f : FV D) : TE := fun σ H Q => ∃ W env p r p', R G W env p σ H ∧ f env p = some (r, p') ∧ PostV G W env σ H p' (fun W' H' v => RepB G W' env σ H' v r) Q
def Fresh (G : Gm) (W' : Wd) (H : Hp) (s : Slot) (v : V) : Prop := s.isOwn = true → ∃ a, v = .ref a ∧ H a = none ∧ ¬ W'.S a ∧ ¬ penA G W' a
def tX (G : Gm) (f : FV Slot) : TE := fun σ H Q => ∃ W env p r p', R G W env p σ H ∧ f env p = some (r, p') ∧ PostV G W env σ H p' (fun W' H' v => SlotOk G W' H' v r ∧ Fresh G W' H r v) Q
section
variable {X : Cx} {G : Gm} {e a b c : Expr} {f fa fb fc : FV D} {pos : Pos}
theorem b_e (h : PE X e (tE G f)) : PE X e (tB G f) := peI h fun σ H Q ⟨W, env, p, r, p', hR, hf, k⟩ => ⟨W, env, p, r, p', hR, hf, fun W' H' v t r' q => k W' H' v t r' (.inl q)⟩
def fSh (f : FV D) : FV Slot := fun env p => (f env p).map fun z => (.sh z.1, z.2)
theorem x_e (h : PE X e (tE G f)) : PE X e (tX G (fSh f)) := peI h fun σ H Q ⟨W, env, p, r, p', hR, hf, k⟩ => by
  unfold fSh at hf
  cases q : f env p with
  | none => rw [q] at hf; cases hf
  | some z =>
    obtain ⟨d, p1⟩ := z
    rw [q] at hf
    cases hf
    exact ⟨W, env, p, d, p1, hR, q, fun W' H' v t r' q => k W' H' v t r' ⟨q, fun z => by cases z⟩⟩

/-! ### names, constants -/
def fVar (i : Nat) : FV D := fun env p => match env[i]? with
  | some (.sh d) => some (d, p)
  | _ => none
def fVarB (i : Nat) : FV D := fun env p => match env[i]? with
  | some (.sh d) => some (d, p)
  | some (.ow ds) => some (.lst ds, p)
  | some (.od ds) => some (.dct ds, p)
  | _ => none
theorem e_var {i : Nat} (h : PE X e (tVar i)) : PE X e (tE G (fVar i)) := peI h fun σ H Q ⟨W, env, p, r, p', hR, hf, k⟩ => by
  unfold fVar at hf
  split at hf
  · rename_i d he
    cases hf
    obtain ⟨v, ev, q⟩ := hR.slot i _ he (fun z => by cases z)
    exact ⟨v, ev, k W H v Tr.refl hR q⟩
  · cases hf
theorem b_var {i : Nat} (h : PE X e (tVar i)) : PE X e (tB G (fVarB i)) := peI h fun σ H Q ⟨W, env, p, r, p', hR, hf, k⟩ => by
  unfold fVarB at hf
  split at hf
  · rename_i d he
    cases hf
    obtain ⟨v, ev, q⟩ := hR.slot i _ he (fun z => by cases z)
    exact ⟨v, ev, k W H v Tr.refl hR (.inl q)⟩
  · rename_i d he
    cases hf
    obtain ⟨v, ev, a, xs, eq, ea, q⟩ := hR.slot i _ he (fun z => by cases z)
    subst eq
    exact ⟨.ref a, ev, k W H _ Tr.refl hR (.inr (.inl ⟨a, xs, d, rfl, rfl, ⟨i, _, he, rfl, ev⟩, ea, q⟩))⟩
  · rename_i d he
    cases hf
    obtain ⟨v, ev, a, xs, eq, ea, n, q⟩ := hR.slot i _ he (fun z => by cases z)
    subst eq
    exact ⟨.ref a, ev, k W H _ Tr.refl hR (.inr (.inr ⟨a, xs, d, rfl, rfl, ⟨i, _, he, rfl, ev⟩, ea, n, q⟩))⟩
  · cases hf
def fC (d : D) : FV D := fun _ p => some (d, p)
theorem e_c {v : V} {d : D} (h : PE X e (tC v)) (hd : ∀ W H, Rep G W H v d) : PE X e (tE G (fC d)) := peI h fun σ H Q ⟨W, env, p, r, p', hR, hf, k⟩ => by
  cases hf
  exact k W H v Tr.refl hR (hd W H)
theorem e_int {i j} : PE X (.Constant (.int i) j pos) (tE G (fC (.int i))) := e_c pe_int fun _ _ => .int i
theorem e_bl {i j} : PE X (.Constant (.bool i) j pos) (tE G (fC (.bl i))) := e_c pe_bl fun _ _ => .bl i
theorem e_str {i j} : PE X (.Constant (.str i) j pos) (tE G (fC (.str i))) := e_c pe_str fun _ _ => .str i
theorem e_non {j} : PE X (.Constant .none j pos) (tE G (fC .non)) := e_c pe_non fun _ _ => .non

/-! ### operators by values -/
def f2 (g : D → D → Option D) (fa fb : FV D) : FV D := fun env p => do
  let (x, p) ← fa env p
  let (y, p) ← fb env p
  let r ← g x y
  pure (r, p)
def f1 (g : D → Option D) (fa : FV D) : FV D := fun env p => do
  let (x, p) ← fa env p
  let r ← g x
  pure (r, p)
theorem f2_some {g : D → D → Option D} {env : Env} {p p' : PenSt} {r : D} (h : f2 g fa fb env p = some (r, p')) : ∃ x p1 y, fa env p = some (x, p1) ∧ fb env p1 = some (y, p') ∧ g x y = some r := by
  unfold f2 at h
  cases h1 : fa env p with
  | none => rw [h1] at h; cases h
  | some z =>
    obtain ⟨x, p1⟩ := z
    rw [h1] at h
    simp only [Option.bind_eq_bind, Option.bind_some] at h
    cases h2 : fb env p1 with
    | none => rw [h2] at h; cases h
    | some z =>
      obtain ⟨y, p2⟩ := z
      rw [h2] at h
      simp only [Option.bind_some] at h
      cases h3 : g x y with
      | none => rw [h3] at h; cases h
      | some w =>
        rw [h3] at h
        cases h
        exact ⟨x, p1, y, rfl, h2, h3⟩
theorem f1_some {g : D → Option D} {env : Env} {p p' : PenSt} {r : D} (h : f1 g fa env p = some (r, p')) : ∃ x, fa env p = some (x, p') ∧ g x = some r := by
  unfold f1 at h
  cases h1 : fa env p with
  | none => rw [h1] at h; cases h
  | some z =>
    obtain ⟨x, p1⟩ := z
    rw [h1] at h
    simp only [Option.bind_eq_bind, Option.bind_some] at h
    cases h3 : g x with
    | none => rw [h3] at h; cases h
    | some w =>
      rw [h3] at h
      cases h
      exact ⟨x, rfl, h3⟩
/-- a value rule is right about g -/
def Is2 (G : Gm) (rr : R2) (g : D → D → Option D) : Prop :=
  ∀ (W : Wd) (env : Env) (p : PenSt) (σ : St) (H : Hp) (x y : V) (d e r : D) (Q : VK), R G W env p σ H → RepB G W env σ H x d → RepB G W env σ H y e → g d e = some r → PostV G W env σ H p (fun W' H' v => Rep G W' H' v r) Q → rr x y H Q
def Is1 (G : Gm) (rr : V → Hp → VK → Prop) (g : D → Option D) : Prop :=
  ∀ (W : Wd) (env : Env) (p : PenSt) (σ : St) (H : Hp) (x : V) (d r : D) (Q : VK), R G W env p σ H → RepB G W env σ H x d → g d = some r → PostV G W env σ H p (fun W' H' v => Rep G W' H' v r) Q → rr x H Q
theorem two {rr : R2} {g : D → D → Option D} (hg : Is2 G rr g) {σ : St} {H : Hp} {Q : VK} (h : tE G (f2 g fa fb) σ H Q) : tB G fa σ H fun x H1 => tB G fb σ H1 fun y H2 => rr x y H2 Q := by
  obtain ⟨W, env, p, r, p', hR, hf, k⟩ := h
  obtain ⟨x, p1, y, h1, h2, h3⟩ := f2_some hf
  refine ⟨W, env, p, x, p1, hR, h1, fun W1 H1 v t1 R1 q1 => ⟨W1, env, p1, y, p', R1, h2, fun W2 H2 u t2 R2 q2 => ?_⟩⟩
  exact hg W2 env p' σ H2 v u x y r Q R2 (q1.te t2 R1) q2 h3 fun W3 H3 w t3 R3 q3 => k W3 H3 w ((t1.then t2).then t3) R3 q3
theorem one {rr : V → Hp → VK → Prop} {g : D → Option D} (hg : Is1 G rr g) {σ : St} {H : Hp} {Q : VK} (h : tE G (f1 g fa) σ H Q) : tB G fa σ H fun x H1 => rr x H1 Q := by
  obtain ⟨W, env, p, r, p', hR, hf, k⟩ := h
  obtain ⟨x, h1, h3⟩ := f1_some hf
  refine ⟨W, env, p, x, p', hR, h1, fun W1 H1 v t1 R1 q1 => ?_⟩
  exact hg W1 env p' σ H1 v x r Q R1 q1 h3 fun W3 H3 w t3 R3 q3 => k W3 H3 w (t1.then t3) R3 q3
theorem e_op {op : Operator} {rr : R2} {g : D → D → Option D} (ho : OpR X (binaryOp op) rr) (hg : Is2 G rr g) (ha : PE X a (tB G fa)) (hb : PE X b (tB G fb)) : PE X (.BinOp a op b pos) (tE G (f2 g fa fb)) :=
  peI (pe_op ho ha hb) fun _ _ _ h => two hg h
theorem e_cmp {op : CmpOp} {rr : R2} {g : D → D → Option D} (ho : OpR X (compareOp op) rr) (hg : Is2 G rr g) (hm : behindInMarks op b = false) (ha : PE X a (tB G fa)) (hb : PE X b (tB G fb)) : PE X (.Compare a [op] [b] pos) (tE G (f2 g fa fb)) :=
  peI (pe_cmpR ho ha hb hm) fun _ _ _ h => two hg h
theorem e_un {op : UnaryOp} {rr : V → Hp → VK → Prop} {g : D → Option D} (ho : UnR X (unaryOp op) rr) (hg : Is1 G rr g) (ha : PE X a (tB G fa)) : PE X (.UnaryOp op a pos) (tE G (f1 g fa)) :=
  peI (pe_un ho ha) fun _ _ _ h => one hg h
theorem e_ix {rr : R2} {g : D → D → Option D} (ho : IxR X rr) (hg : Is2 G rr g) (ha : PE X a (tB G fa)) (hb : PE X b (tB G fb)) (hs : PlainIx b) : PE X (.Subscript a b pos) (tE G (f2 g fa fb)) :=
  peI (pe_ix ho ha hb hs) fun _ _ _ h => two hg h
end
end Cr
namespace Cr
open PySem L2

/-! ### new lists -/
def toX : D → Slot
  | .lst ds => .ow ds
  | .dct ds => .od ds
  | d => .sh d
def NewP (G : Gm) (H : Hp) (r : D) : Post := fun W' H' v => SlotOk G W' H' v (toX r) ∧ Fresh G W' H (toX r) v
section
variable {X : Cx} {G : Gm} {W : Wd} {H : Hp} {env : Env} {σ : St} {p : PenSt} {r : D} {Q : VK} {e a b c : Expr} {f fa fb fc : FV D} {pos : Pos}
/-- a new thing becomes one that is never changed -/
theorem R.fz {W1 : Wd} {H1 : Hp} (r : R G W1 env p σ H1) {q : Addr} (h1 : ¬ penA G W1 q) (h2 : H1 q ≠ none) (h3 : ¬ Own env σ q) : R G (W1.add q) env p σ H1 := by
  have t : Tr (fun _ => False) W1 H1 (W1.add q) H1 → True := fun _ => True.intro
  refine ⟨r.len, r.ok.add h1 h2, fun i s e n => ?_, fun a h => ⟨fun z => z.elim (r.own a h).1 fun z => h3 (z ▸ h), (r.own a h).2⟩, r.dis⟩
  obtain ⟨v, e2, q2⟩ := r.slot i s e n
  have m : ∀ {v : V} {d : D}, Rep G W1 H1 v d → Rep G (W1.add q) H1 v d := fun h => h.mono (W := W1) (W' := W1.add q) rfl (fun _ _ e => e) (fun _ s => Or.inl s) (fun _ _ _ _ e => e) (fun _ _ e => e)
  have ms : ∀ {v : List V} {d : List D}, Reps G W1 H1 v d → Reps G (W1.add q) H1 v d := fun h => h.mono (W := W1) (W' := W1.add q) rfl (fun _ _ e => e) (fun _ s => Or.inl s) (fun _ _ _ _ e => e) (fun _ _ e => e)
  refine ⟨v, e2, ?_⟩
  cases s with
  | no => exact True.intro
  | sh d => exact m q2
  | ow d => obtain ⟨a, xs, h1, h2, h3⟩ := q2; exact ⟨a, xs, h1, h2, ms h3⟩
  | od d => obtain ⟨a, xs, h1, h2, h4, h3⟩ := q2; exact ⟨a, xs, h1, h2, h4, ms h3⟩
  | oo x0 c d => obtain ⟨a, C, dx, xs, h1, h2, h4, h5, h3⟩ := q2; exact ⟨a, C, dx, xs, h1, h2, h4, h5, ms h3⟩
theorem Rep.add {W1 : Wd} {H1 : Hp} {q : Addr} {v : V} {d : D} (h : Rep G W1 H1 v d) : Rep G (W1.add q) H1 v d := h.mono (W := W1) (W' := W1.add q) rfl (fun _ _ e => e) (fun _ s => Or.inl s) (fun _ _ _ _ e => e) (fun _ _ e => e)
theorem Reps.add {W1 : Wd} {H1 : Hp} {q : Addr} {v : List V} {d : List D} (h : Reps G W1 H1 v d) : Reps G (W1.add q) H1 v d := h.mono (W := W1) (W' := W1.add q) rfl (fun _ _ e => e) (fun _ s => Or.inl s) (fun _ _ _ _ e => e) (fun _ _ e => e)
theorem postFz (hR : R G W env p σ H) {p' : PenSt} (k : PostV G W env σ H p' (fun W' H' v => Rep G W' H' v r) Q) : PostV G W env σ H p' (NewP G H r) Q := by
  intro W1 H1 v t R1 ⟨so, fr⟩
  have no : ∀ a, H a = none → ¬ Own env σ a := fun a h o => by
    obtain ⟨o', e, _⟩ := hR.own_obj o
    rw [h] at e
    cases e
  have fin : ∀ a u, H a = none → H1 a = some u → ¬ penA G W1 a → Tr (penA G W) W H (W1.add a) H1 := fun a u h e n =>
    ⟨t.kp, t.tk, t.pe, t.re, t.rn, fun b s => .inl (t.sub b s), fun b s => s.elim (t.nw b) fun z => .inr (.inl (z ▸ h))⟩
  cases r with
  | lst ds =>
    obtain ⟨a, e, h0, h1, h2⟩ := fr rfl
    obtain ⟨a', xs, e', hx, q⟩ := so
    subst e
    cases e'
    exact k _ _ _ (fin a _ h0 hx h2) (R1.fz h2 (by rw [hx]; exact fun z => by cases z) (no a h0)) (.lst (.inr rfl) hx q.add)
  | dct ds =>
    obtain ⟨a, e, h0, h1, h2⟩ := fr rfl
    obtain ⟨a', xs, e', hx, n, q⟩ := so
    subst e
    cases e'
    exact k _ _ _ (fin a _ h0 hx h2) (R1.fz h2 (by rw [hx]; exact fun z => by cases z) (no a h0)) (.dct (.inr rfl) hx n q.add)
  | non => exact k _ _ _ t R1 so
  | bl _ => exact k _ _ _ t R1 so
  | int _ => exact k _ _ _ t R1 so
  | str _ => exact k _ _ _ t R1 so
  | pen => exact k _ _ _ t R1 so
  | row _ => exact k _ _ _ t R1 so
  | tup _ => exact k _ _ _ t R1 so
  | obj _ _ => exact k _ _ _ t R1 so
/-- an expression whose lists are new -/
def tN (G : Gm) (f : FV D) : TE := fun σ H Q => ∃ W env p r p', R G W env p σ H ∧ f env p = some (r, p') ∧ PostV G W env σ H p' (NewP G H r) Q
theorem e_n (h : PE X e (tN G f)) : PE X e (tE G f) := peI h fun σ H Q ⟨W, env, p, r, p', hR, hf, k⟩ => ⟨W, env, p, r, p', hR, hf, postFz hR k⟩
def fX (f : FV D) : FV Slot := fun env p => (f env p).map fun z => (toX z.1, z.2)
theorem x_n (h : PE X e (tN G f)) : PE X e (tX G (fX f)) := peI h fun σ H Q ⟨W, env, p, r, p', hR, hf, k⟩ => by
  unfold fX at hf
  cases q : f env p with
  | none => rw [q] at hf; cases hf
  | some z =>
    obtain ⟨d, p1⟩ := z
    rw [q] at hf
    cases hf
    exact ⟨W, env, p, d, p1, hR, q, k⟩
/-- of a value rule whose lists are new -/
def Is2N (G : Gm) (rr : R2) (g : D → D → Option D) : Prop :=
  ∀ (W : Wd) (env : Env) (p : PenSt) (σ : St) (H : Hp) (x y : V) (d e r : D) (Q : VK), R G W env p σ H → RepB G W env σ H x d → RepB G W env σ H y e → g d e = some r → PostV G W env σ H p (NewP G H r) Q → rr x y H Q
def Is1N (G : Gm) (rr : V → Hp → VK → Prop) (g : D → Option D) : Prop :=
  ∀ (W : Wd) (env : Env) (p : PenSt) (σ : St) (H : Hp) (x : V) (d r : D) (Q : VK), R G W env p σ H → RepB G W env σ H x d → g d = some r → PostV G W env σ H p (NewP G H r) Q → rr x H Q
theorem NewP.back {W' : Wd} {H1 H' : Hp} {v : V} (h : NewP G H1 r W' H' v) (tk : ∀ a, H a ≠ none → H1 a ≠ none) : NewP G H r W' H' v :=
  ⟨h.1, fun z => by
    obtain ⟨a, e, h0, h1⟩ := h.2 z
    exact ⟨a, e, Classical.byContradiction fun n => tk a n h0, h1⟩⟩
theorem twoN {rr : R2} {g : D → D → Option D} (hg : Is2N G rr g) {σ : St} {H : Hp} {Q : VK} (h : tN G (f2 g fa fb) σ H Q) : tB G fa σ H fun x H1 => tB G fb σ H1 fun y H2 => rr x y H2 Q := by
  obtain ⟨W, env, p, r, p', hR, hf, k⟩ := h
  obtain ⟨x, p1, y, h1, h2, h3⟩ := f2_some hf
  refine ⟨W, env, p, x, p1, hR, h1, fun W1 H1 v t1 R1 q1 => ⟨W1, env, p1, y, p', R1, h2, fun W2 H2 u t2 R2 q2 => ?_⟩⟩
  exact hg W2 env p' σ H2 v u x y r Q R2 (q1.te t2 R1) q2 h3 fun W3 H3 w t3 R3 q3 => k W3 H3 w ((t1.then t2).then t3) R3 (q3.back fun a z => t2.tk a (t1.tk a z))
theorem oneN {rr : V → Hp → VK → Prop} {g : D → Option D} (hg : Is1N G rr g) {σ : St} {H : Hp} {Q : VK} (h : tN G (f1 g fa) σ H Q) : tB G fa σ H fun x H1 => rr x H1 Q := by
  obtain ⟨W, env, p, r, p', hR, hf, k⟩ := h
  obtain ⟨x, h1, h3⟩ := f1_some hf
  refine ⟨W, env, p, x, p', hR, h1, fun W1 H1 v t1 R1 q1 => ?_⟩
  exact hg W1 env p' σ H1 v x r Q R1 q1 h3 fun W3 H3 w t3 R3 q3 => k W3 H3 w (t1.then t3) R3 (q3.back t1.tk)
theorem n_op {op : Operator} {rr : R2} {g : D → D → Option D} (ho : OpR X (binaryOp op) rr) (hg : Is2N G rr g) (ha : PE X a (tB G fa)) (hb : PE X b (tB G fb)) : PE X (.BinOp a op b pos) (tN G (f2 g fa fb)) :=
  peI (pe_op ho ha hb) fun _ _ _ h => twoN hg h
/-- the common ends of value rules -/
theorem PostV.same {P : Post} (k : PostV G W env σ H p P Q) (hR : R G W env p σ H) {v : V} (h : P W H v) : Q v H := k W H v Tr.refl hR h
theorem PostV.newT (k : PostV G W env σ H p (NewP G H r) Q) (hR : R G W env p σ H) {q : Addr} (hn : H q = none) {xs : List V} {ds : List D} (hr : r = .tup ds) (h : Reps G W H xs ds) : Q (.ref q) (upd H q (.tup xs)) := by
  subst hr
  exact k W _ _ (Tr.new hn) (hR.new hn) ⟨.tup upd_same (h.te (Tr.new hn) hR.ok), fun z => by cases z⟩
theorem PostV.newL (k : PostV G W env σ H p (NewP G H r) Q) (hR : R G W env p σ H) {q : Addr} (hn : H q = none) {xs : List V} {ds : List D} (hr : r = .lst ds) (h : Reps G W H xs ds) : Q (.ref q) (upd H q (.lst xs)) := by
  subst hr
  refine k W _ _ (Tr.new hn) (hR.new hn) ⟨⟨q, xs, rfl, upd_same, h.te (Tr.new hn) hR.ok⟩, fun _ => ⟨q, rfl, hn, fun z => hR.ok.trk q z hn, hR.ok.pen_ne hn⟩⟩
theorem PostV.newD (k : PostV G W env σ H p (NewP G H r) Q) (hR : R G W env p σ H) {q : Addr} (hn : H q = none) (hr : r = .dct []) : Q (.ref q) (upd H q (.dK [])) := by
  subst hr
  refine k W _ _ (Tr.new hn) (hR.new hn) ⟨⟨q, [], rfl, upd_same, rfl, .nil⟩, fun _ => ⟨q, rfl, hn, fun z => hR.ok.trk q z hn, hR.ok.pen_ne hn⟩⟩
theorem newP_of (h : toX r = .sh r) {W' : Wd} {H' : Hp} {v : V} (q : Rep G W' H' v r) : NewP G H r W' H' v := by
  unfold NewP
  rw [h]
  exact ⟨q, fun z => by cases z⟩
theorem Is2N.is2 {rr : R2} {g : D → D → Option D} (h : Is2N G rr g) : Is2 G rr g := fun W env p σ H x y d e r Q hR hx hy hg k => h W env p σ H x y d e r Q hR hx hy hg (postFz hR k)
theorem Is1N.is1 {rr : V → Hp → VK → Prop} {g : D → Option D} (h : Is1N G rr g) : Is1 G rr g := fun W env p σ H x d r Q hR hx hg k => h W env p σ H x d r Q hR hx hg (postFz hR k)

/-! ### tests -/
def tT (G : Gm) (f : FV Bool) : TT := fun σ H Q => ∃ W env p r p', R G W env p σ H ∧ f env p = some (r, p') ∧ ∀ W' H', Tr (penA G W) W H W' H' → R G W' env p' σ H' → Q r H'
def fBl (f : FV D) : FV Bool := fun env p => match f env p with
  | some (.bl b, p) => some (b, p)
  | _ => none
theorem fBl_some {p' : PenSt} {b : Bool} (h : fBl f env p = some (b, p')) : f env p = some (.bl b, p') := by
  unfold fBl at h
  split at h
  · rename_i b1 p1 q
    cases h
    exact q
  · cases h
theorem bl_to {σ : St} {H : Hp} {Q : Bool → Hp → Prop} (h : tT G (fBl f) σ H Q) : tE G f σ H fun x H' => ∃ k, x = .bl k ∧ Q k H' := by
  obtain ⟨W, env, p, r, p', hR, hf, k⟩ := h
  exact ⟨W, env, p, .bl r, p', hR, fBl_some hf, fun W' H' v t R' q => by cases q; exact ⟨r, rfl, k W' H' t R'⟩⟩
theorem t_cmp {op : CmpOp} {rr : R2} {g : D → D → Option D} (ho : OpR X (compareOp op) rr) (hg : Is2 G rr g) (hm : behindInMarks op b = false) (ha : PE X a (tB G fa)) (hb : PE X b (tB G fb)) : PT X (.Compare a [op] [b] pos) (tT G (fBl (f2 g fa fb))) :=
  ptI (pt_cmpR ho ha hb hm) fun _ _ _ h => two hg (bl_to h)
def truD : D → Option Bool
  | .non => some false
  | .bl b => some b
  | .int i => some (i != 0)
  | .str y => if y.length ≤ 16777216 then some ((y.length : Int) != 0) else none
  | .tup xs => some (!xs.isEmpty)
  | .lst xs => some (!xs.isEmpty)
  | .dct xs => some (!xs.isEmpty)
  | _ => none
def fTru (f : FV D) : FV Bool := fun env p => do
  let (x, p) ← f env p
  let b ← truD x
  pure (b, p)
theorem isEmpty_len {α β : Type} {l : List α} {m : List β} (h : l.length = m.length) : l.isEmpty = m.isEmpty := by
  cases l <;> cases m <;> first | rfl | cases h
theorem truV_of {K : PySem.W.Frag} {v : V} {d : D} {k : Bool} (h : RepB G W env σ H v d) (e : truD d = some k) : TruV K v H k := by
  cases d with
  | non => rw [h.non]; cases e; exact rfl
  | bl b => rw [h.bl]; cases e; exact rfl
  | int b => rw [h.int]; cases e; exact rfl
  | str y =>
    rw [h.str]
    have e : (if y.length ≤ 16777216 then some ((y.length : Int) != 0) else none) = some k := e
    split at e
    · rename_i hz
      cases e
      exact ⟨by rw [sizeLine_eq]; exact hz, rfl⟩
    · cases e
  | tup xs =>
    cases e
    obtain ⟨a, ys, rfl, ea, q, _⟩ := h.tup
    exact .inr (.inl ⟨ys, SqT.of ea, by rw [isEmpty_len q.len]⟩)
  | lst xs =>
    cases e
    obtain ⟨a, ys, rfl, ea, q⟩ := h.lst
    exact .inl ⟨ys, SqL.of ea, by rw [isEmpty_len q.len]⟩
  | dct xs =>
    cases e
    obtain ⟨a, ys, rfl, ea, n, q⟩ := h.dct
    exact .inr (.inr ⟨ys, ea, by rw [isEmpty_len (l := ys) (m := xs) (by simpa using congrArg List.length n)]⟩)
  | pen => cases e
  | row _ => cases e
  | obj c fs => cases e
theorem t_tru (ha : PE X a (tB G fa)) (he : ∀ whole, isTrue a X.env whole = (do let v ← whole; standAt a.pos; holding [v] (truthy v)) := by intro _; rfl) : PT X a (tT G (fTru fa)) :=
  ptI (pt_truth ha he) fun σ H Q ⟨W, env, p, r, p', hR, hf, k⟩ => by
    unfold fTru at hf
    cases q : fa env p with
    | none => rw [q] at hf; cases hf
    | some z =>
      obtain ⟨d, p1⟩ := z
      rw [q] at hf
      simp only [Option.bind_eq_bind, Option.bind_some] at hf
      cases q2 : truD d with
      | none => rw [q2] at hf; cases hf
      | some b =>
        rw [q2] at hf
        cases hf
        exact ⟨W, env, p, d, _, hR, q, fun W' H' v t R' qq => ⟨_, truV_of qq q2, k W' H' t R'⟩⟩
variable {ta tb tc : FV Bool} {rest : List Expr}
def tfNot (f : FV Bool) : FV Bool := fun env p => (f env p).map fun z => (!z.1, z.2)
def tfAnd (f g : FV Bool) : FV Bool := fun env p => match f env p with
  | some (true, p) => g env p
  | some (false, p) => some (false, p)
  | none => none
def tfOr (f g : FV Bool) : FV Bool := fun env p => match f env p with
  | some (true, p) => some (true, p)
  | some (false, p) => g env p
  | none => none
theorem t_not (ha : PT X a (tT G ta)) : PT X (.UnaryOp .Not a pos) (tT G (tfNot ta)) := ptI (pt_not ha) fun σ H Q ⟨W, env, p, r, p', hR, hf, k⟩ => by
  unfold tfNot at hf
  cases q : ta env p with
  | none => rw [q] at hf; cases hf
  | some z =>
    obtain ⟨d, p1⟩ := z
    rw [q] at hf
    cases hf
    exact ⟨W, env, p, d, p1, hR, q, k⟩
theorem w_and1 (ha : PT X a (tT G ta)) : PW X (.BoolOp .And [a] pos) (tT G ta) := pw_and1 ha
theorem w_or1 (ha : PT X a (tT G ta)) : PW X (.BoolOp .Or [a] pos) (tT G ta) := pw_or1 ha
theorem w_and (ha : PT X a (tT G ta)) (hb : PW X (.BoolOp .And (b :: rest) pos) (tT G tb)) : PW X (.BoolOp .And (a :: b :: rest) pos) (tT G (tfAnd ta tb)) := pwI (pw_and ha hb) fun σ H Q ⟨W, env, p, r, p', hR, hf, k⟩ => by
  unfold tfAnd at hf
  split at hf
  · rename_i p1 q
    refine ⟨W, env, p, true, p1, hR, q, fun W1 H1 t1 R1 => ?_⟩
    refine iteT ?_
    exact ⟨W1, env, p1, r, p', R1, hf, fun W2 H2 t2 R2 => k W2 H2 (t1.then t2) R2⟩
  · rename_i p1 q
    cases hf
    refine ⟨W, env, p, false, _, hR, q, fun W1 H1 t1 R1 => ?_⟩
    refine iteF ?_
    exact k W1 H1 t1 R1
  · cases hf
theorem w_or (ha : PT X a (tT G ta)) (hb : PW X (.BoolOp .Or (b :: rest) pos) (tT G tb)) : PW X (.BoolOp .Or (a :: b :: rest) pos) (tT G (tfOr ta tb)) := pwI (pw_or ha hb) fun σ H Q ⟨W, env, p, r, p', hR, hf, k⟩ => by
  unfold tfOr at hf
  split at hf
  · rename_i p1 q
    cases hf
    refine ⟨W, env, p, true, _, hR, q, fun W1 H1 t1 R1 => ?_⟩
    refine iteT ?_
    exact k W1 H1 t1 R1
  · rename_i p1 q
    refine ⟨W, env, p, false, p1, hR, q, fun W1 H1 t1 R1 => ?_⟩
    refine iteF ?_
    exact ⟨W1, env, p1, r, p', R1, hf, fun W2 H2 t2 R2 => k W2 H2 (t1.then t2) R2⟩
  · cases hf

/-! ### and, or, not, if as values -/
def fAnd (f g : FV D) : FV D := fun env p => match f env p with
  | some (.bl true, p) => g env p
  | some (.bl false, p) => some (.bl false, p)
  | _ => none
def fOr (f g : FV D) : FV D := fun env p => match f env p with
  | some (.bl true, p) => some (.bl true, p)
  | some (.bl false, p) => g env p
  | _ => none
def gNot : D → Option D
  | .bl b => some (.bl (!b))
  | _ => none
def fNot (f : FV D) : FV D := f1 gNot f
def fIf (t : FV Bool) (f g : FV D) : FV D := fun env p => match t env p with
  | some (true, p) => f env p
  | some (false, p) => g env p
  | none => none
theorem e_one {op} (h : PE X a (tE G fa)) : PE X (.BoolOp op [a] pos) (tE G fa) := pe_one h
theorem e_and (ha : PE X a (tE G fa)) (hb : PE X (.BoolOp .And (b :: rest) pos) (tE G fb)) : PE X (.BoolOp .And (a :: b :: rest) pos) (tE G (fAnd fa fb)) := peI (pe_and ha hb) fun σ H Q ⟨W, env, p, r, p', hR, hf, k⟩ => by
  unfold fAnd at hf
  split at hf
  · rename_i p1 q
    refine ⟨W, env, p, _, p1, hR, q, fun W1 H1 v t1 R1 q1 => ?_⟩
    cases q1
    refine ⟨true, rfl, ?_⟩
    refine iteT ?_
    exact ⟨W1, env, p1, r, p', R1, hf, fun W2 H2 v t2 R2 => k W2 H2 v (t1.then t2) R2⟩
  · rename_i p1 q
    cases hf
    refine ⟨W, env, p, _, _, hR, q, fun W1 H1 v t1 R1 q1 => ?_⟩
    cases q1
    refine ⟨false, rfl, ?_⟩
    refine iteF ?_
    exact k W1 H1 _ t1 R1 (.bl false)
  · cases hf
theorem e_or (ha : PE X a (tE G fa)) (hb : PE X (.BoolOp .Or (b :: rest) pos) (tE G fb)) : PE X (.BoolOp .Or (a :: b :: rest) pos) (tE G (fOr fa fb)) := peI (pe_or ha hb) fun σ H Q ⟨W, env, p, r, p', hR, hf, k⟩ => by
  unfold fOr at hf
  split at hf
  · rename_i p1 q
    cases hf
    refine ⟨W, env, p, _, _, hR, q, fun W1 H1 v t1 R1 q1 => ?_⟩
    cases q1
    refine ⟨true, rfl, ?_⟩
    refine iteT ?_
    exact k W1 H1 _ t1 R1 (.bl true)
  · rename_i p1 q
    refine ⟨W, env, p, _, p1, hR, q, fun W1 H1 v t1 R1 q1 => ?_⟩
    cases q1
    refine ⟨false, rfl, ?_⟩
    refine iteF ?_
    exact ⟨W1, env, p1, r, p', R1, hf, fun W2 H2 v t2 R2 => k W2 H2 v (t1.then t2) R2⟩
  · cases hf
theorem e_not (ha : PE X a (tE G fa)) : PE X (.UnaryOp .Not a pos) (tE G (fNot fa)) := peI (pe_not ha) fun σ H Q ⟨W, env, p, r, p', hR, hf, k⟩ => by
  obtain ⟨x, h1, h2⟩ := f1_some hf
  refine ⟨W, env, p, x, p', hR, h1, fun W1 H1 v t1 R1 q1 => ?_⟩
  cases x with
  | bl b =>
    cases q1
    cases h2
    exact ⟨b, rfl, k W1 H1 _ t1 R1 (.bl _)⟩
  | _ => cases h2
theorem e_if (ht : PT X c (tT G tc)) (ha : PE X a (tE G fa)) (hb : PE X b (tE G fb)) : PE X (.IfExp c a b pos) (tE G (fIf tc fa fb)) := peI (pe_ifExp ht ha hb) fun σ H Q ⟨W, env, p, r, p', hR, hf, k⟩ => by
  unfold fIf at hf
  split at hf
  · rename_i p1 q
    refine ⟨W, env, p, true, p1, hR, q, fun W1 H1 t1 R1 => ?_⟩
    refine iteT ?_
    exact ⟨W1, env, p1, r, p', R1, hf, fun W2 H2 v t2 R2 => k W2 H2 v (t1.then t2) R2⟩
  · rename_i p1 q
    refine ⟨W, env, p, false, p1, hR, q, fun W1 H1 t1 R1 => ?_⟩
    refine iteF ?_
    exact ⟨W1, env, p1, r, p', R1, hf, fun W2 H2 v t2 R2 => k W2 H2 v (t1.then t2) R2⟩
  · cases hf
/-- a op b op' c -/
def fChain (g g' : D → D → Option D) (fa fb fc : FV D) : FV D := fun env p => do
  let (x, p) ← fa env p
  let (y, p) ← fb env p
  match ← g x y with
  | .bl true =>
    let (z, p) ← fc env p
    let r ← g' y z
    pure (r, p)
  | .bl false => pure (.bl false, p)
  | _ => none
theorem chain {rr rr' : R2} {g g' : D → D → Option D} (hg : Is2 G rr g) (hg' : Is2 G rr' g') {σ : St} {H : Hp} {Q : VK} (h : tE G (fChain g g' fa fb fc) σ H Q) : tChain rr rr' (tB G fa) (tB G fb) (tB G fc) σ H Q := by
  obtain ⟨W, env, p, r, p', hR, hf, k⟩ := h
  unfold fChain at hf
  cases h1 : fa env p with
  | none => rw [h1] at hf; cases hf
  | some z =>
    obtain ⟨x, p1⟩ := z
    rw [h1] at hf
    simp only [Option.bind_eq_bind, Option.bind_some] at hf
    cases h2 : fb env p1 with
    | none => rw [h2] at hf; cases hf
    | some z =>
      obtain ⟨y, p2⟩ := z
      rw [h2] at hf
      simp only [Option.bind_some] at hf
      refine ⟨W, env, p, x, p1, hR, h1, fun W1 H1 v t1 R1 q1 => ⟨W1, env, p1, y, p2, R1, h2, fun W2 H2 u t2 R2 q2 => ?_⟩⟩
      cases h3 : g x y with
      | none => rw [h3] at hf; cases hf
      | some d =>
        rw [h3] at hf
        simp only [Option.bind_some] at hf
        split at hf
        · cases h4 : fc env p2 with
          | none => rw [h4] at hf; cases hf
          | some z =>
            obtain ⟨z, p3⟩ := z
            rw [h4] at hf
            simp only [Option.bind_some] at hf
            cases h5 : g' y z with
            | none => rw [h5] at hf; cases hf
            | some d' =>
              rw [h5] at hf
              cases hf
              refine hg W2 env p2 σ H2 v u x y _ _ R2 (q1.te t2 R1) q2 h3 fun W3 H3 w t3 R3 q3 => ?_
              cases q3
              refine ⟨true, rfl, ?_⟩
              refine iteT ?_
              refine ⟨W3, env, p2, z, _, R3, h4, fun W4 H4 w' t4 R4 q4 => ?_⟩
              exact hg' W4 env _ σ H4 u w' y z _ Q R4 ((q2.te t3 R2).te t4 R3) q4 h5 fun W5 H5 w5 t5 R5 q5 => k W5 H5 w5 ((((t1.then t2).then t3).then t4).then t5) R5 q5
        · cases hf
          refine hg W2 env _ σ H2 v u x y _ _ R2 (q1.te t2 R1) q2 h3 fun W3 H3 w t3 R3 q3 => ?_
          cases q3
          refine ⟨false, rfl, ?_⟩
          refine iteF ?_
          exact k W3 H3 _ ((t1.then t2).then t3) R3 (.bl false)
        · cases hf
theorem e_chain {op op' : CmpOp} {rr rr' : R2} {g g' : D → D → Option D} (ho : OpR X (compareOp op) rr) (hg : Is2 G rr g) (ho' : OpR X (compareOp op') rr') (hg' : Is2 G rr' g') (ha : PE X a (tB G fa)) (hb : PE X b (tB G fb)) (hc : PE X c (tB G fc))
    (hm : lastMarks [op, op'] [b, c] = false := by with_unfolding_all rfl) : PE X (.Compare a [op, op'] [b, c] pos) (tE G (fChain g g' fa fb fc)) :=
  peI (pe_chain ho ho' ha hb hc hm) fun _ _ _ h => chain hg hg' h
theorem t_chain {op op' : CmpOp} {rr rr' : R2} {g g' : D → D → Option D} (ho : OpR X (compareOp op) rr) (hg : Is2 G rr g) (ho' : OpR X (compareOp op') rr') (hg' : Is2 G rr' g') (ha : PE X a (tB G fa)) (hb : PE X b (tB G fb)) (hc : PE X c (tB G fc))
    (hm : lastMarks [op, op'] [b, c] = false := by with_unfolding_all rfl) : PT X (.Compare a [op, op'] [b, c] pos) (tT G (fBl (fChain g g' fa fb fc))) :=
  ptI (pt_chain ho ho' ha hb hc hm) fun _ _ _ h => chain hg hg' (bl_to h)
end
end Cr
namespace Cr
open PySem L2

section
variable {X : Cx} {G : Gm} {W : Wd} {H : Hp} {env : Env} {σ : St} {p : PenSt} {r : D} {Q : VK} {e a b c : Expr} {f fa fb fc : FV D} {pos : Pos}
theorem Is2.scal {rr : R2} {g : D → D → Option D} (h : ∀ (W : Wd) (env : Env) (p : PenSt) (σ : St) (H : Hp) (x y : V) (d e r : D) (Q : VK), R G W env p σ H → RepB G W env σ H x d → RepB G W env σ H y e → g d e = some r → (∀ v, Rep G W H v r → Q v H) → rr x y H Q) : Is2 G rr g :=
  fun W env p σ H x y d e r Q hR hx hy hg k => h W env p σ H x y d e r Q hR hx hy hg fun v q => k W H v Tr.refl hR q
theorem Is1.scal {rr : V → Hp → VK → Prop} {g : D → Option D} (h : ∀ (W : Wd) (env : Env) (p : PenSt) (σ : St) (H : Hp) (x : V) (d r : D) (Q : VK), R G W env p σ H → RepB G W env σ H x d → g d = some r → (∀ v, Rep G W H v r → Q v H) → rr x H Q) : Is1 G rr g :=
  fun W env p σ H x d r Q hR hx hg k => h W env p σ H x d r Q hR hx hg fun v q => k W H v Tr.refl hR q

/-! ### numbers -/
def gI (C : Int → Int → Bool) (k : Int → Int → Int) : D → D → Option D
  | .int i, .int j => if C i j = true then some (.int (k i j)) else none
  | _, _ => none
def gB (k : Int → Int → Bool) : D → D → Option D
  | .int i, .int j => some (.bl (k i j))
  | _, _ => none
theorem gI_some {C : Int → Int → Bool} {k : Int → Int → Int} {x y r : D} (h : gI C k x y = some r) : ∃ i j, x = .int i ∧ y = .int j ∧ C i j = true ∧ r = .int (k i j) := by
  cases x <;> first | (cases h; done) | skip
  cases y <;> first | (cases h; done) | skip
  rename_i i j
  have h : (if C i j = true then some (D.int (k i j)) else none) = some r := h
  split at h
  · rename_i hc
    cases h
    exact ⟨i, j, rfl, rfl, hc, rfl⟩
  · cases h
theorem gB_some {k : Int → Int → Bool} {x y r : D} (h : gB k x y = some r) : ∃ i j, x = .int i ∧ y = .int j ∧ r = .bl (k i j) := by
  cases x <;> first | (cases h; done) | skip
  cases y <;> first | (cases h; done) | skip
  rename_i i j
  cases h
  exact ⟨i, j, rfl, rfl, rfl⟩
theorem is_I {Cp : Int → Int → Prop} {C : Int → Int → Bool} {k : Int → Int → Int} (hC : ∀ i j, C i j = true → Cp i j) : Is2 G (rI Cp fun i j => .int (k i j)) (gI C k) :=
  .scal fun W env p σ H x y d e r Q hR hx hy hg q => by
    obtain ⟨i, j, rfl, rfl, hc, rfl⟩ := gI_some hg
    exact ⟨i, j, hx.int, hy.int, hC i j hc, q _ (.int _)⟩
theorem is_I0 {k : Int → Int → Int} : Is2 G (rI0 fun i j => .int (k i j)) (gI (fun _ _ => true) k) :=
  .scal fun W env p σ H x y d e r Q hR hx hy hg q => by
    obtain ⟨i, j, rfl, rfl, hc, rfl⟩ := gI_some hg
    exact ⟨i, j, hx.int, hy.int, q _ (.int _)⟩
theorem is_B {k : Int → Int → Bool} : Is2 G (rI0 fun i j => .bl (k i j)) (gB k) :=
  .scal fun W env p σ H x y d e r Q hR hx hy hg q => by
    obtain ⟨i, j, rfl, rfl, rfl⟩ := gB_some hg
    exact ⟨i, j, hx.int, hy.int, q _ (.bl _)⟩
def gSub : D → D → Option D := gI (fun _ _ => true) fun i j => i - j
def in64 (i : Int) : Bool := decide (-(2 ^ 64) < i) && decide (i < 2 ^ 64)
def gMod : D → D → Option D := gI (fun _ j => decide (0 < j)) fun i j => i % j
def gDiv : D → D → Option D := gI (fun _ j => decide (0 < j) && decide (j < 2 ^ 62)) fun i j => i / j
def gPow : D → D → Option D := gI (fun i j => decide (0 ≤ j) && decide (j ≤ 1000000) && decide (i.natAbs < 2 ^ 64)) fun i j => i ^ j.toNat
theorem is_sub : Is2 G (rI0 fun i j => .int (i - j)) gSub := is_I0
theorem is_mod : Is2 G (rI (fun _ j => 0 < j) fun i j => .int (i % j)) gMod := is_I fun i j h => of_decide_eq_true h
theorem is_div : Is2 G (rI CDivW fun i j => .int (i / j)) gDiv := is_I fun i j h => by
  rw [Bool.and_eq_true] at h
  have h1 : 0 < j := of_decide_eq_true h.1
  have h2 : j < 2 ^ 62 := of_decide_eq_true h.2
  exact wide_div (b := 62) h1 (by omega) (by decide) (by decide)
theorem is_pow : Is2 G (rI CPow fun i j => .int (i ^ j.toNat)) gPow := is_I fun i j h => by
  rw [Bool.and_eq_true, Bool.and_eq_true] at h
  exact ⟨of_decide_eq_true h.1.1, of_decide_eq_true h.1.2, of_decide_eq_true h.2⟩
def gGe : D → D → Option D := gB fun i j => decide (j ≤ i)
def gGt : D → D → Option D := gB fun i j => decide (j < i)
def gLe : D → D → Option D := gB fun i j => decide (i ≤ j)
theorem is_ge : Is2 G (rI0 fun i j => .bl (decide (j ≤ i))) gGe := is_B
theorem is_gt : Is2 G (rI0 fun i j => .bl (decide (j < i))) gGt := is_B
theorem is_le : Is2 G (rI0 fun i j => .bl (decide (i ≤ j))) gLe := is_B
def gNeg : D → Option D
  | .int i => some (.int (-i))
  | _ => none
theorem is_neg : Is1 G (rU fun i => .int (-i)) gNeg := .scal fun W env p σ H x d r Q hR hx hg q => by
  cases d <;> first | (cases hg; done) | skip
  cases hg
  exact ⟨_, hx.int, q _ (.int _)⟩

/-! ### + and * -/
def intsD : List D → Option (List Int)
  | [] => some []
  | .int i :: r => (intsD r).map (i :: ·)
  | _ :: _ => none
theorem intsD_some : ∀ {ds : List D} {ns : List Int}, intsD ds = some ns → ds = ns.map D.int
  | [], ns, h => by cases h; rfl
  | d :: ds, ns, h => by
    cases d <;> first | (cases h; done) | skip
    rename_i i
    have h : (intsD ds).map (i :: ·) = some ns := h
    cases q : intsD ds with
    | none => rw [q] at h; cases h
    | some ms =>
      rw [q] at h
      cases h
      rw [intsD_some q]
      rfl
theorem intsD_map (ns : List Int) : intsD (ns.map D.int) = some ns := by
  induction ns with
  | nil => rfl
  | cons n ns ih =>
    show (intsD (ns.map D.int)).map (n :: ·) = _
    rw [ih]
    rfl
def blsD : List D → Option (List Bool)
  | [] => some []
  | .bl i :: r => (blsD r).map (i :: ·)
  | _ :: _ => none
theorem blsD_some : ∀ {ds : List D} {ns : List Bool}, blsD ds = some ns → ds = ns.map D.bl
  | [], ns, h => by cases h; rfl
  | d :: ds, ns, h => by
    cases d <;> first | (cases h; done) | skip
    rename_i i
    have h : (blsD ds).map (i :: ·) = some ns := h
    cases q : blsD ds with
    | none => rw [q] at h; cases h
    | some ms =>
      rw [q] at h
      cases h
      rw [blsD_some q]
      rfl
theorem blsD_map (ns : List Bool) : blsD (ns.map D.bl) = some ns := by
  induction ns with
  | nil => rfl
  | cons n ns ih =>
    show (blsD (ns.map D.bl)).map (n :: ·) = _
    rw [ih]
    rfl
def gAdd : D → D → Option D
  | .int i, .int j => some (.int (i + j))
  | .tup a, .tup b => if a.length + b.length ≤ 16777216 then some (.tup (a ++ b)) else none
  | .lst a, .lst b => if a.length + b.length ≤ 16777216 then some (.lst (a ++ b)) else none
  | _, _ => none
def rAddA (K : PySem.W.Frag) : R2 := fun x y H Q => rI0 (fun i j => .int (i + j)) x y H Q ∨ (rCatA K x y H Q ∨ rCat x y H Q)
theorem op_addA : OpR X (binaryOp .Add) (rAddA X.K) := op_add.or (op_catA.or op_cat)
theorem is_add {K : PySem.W.Frag} : Is2N G (rAddA K) gAdd := fun W env p σ H x y d e r Q hR hx hy hg k => by
  cases d <;> first | (cases hg; done) | skip
  · cases e <;> first | (cases hg; done) | skip
    cases hg
    exact .inl ⟨_, _, hx.int, hy.int, k.same hR (newP_of rfl (.int _))⟩
  · rename_i ds
    cases e <;> first | (cases hg; done) | skip
    rename_i es
    have hg : (if ds.length + es.length ≤ 16777216 then some (D.tup (ds ++ es)) else none) = some r := hg
    split at hg
    · rename_i hz
      cases hg
      obtain ⟨a, xs, rfl, ha, ra, rea⟩ := hx.tup
      obtain ⟨b, ys, rfl, hb, rb, reb⟩ := hy.tup
      refine .inr (.inl ⟨a, b, xs, ys, rfl, rfl, SqT.of ha, SqT.of hb, by rw [sizeLine_eq, ra.len, rb.len]; exact hz, fun z => ?_, fun _ z => ?_, fun _ _ q hq => k.newT hR hq rfl (ra.app rb)⟩)
      · subst z
        cases ra
        exact k.same hR (newP_of rfl reb)
      · subst z
        cases rb
        exact k.same hR (newP_of rfl (by rw [List.append_nil]; exact rea))
    · cases hg
  · rename_i ds
    cases e <;> first | (cases hg; done) | skip
    rename_i es
    have hg : (if ds.length + es.length ≤ 16777216 then some (D.lst (ds ++ es)) else none) = some r := hg
    split at hg
    · rename_i hz
      cases hg
      obtain ⟨a, xs, rfl, ha, ra⟩ := hx.lst
      obtain ⟨b, ys, rfl, hb, rb⟩ := hy.lst
      exact .inr (.inr ⟨a, b, xs, ys, rfl, rfl, ha, hb, by rw [sizeLine_eq, ra.len, rb.len]; exact hz, fun q hq => k.newL hR hq rfl (ra.app rb)⟩)
    · cases hg
def gMul : D → D → Option D
  | .int i, .int j => if (in64 i || in64 j) = true then some (.int (i * j)) else none
  | .lst a, .int k => if -(2 ^ 63) ≤ k ∧ k < 2 ^ 63 ∧ a.length * k.toNat ≤ 16777216 then some (.lst (List.replicate k.toNat a).flatten) else none
  | .tup a, .int k => if a ≠ [] ∧ 2 ≤ k ∧ k ≤ 1000 ∧ a.length ≤ 1000 then some (.tup (List.replicate k.toNat a).flatten) else none
  | _, _ => none
def rMulA (K : PySem.W.Frag) : R2 := fun x y H Q => rI CMul (fun i j => .int (i * j)) x y H Q ∨ (rRep x y H Q ∨ rRepT K x y H Q)
theorem op_mulA : OpR X (binaryOp .Mult) (rMulA X.K) := op_mul.or (op_rep.or op_repT)
instance : DecidableEq Str := inferInstance
theorem in64_of {i : Int} (h : in64 i = true) : -(2 ^ 64) < i ∧ i < 2 ^ 64 := by
  unfold in64 at h
  rw [Bool.and_eq_true] at h
  exact ⟨of_decide_eq_true h.1, of_decide_eq_true h.2⟩
end
end Cr
namespace Cr
open PySem L2
section
variable {X : Cx} {G : Gm} {W : Wd} {H : Hp} {env : Env} {σ : St} {p : PenSt} {r : D} {Q : VK} {e a b c : Expr} {f fa fb fc : FV D} {pos : Pos}
theorem is_mul {K : PySem.W.Frag} : Is2N G (rMulA K) gMul := fun W env p σ H x y d e r Q hR hx hy hg k => by
  cases d <;> first | (cases hg; done) | skip
  · rename_i i
    cases e <;> first | (cases hg; done) | skip
    rename_i j
    have hg : (if (in64 i || in64 j) = true then some (D.int (i * j)) else none) = some r := hg
    split at hg
    · rename_i hz
      cases hg
      rw [Bool.or_eq_true] at hz
      exact .inl ⟨_, _, hx.int, hy.int, hz.imp in64_of in64_of, k.same hR (newP_of rfl (.int _))⟩
    · cases hg
  · rename_i ds
    cases e <;> first | (cases hg; done) | skip
    rename_i m
    have hg : (if ds ≠ [] ∧ 2 ≤ m ∧ m ≤ 1000 ∧ ds.length ≤ 1000 then some (D.tup (List.replicate m.toNat ds).flatten) else none) = some r := hg
    split at hg
    · rename_i hz
      cases hg
      obtain ⟨a, xs, rfl, ha, ra, rea⟩ := hx.tup
      refine .inr (.inr ⟨a, m, xs, rfl, hy.int, SqT.of ha, fun z => hz.1 ?_, hz.2.1, hz.2.2.1, by rw [ra.len]; exact hz.2.2.2, fun q hq => k.newT hR hq rfl (ra.rep _)⟩)
      subst z
      cases ra
      rfl
    · cases hg
  · rename_i ds
    cases e <;> first | (cases hg; done) | skip
    rename_i m
    have hg : (if -(2 ^ 63) ≤ m ∧ m < 2 ^ 63 ∧ ds.length * m.toNat ≤ 16777216 then some (D.lst (List.replicate m.toNat ds).flatten) else none) = some r := hg
    split at hg
    · rename_i hz
      cases hg
      obtain ⟨a, xs, rfl, ha, ra⟩ := hx.lst
      exact .inr (.inl ⟨a, m, xs, rfl, hy.int, ha, hz.1, hz.2.1, by rw [sizeLine_eq, ra.len]; exact hz.2.2, fun q hq => k.newL hR hq rfl (ra.rep _)⟩)
    · cases hg

/-! ### == of data -/
mutual
def eqD : D → D → Bool
  | .non, .non => true
  | .bl a, .bl b => a == b
  | .bl a, .int j => (if a then 1 else 0) == j
  | .int i, .bl b => i == (if b then 1 else 0)
  | .int i, .int j => i == j
  | .str x, .str y => x == y
  | .lst xs, .lst ys => eqDs xs ys
  | .tup xs, .tup ys => eqDs xs ys
  | _, _ => false
def eqDs : List D → List D → Bool
  | [], [] => true
  | x :: xs, y :: ys => eqD x y && eqDs xs ys
  | _, _ => false
end
mutual
/-- data of at most n levels: no objects, no dicts -/
def dat : D → Nat → Bool
  | .non, _ => true
  | .bl _, _ => true
  | .int _, _ => true
  | .str x, _ => PyData.strOk x
  | .lst xs, n + 1 => dats xs n
  | .tup xs, n + 1 => dats xs n
  | _, _ => false
def dats : List D → Nat → Bool
  | [], _ => true
  | x :: xs, n => dat x n && dats xs n
end
mutual
def toPy : D → PyData
  | .bl b => .bool b
  | .int i => .int i
  | .str x => .str x
  | .lst xs => .list (toPys xs)
  | .tup xs => .tuple (toPys xs)
  | _ => .none
def toPys : List D → List PyData
  | [] => []
  | x :: xs => toPy x :: toPys xs
end
mutual
theorem dat_shape : ∀ (d : D) (n : Nat), dat d n = true → (toPy d).canLay0 = true ∧ (toPy d).depth ≤ n
  | .non, n, h => ⟨rfl, Nat.zero_le _⟩
  | .bl _, n, h => ⟨rfl, Nat.zero_le _⟩
  | .int _, n, h => ⟨rfl, Nat.zero_le _⟩
  | .str x, n, h => ⟨h, Nat.zero_le _⟩
  | .lst xs, n + 1, h => by
    obtain ⟨h1, h2⟩ := dats_shape xs n h
    exact ⟨h1, Nat.succ_le_succ h2⟩
  | .tup xs, n + 1, h => by
    obtain ⟨h1, h2⟩ := dats_shape xs n h
    exact ⟨h1, Nat.succ_le_succ h2⟩
  | .lst xs, 0, h => by cases h
  | .tup xs, 0, h => by cases h
  | .pen, _, h => by cases h
  | .row _, _, h => by cases h
  | .dct _, _, h => by cases h
  | .obj _ _, _, h => by cases h
theorem dats_shape : ∀ (ds : List D) (n : Nat), dats ds n = true → PyData.canLayAll0 (toPys ds) = true ∧ PyData.depthAll (toPys ds) ≤ n
  | [], n, h => ⟨rfl, Nat.zero_le _⟩
  | x :: xs, n, h => by
    have h : (dat x n && dats xs n) = true := h
    rw [Bool.and_eq_true] at h
    obtain ⟨h1, h2⟩ := dat_shape x n h.1
    obtain ⟨h3, h4⟩ := dats_shape xs n h.2
    refine ⟨?_, Nat.max_le.mpr ⟨h2, h4⟩⟩
    show ((toPy x).canLay0 && PyData.canLayAll0 (toPys xs)) = true
    rw [h1, h3]
    rfl
end
mutual
theorem eqv_toPy : ∀ (x y : D) (n m : Nat), dat x n = true → dat y m = true → PyData.eqv (toPy x) (toPy y) = eqD x y
  | .lst xs, .lst ys, n + 1, m + 1, h, k => eqvs_toPy xs ys n m h k
  | .tup xs, .tup ys, n + 1, m + 1, h, k => eqvs_toPy xs ys n m h k
  | .lst _, _, 0, _, h, _ => by cases h
  | .tup _, _, 0, _, h, _ => by cases h
  | _, .lst _, _, 0, _, h => by cases h
  | _, .tup _, _, 0, _, h => by cases h
  | .pen, _, _, _, h, _ => by cases h
  | .row _, _, _, _, h, _ => by cases h
  | .dct _, _, _, _, h, _ => by cases h
  | .obj _ _, _, _, _, h, _ => by cases h
  | _, .pen, _, _, _, h => by cases h
  | _, .row _, _, _, _, h => by cases h
  | _, .dct _, _, _, _, h => by cases h
  | _, .obj _ _, _, _, _, h => by cases h
  | .non, .non, _, _, _, _ => rfl
  | .non, .bl _, _, _, _, _ => rfl
  | .non, .int _, _, _, _, _ => rfl
  | .non, .str _, _, _, _, _ => rfl
  | .non, .lst _, _, _ + 1, _, _ => rfl
  | .non, .tup _, _, _ + 1, _, _ => rfl
  | .bl _, .non, _, _, _, _ => rfl
  | .bl _, .bl _, _, _, _, _ => rfl
  | .bl _, .int _, _, _, _, _ => rfl
  | .bl _, .str _, _, _, _, _ => rfl
  | .bl _, .lst _, _, _ + 1, _, _ => rfl
  | .bl _, .tup _, _, _ + 1, _, _ => rfl
  | .int _, .non, _, _, _, _ => rfl
  | .int _, .bl _, _, _, _, _ => rfl
  | .int _, .int _, _, _, _, _ => rfl
  | .int _, .str _, _, _, _, _ => rfl
  | .int _, .lst _, _, _ + 1, _, _ => rfl
  | .int _, .tup _, _, _ + 1, _, _ => rfl
  | .str _, .non, _, _, _, _ => rfl
  | .str _, .bl _, _, _, _, _ => rfl
  | .str _, .int _, _, _, _, _ => rfl
  | .str _, .str _, _, _, _, _ => rfl
  | .str _, .lst _, _, _ + 1, _, _ => rfl
  | .str _, .tup _, _, _ + 1, _, _ => rfl
  | .lst _, .non, _ + 1, _, _, _ => rfl
  | .lst _, .bl _, _ + 1, _, _, _ => rfl
  | .lst _, .int _, _ + 1, _, _, _ => rfl
  | .lst _, .str _, _ + 1, _, _, _ => rfl
  | .lst _, .tup _, _ + 1, _ + 1, _, _ => rfl
  | .tup _, .non, _ + 1, _, _, _ => rfl
  | .tup _, .bl _, _ + 1, _, _, _ => rfl
  | .tup _, .int _, _ + 1, _, _, _ => rfl
  | .tup _, .str _, _ + 1, _, _, _ => rfl
  | .tup _, .lst _, _ + 1, _ + 1, _, _ => rfl
theorem eqvs_toPy : ∀ (xs ys : List D) (n m : Nat), dats xs n = true → dats ys m = true → PyData.eqvAll (toPys xs) (toPys ys) = eqDs xs ys
  | [], [], _, _, _, _ => rfl
  | [], _ :: _, _, _, _, _ => rfl
  | _ :: _, [], _, _, _, _ => rfl
  | x :: xs, y :: ys, n, m, h, k => by
    have h : (dat x n && dats xs n) = true := h
    have k : (dat y m && dats ys m) = true := k
    rw [Bool.and_eq_true] at h k
    show (PyData.eqv (toPy x) (toPy y) && PyData.eqvAll (toPys xs) (toPys ys)) = (eqD x y && eqDs xs ys)
    rw [eqv_toPy x y n m h.1 k.1, eqvs_toPy xs ys n m h.2 k.2]
end
mutual
theorem Rep.dp {K : PySem.W.Frag} : ∀ {d : D} {v : V} {n : Nat}, Rep G W H v d → dat d n = true → Dp K H v (toPy d)
  | _, _, _, .non, _ => .non
  | _, _, _, .bl b, _ => .bl b
  | _, _, _, .int b, _ => .int b
  | _, _, _, .str b, _ => .str b
  | _, _, n + 1, .tup e r, h => .tup (SqT.of e) (Reps.dp (n := n) r h)
  | _, _, n + 1, .lst s e r, h => .lst (SqL.of e) (Reps.dp (n := n) r h)
  | _, _, 0, .tup e r, h => by cases h
  | _, _, 0, .lst s e r, h => by cases h
  | _, _, _, .pen _, h => by cases h
  | _, _, _, .row _, h => by cases h
  | _, _, _, .dct _ _ _ _, h => by cases h
  | _, _, _, .obj _ _ _ _ _, h => by cases h
theorem Reps.dp {K : PySem.W.Frag} : ∀ {d : List D} {v : List V} {n : Nat}, Reps G W H v d → dats d n = true → DpAll K H v (toPys d)
  | _, _, _, .nil, _ => .nil
  | _, _, n, @Reps.cons _ _ _ _ _ d ds h t, k => by
    have k : (dat d n && dats ds n) = true := k
    rw [Bool.and_eq_true] at k
    exact .cons (Rep.dp h k.1) (Reps.dp t k.2)
end
theorem RepB.dp {K : PySem.W.Frag} {d : D} {v : V} {n : Nat} (h : RepB G W env σ H v d) (k : dat d n = true) : Dp K H v (toPy d) := by
  cases d with
  | lst ds =>
    obtain ⟨a, xs, rfl, ha, ra⟩ := h.lst
    cases n with
    | zero => cases k
    | succ n => exact .lst (SqL.of ha) (ra.dp (n := n) k)
  | dct ds => cases k
  | _ =>
    rcases h with h | ⟨_, _, _, _, z, _⟩ | ⟨_, _, _, _, z, _⟩
    · exact h.dp k
    · cases z
    · cases z
def gEq (x y : D) : Option D := if (dat x 64 && dat y 64) = true then some (.bl (eqD x y)) else none
def gNe (x y : D) : Option D := if (dat x 64 && dat y 64) = true then some (.bl (!eqD x y)) else none
theorem shaped_of {d : D} (h : dat d 64 = true) : SeqAt.shaped (toPy d) = true := by
  obtain ⟨h1, h2⟩ := dat_shape d 64 h
  show ((toPy d).canLay0 && decide ((toPy d).depth ≤ 64)) = true
  rw [h1, decide_eq_true h2]
  rfl
theorem is_eq {K : PySem.W.Frag} : Is2 G (rEqD K) gEq := .scal fun W env p σ H x y d e r Q hR hx hy hg q => by
  unfold gEq at hg
  split at hg
  · rename_i hz
    rw [Bool.and_eq_true] at hz
    cases hg
    exact ⟨_, _, hx.dp hz.1, hy.dp hz.2, shaped_of hz.1, shaped_of hz.2, by rw [eqv_toPy d e 64 64 hz.1 hz.2]; exact q _ (.bl _)⟩
  · cases hg
theorem is_ne {K : PySem.W.Frag} : Is2 G (rNeD K) gNe := .scal fun W env p σ H x y d e r Q hR hx hy hg q => by
  unfold gNe at hg
  split at hg
  · rename_i hz
    rw [Bool.and_eq_true] at hz
    cases hg
    exact ⟨_, _, hx.dp hz.1, hy.dp hz.2, shaped_of hz.1, shaped_of hz.2, by rw [eqv_toPy d e 64 64 hz.1 hz.2]; exact q _ (.bl _)⟩
  · cases hg

/-! ### is -/
theorem is_bool_gen {M : Model} {A : Around} {E : Value → Shared → Prop} {s : Shared} {k : Bool} {v : Value} {Q : Value → Shared → Prop} (hv : ∀ n, v ≠ .builtin n) (h : Q (.bool (v == .bool k)) s) : wpAny M A (compareOp .Is v (.bool k)) Q E s := by
  refine wpAny_is_plain ?_ h
  cases v <;> first | rfl | exact absurd rfl (hv _)
theorem isnot_bool_gen {M : Model} {A : Around} {E : Value → Shared → Prop} {s : Shared} {k : Bool} {v : Value} {Q : Value → Shared → Prop} (hv : ∀ n, v ≠ .builtin n) (h : Q (.bool (!(v == .bool k))) s) : wpAny M A (compareOp .IsNot v (.bool k)) Q E s := by
  refine wpAny_isNot_plain ?_ h
  cases v <;> first | rfl | exact absurd rfl (hv _)
theorem relV_nb {x : V} {v : Value} (r : RelV x v) : ∀ n, v ≠ .builtin n := by
  cases x with
  | non => cases r; exact fun _ z => by cases z
  | bl _ => cases r; exact fun _ z => by cases z
  | int _ => obtain ⟨t, rfl⟩ := r; exact fun _ z => by cases z
  | str _ => obtain ⟨t, rfl⟩ := r; exact fun _ z => by cases z
  | byt _ => obtain ⟨t, rfl⟩ := r; exact fun _ z => by cases z
  | flt _ => obtain ⟨t, rfl⟩ := r; exact fun _ z => by cases z
  | ref _ => cases r; exact fun _ z => by cases z
  | ty _ => cases r; exact fun _ z => by cases z
theorem relV_bool {x : V} {v : Value} {k : Bool} (r : RelV x v) : (v == .bool k) = decide (x = .bl k) := by
  cases x with
  | non => cases r; rfl
  | bl b => cases r; cases b <;> cases k <;> rfl
  | int _ => obtain ⟨t, rfl⟩ := r; rfl
  | str _ => obtain ⟨t, rfl⟩ := r; rfl
  | byt _ => obtain ⟨t, rfl⟩ := r; rfl
  | flt _ => obtain ⟨t, rfl⟩ := r; rfl
  | ref _ => cases r; rfl
  | ty _ => cases r; rfl
/-- x is None, True, False: the right side one of these -/
def rIs (neg : Bool) : R2 := fun x y H Q => (y = .non ∧ Q (.bl (neg ^^ decide (x = .non))) H) ∨ ∃ k, y = .bl k ∧ Q (.bl (neg ^^ decide (x = .bl k))) H
theorem op_is : OpR X (compareOp .Is) (rIs false) := by
  intro pins s σ H x y v u Q I rx ry h
  rcases h with ⟨rfl, q⟩ | ⟨k, rfl, q⟩
  · exact op_isN pins s σ H x _ v u Q I rx ry ⟨rfl, by simpa using q⟩
  · cases ry
    exact is_bool_gen (relV_nb rx) ⟨.bl _, H, I, rfl, by rw [relV_bool rx]; simpa using q⟩
theorem op_isNot : OpR X (compareOp .IsNot) (rIs true) := by
  intro pins s σ H x y v u Q I rx ry h
  rcases h with ⟨rfl, q⟩ | ⟨k, rfl, q⟩
  · exact op_notN pins s σ H x _ v u Q I rx ry ⟨rfl, by simpa using q⟩
  · cases ry
    exact isnot_bool_gen (relV_nb rx) ⟨.bl _, H, I, rfl, by rw [relV_bool rx]; simpa using q⟩
def isNonD : D → Bool
  | .non => true
  | _ => false
def isBlD (k : Bool) : D → Bool
  | .bl b => b == k
  | _ => false
theorem RepB.isNon {x : V} {d : D} (hx : RepB G W env σ H x d) : decide (x = .non) = isNonD d := by
  rcases hx with h | ⟨_, _, _, rfl, rfl, _⟩ | ⟨_, _, _, rfl, rfl, _⟩
  · cases h <;> rfl
  · rfl
  · rfl
theorem RepB.isBl {x : V} {d : D} (k : Bool) (hx : RepB G W env σ H x d) : decide (x = .bl k) = isBlD k d := by
  rcases hx with h | ⟨_, _, _, rfl, rfl, _⟩ | ⟨_, _, _, rfl, rfl, _⟩
  · cases h <;> first | rfl | (rename_i b; cases b <;> cases k <;> rfl)
  · rfl
  · rfl
def gIs (neg : Bool) (x : D) : D → Option D
  | .non => some (.bl (neg ^^ isNonD x))
  | .bl k => some (.bl (neg ^^ isBlD k x))
  | _ => none
theorem is_is {neg : Bool} : Is2 G (rIs neg) (gIs neg) := .scal fun W env p σ H x y d e r Q hR hx hy hg q => by
  cases e <;> first | (cases hg; done) | skip
  · cases hg
    exact .inl ⟨hy.non, by rw [hx.isNon]; exact q _ (.bl _)⟩
  · rename_i k
    cases hg
    exact .inr ⟨k, hy.bl, by rw [hx.isBl]; exact q _ (.bl _)⟩

/-! ### in -/
/-- in a list or tuple: of flat things, or (a list) of data -/
def flatD : D → Bool
  | .non => true
  | .bl _ => true
  | .int _ => true
  | .str _ => true
  | _ => false
end
end Cr
namespace Cr
open PySem L2
section
variable {X : Cx} {G : Gm} {W : Wd} {H : Hp} {env : Env} {σ : St} {p : PenSt} {r : D} {Q : VK} {e a b c : Expr} {f fa fb fc : FV D} {pos : Pos}
theorem Rep.flat {x : V} {d : D} (h : Rep G W H x d) (k : flatD d = true) : flatV x = true := by
  cases h <;> first | rfl | cases k
theorem Rep.eqV {x y : V} {d e : D} (h : Rep G W H x d) (h' : Rep G W H y e) (k : flatD d = true) (k' : flatD e = true) : eqV x y = eqD d e := by
  cases h <;> first | (cases k; done) | (cases h' <;> first | (cases k'; done) | rfl)
theorem Reps.flat : ∀ {xs : List V} {ds : List D}, Reps G W H xs ds → ds.all flatD = true → xs.all flatV = true
  | _, _, .nil, _ => rfl
  | _, _, .cons h t, k => by
    rw [List.all_cons, Bool.and_eq_true] at k
    rw [List.all_cons, h.flat k.1, Reps.flat t k.2]
    rfl
theorem Reps.inV {x : V} {d : D} (h : Rep G W H x d) (k : flatD d = true) : ∀ {xs : List V} {ds : List D}, Reps G W H xs ds → ds.all flatD = true → inV x xs = ds.any (fun z => eqD z d)
  | _, _, .nil, _ => rfl
  | _, _, @Reps.cons _ _ _ y _ z _ hy t, kk => by
    rw [List.all_cons, Bool.and_eq_true] at kk
    rw [List.any_cons, ← hy.eqV h kk.1 k, ← Reps.inV h k t kk.2]
    rfl
theorem RepB.of_flat {x : V} {d : D} (h : RepB G W env σ H x d) (k : flatD d = true) : Rep G W H x d := by
  rcases h with h | ⟨_, _, _, _, rfl, _⟩ | ⟨_, _, _, _, rfl, _⟩
  · exact h
  · cases k
  · cases k
def gIn (neg : Bool) (x : D) : D → Option D
  | .lst ds => if (dat x 63 && dats ds 63) = true then some (.bl (neg ^^ ds.any fun z => eqD z x)) else none
  | .tup ds => if (flatD x && ds.all flatD) = true then some (.bl (neg ^^ ds.any fun z => eqD z x)) else none
  | .dct ks => match x with
    | .int i => some (.bl (neg ^^ ks.any fun z => decide (z.1 = Sum.inl i)))
    | .str i => some (.bl (neg ^^ ks.any fun z => decide (z.1 = Sum.inr i)))
    | _ => none
  | _ => none
def rInA (K : PySem.W.Frag) : R2 := fun x y H Q => rIn K false x y H Q ∨ rInD K x y H Q
def rNotInA (K : PySem.W.Frag) : R2 := fun x y H Q => rIn K true x y H Q ∨ rNotInD K x y H Q
theorem op_inA (hu : X.A.units + 65 < cLine) : OpR X (compareOp .In) (rInA X.K) := op_in_seq.or (op_inD hu)
theorem op_notInA (hu : X.A.units + 65 < cLine) : OpR X (compareOp .NotIn) (rNotInA X.K) := op_notIn_seq.or (op_notInD hu)
mutual
theorem dat_up : ∀ (d : D) (n m : Nat), n ≤ m → dat d n = true → dat d m = true
  | .non, _, _, _, _ => rfl
  | .bl _, _, _, _, _ => rfl
  | .int _, _, _, _, _ => rfl
  | .str _, _, _, _, h => h
  | .lst xs, n + 1, m + 1, hl, h => dats_up xs n m (Nat.le_of_succ_le_succ hl) h
  | .tup xs, n + 1, m + 1, hl, h => dats_up xs n m (Nat.le_of_succ_le_succ hl) h
  | .lst xs, n + 1, 0, hl, h => absurd hl (by omega)
  | .tup xs, n + 1, 0, hl, h => absurd hl (by omega)
  | .lst xs, 0, _, _, h => by cases h
  | .tup xs, 0, _, _, h => by cases h
  | .pen, _, _, _, h => by cases h
  | .row _, _, _, _, h => by cases h
  | .dct _, _, _, _, h => by cases h
  | .obj _ _, _, _, _, h => by cases h
theorem dats_up : ∀ (d : List D) (n m : Nat), n ≤ m → dats d n = true → dats d m = true
  | [], _, _, _, _ => rfl
  | x :: xs, n, m, hl, h => by
    have h : (dat x n && dats xs n) = true := h
    rw [Bool.and_eq_true] at h
    show (dat x m && dats xs m) = true
    rw [dat_up x n m hl h.1, dats_up xs n m hl h.2]
    rfl
end
theorem any_py (x : D) (hx : dat x 63 = true) : ∀ ds : List D, dats ds 63 = true → ((toPys ds).any fun z => PyData.eqv z (toPy x)) = ds.any fun z => eqD z x
  | [], _ => rfl
  | y :: ds, h => by
    have h : (dat y 63 && dats ds 63) = true := h
    rw [Bool.and_eq_true] at h
    show (PyData.eqv (toPy y) (toPy x) || (toPys ds).any fun z => PyData.eqv z (toPy x)) = (eqD y x || ds.any fun z => eqD z x)
    rw [eqv_toPy y x 63 63 h.1 hx, any_py x hx ds h.2]
theorem is_in {K : PySem.W.Frag} : Is2 G (rInA K) (fun x y => match y with | .dct _ => none | _ => gIn false x y) := .scal fun W env p σ H x y d e r Q hR hx hy hg q => by
  cases e <;> first | (cases hg; done) | skip
  · rename_i ds
    have hg : (if (flatD d && ds.all flatD) = true then some (D.bl (false ^^ ds.any fun z => eqD z d)) else none) = some r := hg
    split at hg
    · rename_i hz
      rw [Bool.and_eq_true] at hz
      cases hg
      obtain ⟨a, xs, rfl, ha, ra, _⟩ := hy.tup
      have hx' := hx.of_flat hz.1
      refine .inl ⟨a, xs, rfl, .inr (SqT.of ha), hx'.flat hz.1, ra.flat hz.2, ?_⟩
      show Q (.bl (L2.inV x xs)) H
      rw [Reps.inV hx' hz.1 ra hz.2]
      exact q _ (by simpa using Rep.bl _)
    · cases hg
  · rename_i ds
    have hg : (if (dat d 63 && dats ds 63) = true then some (D.bl (false ^^ ds.any fun z => eqD z d)) else none) = some r := hg
    split at hg
    · rename_i hz
      rw [Bool.and_eq_true] at hz
      cases hg
      refine .inr ⟨toPy d, toPys ds, hx.dp hz.1, hy.dp (n := 64) hz.2, shaped_of (dat_up d 63 64 (by decide) hz.1), shaped_of (d := .lst ds) hz.2, ?_⟩
      rw [any_py d hz.1 ds hz.2]
      exact q _ (by simpa using Rep.bl _)
    · cases hg
theorem is_notIn {K : PySem.W.Frag} : Is2 G (rNotInA K) (fun x y => match y with | .dct _ => none | _ => gIn true x y) := .scal fun W env p σ H x y d e r Q hR hx hy hg q => by
  cases e <;> first | (cases hg; done) | skip
  · rename_i ds
    have hg : (if (flatD d && ds.all flatD) = true then some (D.bl (true ^^ ds.any fun z => eqD z d)) else none) = some r := hg
    split at hg
    · rename_i hz
      rw [Bool.and_eq_true] at hz
      cases hg
      obtain ⟨a, xs, rfl, ha, ra, _⟩ := hy.tup
      have hx' := hx.of_flat hz.1
      refine .inl ⟨a, xs, rfl, .inr (SqT.of ha), hx'.flat hz.1, ra.flat hz.2, ?_⟩
      show Q (.bl (!L2.inV x xs)) H
      rw [Reps.inV hx' hz.1 ra hz.2]
      exact q _ (by simpa using Rep.bl _)
    · cases hg
  · rename_i ds
    have hg : (if (dat d 63 && dats ds 63) = true then some (D.bl (true ^^ ds.any fun z => eqD z d)) else none) = some r := hg
    split at hg
    · rename_i hz
      rw [Bool.and_eq_true] at hz
      cases hg
      refine .inr ⟨toPy d, toPys ds, hx.dp hz.1, hy.dp (n := 64) hz.2, shaped_of (dat_up d 63 64 (by decide) hz.1), shaped_of (d := .lst ds) hz.2, ?_⟩
      rw [any_py d hz.1 ds hz.2]
      exact q _ (by simpa using Rep.bl _)
    · cases hg

/-! ### x[i], x[i:j], x[::-1] -/
def gIx : D → D → Option D
  | .lst ds, .int i => atI ds i
  | .tup ds, .int i => atI ds i
  | _, _ => none
theorem Reps.atI {xs : List V} {ds : List D} {i : Int} {d : D} (h : Reps G W H xs ds) (e : L2.atI ds i = some d) : ∃ v, L2.atI xs i = some v ∧ Rep G W H v d := by
  unfold L2.atI at e ⊢
  rw [h.len]
  cases q : ixN ds.length i with
  | none => rw [q] at e; cases e
  | some j =>
    rw [q] at e
    exact h.get e
theorem is_ix {K : PySem.W.Frag} : Is2 G (rIx K) gIx := .scal fun W env p σ H x y d e r Q hR hx hy hg q => by
  cases d <;> first | (cases hg; done) | skip
  · cases e <;> first | (cases hg; done) | skip
    obtain ⟨a, xs, rfl, ha, ra, _⟩ := hx.tup
    obtain ⟨v, hv, rv⟩ := ra.atI hg
    exact .inr (.inl ⟨a, xs, _, v, rfl, hy.int, SqT.of ha, hv, q _ rv⟩)
  · cases e <;> first | (cases hg; done) | skip
    obtain ⟨a, xs, rfl, ha, ra⟩ := hx.lst
    obtain ⟨v, hv, rv⟩ := ra.atI hg
    exact .inl ⟨a, xs, _, v, rfl, hy.int, SqL.of ha, hv, q _ rv⟩
def cutD {α : Type} (xs : List α) (lo hi : Option Int) : List α := (xs.drop (HT.sIx xs.length 0 lo)).take (HT.sIx xs.length xs.length hi - HT.sIx xs.length 0 lo)
theorem Reps.cut {xs : List V} {ds : List D} (h : Reps G W H xs ds) (lo hi : Option Int) : Reps G W H (cutV xs lo hi) (cutD ds lo hi) := by
  unfold cutV cutD
  rw [h.len]
  exact (h.drop _).take _
/-- a part of a slice -/
def tO (G : Gm) (f : FV (Option Int)) : TO := fun σ H Q => ∃ W env p r p', R G W env p σ H ∧ f env p = some (r, p') ∧ ∀ W' H', Tr (penA G W) W H W' H' → R G W' env p' σ H' → Q r H'
def fNoPart : FV (Option Int) := fun _ p => some (none, p)
def fPart (f : FV D) : FV (Option Int) := fun env p => match f env p with
  | some (.int i, p) => some (some i, p)
  | _ => none
theorem poI {e : Option Expr} {t t' : TO} (h : PO X e t) (k : ∀ σ H Q, t' σ H Q → t σ H Q) : PO X e t' := ⟨fun pins s σ H Q I q => h.run pins s σ H Q I (k σ H Q q)⟩
theorem o_none : PO X none (tO G fNoPart) := poI po_none fun σ H Q ⟨W, env, p, r, p', hR, hf, k⟩ => by
  cases hf
  exact k W H Tr.refl hR
theorem o_some (h : PE X e (tE G fa)) : PO X (some e) (tO G (fPart fa)) := poI (po_some h) fun σ H Q ⟨W, env, p, r, p', hR, hf, k⟩ => by
  unfold fPart at hf
  split at hf
  · rename_i i p1 q
    cases hf
    exact ⟨W, env, p, _, _, hR, q, fun W1 H1 v t R1 q1 => by cases q1; exact ⟨i, rfl, k W1 H1 t R1⟩⟩
  · cases hf
def gSl (lo hi : Option Int) : D → Option D
  | .lst ds => some (.lst (cutD ds lo hi))
  | .tup ds => some (.tup (cutD ds lo hi))
  | _ => none
def fSl (fa : FV D) (fl fh : FV (Option Int)) : FV D := fun env p => do
  let (x, p) ← fa env p
  let (l, p) ← fl env p
  let (h, p) ← fh env p
  let r ← gSl l h x
  pure (r, p)
def rSlAll (K : PySem.W.Frag) : V → Option Int → Option Int → Hp → VK → Prop := fun x lo hi H Q => rSlL K x lo hi H Q ∨ rSlA K x lo hi H Q
theorem sl_all : SlR X (rSlAll X.K) := sl_list.or sl_tupA
theorem n_sl {lo hi : Option Expr} {fl fh : FV (Option Int)} {p2 : Pos} (ha : PE X a (tB G fa)) (hl : PO X lo (tO G fl)) (hh : PO X hi (tO G fh)) : PE X (.Subscript a (.Slice lo hi none p2) pos) (tN G (fSl fa fl fh)) :=
  peI (pe_slice sl_all ha hl hh) fun σ H Q ⟨W, env, p, r, p', hR, hf, k⟩ => by
    unfold fSl at hf
    cases h1 : fa env p with
    | none => rw [h1] at hf; cases hf
    | some z =>
      obtain ⟨x, p1⟩ := z
      rw [h1] at hf
      simp only [Option.bind_eq_bind, Option.bind_some] at hf
      cases h2 : fl env p1 with
      | none => rw [h2] at hf; cases hf
      | some z =>
        obtain ⟨l, p2⟩ := z
        rw [h2] at hf
        simp only [Option.bind_some] at hf
        cases h3 : fh env p2 with
        | none => rw [h3] at hf; cases hf
        | some z =>
          obtain ⟨u, p3⟩ := z
          rw [h3] at hf
          simp only [Option.bind_some] at hf
          cases h4 : gSl l u x with
          | none => rw [h4] at hf; cases hf
          | some w =>
            rw [h4] at hf
            cases hf
            refine ⟨W, env, p, x, p1, hR, h1, fun W1 H1 v t1 R1 q1 => ⟨W1, env, p1, l, p2, R1, h2, fun W2 H2 t2 R2 => ⟨W2, env, p2, u, _, R2, h3, fun W3 H3 t3 R3 => ?_⟩⟩⟩
            have q3 := (q1.te t2 R1).te t3 R2
            have k' : PostV G W3 env σ H3 _ (NewP G H3 r) Q := fun W4 H4 v t4 R4 q4 => k W4 H4 v (((t1.then t2).then t3).then t4) R4 (q4.back fun a z => t3.tk a (t2.tk a (t1.tk a z)))
            cases x <;> first | (cases h4; done) | skip
            · rename_i ds
              cases h4
              obtain ⟨a, xs, rfl, ha, ra, rea⟩ := q3.tup
              refine .inr ⟨a, xs, rfl, SqT.of ha, fun hw => ?_, fun _ q hq => k'.newT R3 hq rfl (ra.cut l u)⟩
              refine k'.same R3 (newP_of rfl ?_)
              have e : cutD ds l u = ds := by
                unfold cutD
                rw [← ra.len, hw.1, hw.2, Nat.sub_zero, List.drop_zero, ra.len, List.take_length]
              rw [e]
              exact rea
            · cases h4
              obtain ⟨a, xs, rfl, ha, ra⟩ := q3.lst
              exact .inl ⟨a, xs, rfl, SqL.of ha, fun q hq => k'.newL R3 hq rfl (ra.cut l u)⟩
end
end Cr
namespace Cr
open PySem L2
section
variable {X : Cx} {G : Gm} {W : Wd} {H : Hp} {env : Env} {σ : St} {p : PenSt} {r : D} {Q : VK} {e a b c : Expr} {f fa fb fc : FV D} {pos : Pos} {es : List Expr}
/-! ### argument lists -/
def tA (G : Gm) (f : FV (List D)) : TA := fun σ H Q => ∃ W env p r p', R G W env p σ H ∧ f env p = some (r, p') ∧ ∀ W' H' vs, Tr (penA G W) W H W' H' → R G W' env p' σ H' → Reps G W' H' vs r → Q vs H'
def aNil : FV (List D) := fun _ p => some ([], p)
def aCons (f : FV D) (g : FV (List D)) : FV (List D) := fun env p => do
  let (x, p) ← f env p
  let (y, p) ← g env p
  pure (x :: y, p)
def aStar (f : FV D) (g : FV (List D)) : FV (List D) := fun env p => do
  let (x, p) ← f env p
  let (y, p) ← g env p
  match x with
  | .tup ds => pure (ds ++ y, p)
  | .lst ds => pure (ds ++ y, p)
  | _ => none
theorem a_nil : PA X [] (tA G aNil) := paI pa_nil fun σ H Q ⟨W, env, p, r, p', hR, hf, k⟩ => by
  cases hf
  exact k W H [] Tr.refl hR .nil
theorem a_cons {g : FV (List D)} (ha : PE X e (tE G f)) (hr : PA X es (tA G g)) (hs : starEach (e :: es) X.env = (false, eval e X.env) :: starEach es X.env := by rfl) : PA X (e :: es) (tA G (aCons f g)) := paI (pa_cons ha hr hs) fun σ H Q ⟨W, env, p, r, p', hR, hf, k⟩ => by
  unfold aCons at hf
  cases h1 : f env p with
  | none => rw [h1] at hf; cases hf
  | some z =>
    obtain ⟨x, p1⟩ := z
    rw [h1] at hf
    simp only [Option.bind_eq_bind, Option.bind_some] at hf
    cases h2 : g env p1 with
    | none => rw [h2] at hf; cases hf
    | some z =>
      obtain ⟨l, p2⟩ := z
      rw [h2] at hf
      cases hf
      exact ⟨W, env, p, x, p1, hR, h1, fun W1 H1 v t1 R1 q1 => ⟨W1, env, p1, l, _, R1, h2, fun W2 H2 vs t2 R2 q2 => k W2 H2 _ (t1.then t2) R2 (.cons (q1.te t2 R1.ok) q2)⟩⟩
theorem a_star {g : FV (List D)} {p0 : Pos} (ha : PE X e (tB G f)) (hr : PA X es (tA G g)) (hs : starEach (.Starred e p0 :: es) X.env = (true, eval e X.env) :: starEach es X.env := by rfl) : PA X (.Starred e p0 :: es) (tA G (aStar f g)) := paI (StX.pa_star ha hr hs) fun σ H Q ⟨W, env, p, r, p', hR, hf, k⟩ => by
  unfold aStar at hf
  cases h1 : f env p with
  | none => rw [h1] at hf; cases hf
  | some z =>
    obtain ⟨x, p1⟩ := z
    rw [h1] at hf
    simp only [Option.bind_eq_bind, Option.bind_some] at hf
    cases h2 : g env p1 with
    | none => rw [h2] at hf; cases hf
    | some z =>
      obtain ⟨l, p2⟩ := z
      rw [h2] at hf
      simp only [Option.bind_some] at hf
      refine ⟨W, env, p, x, p1, hR, h1, fun W1 H1 v t1 R1 q1 => ?_⟩
      split at hf
      · cases hf
        obtain ⟨a, xs, rfl, ha, ra, _⟩ := q1.tup
        exact ⟨a, xs, rfl, .inl (SqT.of ha), W1, env, p1, l, _, R1, h2, fun W2 H2 vs t2 R2 q2 => k W2 H2 _ (t1.then t2) R2 ((ra.te t2 R1.ok).app q2)⟩
      · cases hf
        obtain ⟨a, xs, rfl, ha, ra⟩ := q1.lst
        exact ⟨a, xs, rfl, .inr (SqL.of ha), W1, env, p1, l, _, R1, h2, fun W2 H2 vs t2 R2 q2 => k W2 H2 _ (t1.then t2) R2 ((ra.te t2 R1.ok).app q2)⟩
      · cases hf

/-! ### displays -/
def fTup (f : FV (List D)) : FV D := fun env p => match f env p with
  | some (ds, p) => if ds.length ≤ 16777216 then some (.tup ds, p) else none
  | none => none
def fLst (f : FV (List D)) : FV D := fun env p => match f env p with
  | some (ds, p) => if ds.length ≤ 16777216 then some (.lst ds, p) else none
  | none => none
theorem n_tup {g : FV (List D)} {k : Nat} (h : PA X es (tA G g)) : PE X (.Tuple es k pos) (tN G (fTup g)) := peI (pe_tup h) fun σ H Q ⟨W, env, p, r, p', hR, hf, k⟩ => by
  unfold fTup at hf
  split at hf
  · rename_i ds p1 q
    split at hf
    · rename_i hz
      cases hf
      refine ⟨W, env, p, ds, _, hR, q, fun W1 H1 vs t1 R1 q1 => ⟨by rw [sizeLine_eq, q1.len]; exact hz, fun a ha => ?_⟩⟩
      have k' : PostV G W1 env σ H1 _ (NewP G H1 _) Q := fun W4 H4 v t4 R4 q4 => k W4 H4 v (t1.then t4) R4 (q4.back t1.tk)
      exact k'.newT R1 ha rfl q1
    · cases hf
  · cases hf
theorem n_lst {g : FV (List D)} (h : PA X es (tA G g)) : PE X (.List es pos) (tN G (fLst g)) := peI (pe_lst h) fun σ H Q ⟨W, env, p, r, p', hR, hf, k⟩ => by
  unfold fLst at hf
  split at hf
  · rename_i ds p1 q
    split at hf
    · rename_i hz
      cases hf
      refine ⟨W, env, p, ds, _, hR, q, fun W1 H1 vs t1 R1 q1 => ⟨by rw [sizeLine_eq, q1.len]; exact hz, fun a ha => ?_⟩⟩
      have k' : PostV G W1 env σ H1 _ (NewP G H1 _) Q := fun W4 H4 v t4 R4 q4 => k W4 H4 v (t1.then t4) R4 (q4.back t1.tk)
      exact k'.newL R1 ha rfl q1
    · cases hf
  · cases hf

/-! ### what a def promises -/
abbrev MF := List D → PenSt → Option (D × PenSt)
def spM (G : Gm) (n : Nat) (m : MF) : Sp := fun vs H Q _ => ∃ W p ds r p', WOk G W p H ∧ Reps G W H vs ds ∧ ds.length = n ∧ m ds p = some (r, p') ∧
  ∀ W' H' v, Tr (penA G W) W H W' H' → WOk G W' p' H' → Rep G W' H' v r → Q v H'
def fCall (m : MF) (f : FV (List D)) : FV D := fun env p => match f env p with
  | some (ds, p) => m ds p
  | none => none
theorem e_call {g : FV (List D)} {m : MF} {n k : Nat} {fa : Addr} {fd : FuncData} {ps : List Str} {x : Str} {p : Pos} (F : FnOk X.prog X.w X.K X.mg X.base CX0 k fa fd ps (spM G n m)) (hn : ps.length = n) (hr : Room k X.A) (hg : Gl X x) (hm : X.mg x = some (.ref fa))
    (hk : PySem.W.keepIn X.K (.ref fa) = true) (hb : Binds X.K fd ps []) (hl : ∀ env p ds p', g env p = some (ds, p') → ds.length = n) (ha : PA X (e :: es) (tA G g)) (hdb : (x == ("__debug__" : Str)) = false := by decide)
    (he : starEach (e :: es) X.env = (false, eval e X.env) :: starEach es X.env := by rfl) (hpl : (backTo pos (starEach es X.env)).any (·.1) = false := by rfl) : PE X (.Call (.Name x p) (e :: es) [] pos) (tE G (fCall m g)) :=
  peI (pe_call F hr hg hm hk hb .nil pass0 ha hdb he hpl) fun σ H Q ⟨W, env, p, r, p', hR, hf, k⟩ => by
    unfold fCall at hf
    split at hf
    · rename_i ds p1 q
      refine ⟨W, env, p, ds, p1, hR, q, fun W1 H1 vs t1 R1 q1 => ?_⟩
      show spM G n m (vs ++ []) H1 Q E0
      rw [List.append_nil]
      exact ⟨W1, p1, ds, r, p', R1.ok, q1, hl _ _ _ _ q, hf, fun W2 H2 v t2 w2 q2 => k W2 H2 v (t1.then t2) (R1.step t2 w2) q2⟩
    · cases hf

/-! ### objects -/
/-- __init__ makes the fields -/
abbrev MI := Addr → List D → PenSt → Option (List (Str × D) × PenSt)
def spI (G : Gm) (c : String) (n : Nat) (m : MI) : Sp := fun vs H Q _ => ∃ W p x C dx ws ds fs p', vs = .ref x :: ws ∧ G c = some C ∧ H x = some (.ins C dx []) ∧ ¬ W.S x ∧ ¬ penA G W x ∧ WOk G W p H ∧ Reps G W H ws ds ∧ ds.length = n ∧ m x ds p = some (fs, p') ∧
  ∀ W' H' dx gs, Tr (fun a => penA G W a ∨ a = x) W H W' H' → WOk G W' p' H' → ¬ W'.S x → H' x = some (.ins C dx gs) → gs.map Prod.fst = fs.map Prod.fst → Reps G W' H' (gs.map Prod.snd) (fs.map Prod.snd) → Q .non H'
/-- what __init__ makes wherever the new thing lies -/
noncomputable def initAny (m : MI) (ds : List D) (p : PenSt) : Option (List (Str × D) × PenSt) := by
  classical
  exact if h : ∃ r, ∀ x, m x ds p = some r then some (Classical.choose h) else none
theorem initAny_of {m : MI} {ds : List D} {p : PenSt} {r : List (Str × D) × PenSt} (h : ∀ x, m x ds p = some r) : initAny m ds p = some r := by
  unfold initAny
  have hh : ∃ r, ∀ x, m x ds p = some r := ⟨r, h⟩
  rw [dif_pos hh]
  have := Classical.choose_spec hh 0
  rw [h 0] at this
  exact this.symm
theorem initAny_some {m : MI} {ds : List D} {p : PenSt} {r : List (Str × D) × PenSt} (h : initAny m ds p = some r) (x : Addr) : m x ds p = some r := by
  unfold initAny at h
  split at h
  · rename_i hh
    cases h
    exact Classical.choose_spec hh x
  · cases h
noncomputable def fMake (c : String) (m : MI) (f : FV (List D)) : FV D := fun env p => match f env p with
  | some (ds, p) => (initAny m ds p).map fun z => (.obj c z.1, z.2)
  | none => none
theorem e_make {g : FV (List D)} {m : MI} {c : String} {n k : Nat} {C fa : Addr} {fd : FuncData} {ps : List Str} {x : Str} {p : Pos} (M : Mk X.K C fa) (hC : G c = some C) (F : FnOk X.prog X.w X.K X.mg X.base CX0 k fa fd ps (spI G c n m)) (hr : Room (k + 1) X.A) (hg : Gl X x)
    (hm : X.mg x = some (.ref C)) (hb : Binds X.K fd ps []) (hl : ∀ env p ds p', g env p = some (ds, p') → ds.length = n) (ha : PA X (e :: es) (tA G g)) (hdb : (x == ("__debug__" : Str)) = false := by decide)
    (he : starEach (e :: es) X.env = (false, eval e X.env) :: starEach es X.env := by rfl) (hpl : (backTo pos (starEach es X.env)).any (·.1) = false := by rfl) : PE X (.Call (.Name x p) (e :: es) [] pos) (tE G (fMake c m g)) :=
  peI (pe_make M F hr hg hm hb .nil pass0 ha hdb he hpl) fun σ H Q ⟨W, env, p, r, p', hR, hf, k⟩ => by
    unfold fMake at hf
    split at hf
    · rename_i ds p1 q
      cases q2 : initAny m ds p1 with
      | none => rw [q2] at hf; cases hf
      | some z =>
        obtain ⟨fs, p2⟩ := z
        rw [q2] at hf
        cases hf
        refine ⟨W, env, p, ds, p1, hR, q, fun W1 H1 vs t1 R1 q1 => ?_⟩
        intro x dx hx hdx hne
        rw [List.append_nil]
        have hxn : upd H1 dx (.own x) x = none := by rw [upd_ne (Ne.symm hne)]; exact hx
        have ta : Tr (penA G W1) W1 H1 W1 (upd (upd H1 dx (.own x)) x (.ins C dx [])) := (Tr.new hdx).then (Tr.new hxn)
        have w1 := (R1.ok.upd (o := .own x) hdx).upd (o := .ins C dx []) hxn
        refine ⟨W1, p1, x, C, dx, vs, ds, fs, p2, rfl, hC, upd_same, fun z => R1.ok.trk x z hx, R1.ok.pen_ne hx, w1, q1.te ta R1.ok, hl _ _ _ _ q, initAny_some q2 x, fun W2 H2 dy gs t2 w2 ns h2 n2 r2 => ⟨rfl, ?_⟩⟩
        have t3 : Tr (penA G W1) W1 H1 W2 H2 := ta.trans t2 fun y hy => hy.imp id fun (z : y = x) => by rw [z]; exact hx
        have pn : ¬ penA G W2 x := fun z => (t2.pa x z).elim (R1.ok.pen_ne hx) fun n => by rw [upd_same] at n; cases n
        have t4 : Tr (penA G W1) W1 H1 (W2.add x) H2 := ⟨t3.kp, t3.tk, t3.pe, t3.re, t3.rn, fun a s => .inl (t3.sub a s), fun a s => s.elim (t3.nw a) fun z => .inr (.inl (z ▸ hx))⟩
        have w3 := w2.add pn (by rw [h2]; exact fun z => by cases z)
        exact k _ H2 _ (t1.then t4) (R1.step t4 w3) (.obj (.inr rfl) hC h2 n2 r2.add)
    · cases hf
/-- the classes' facts -/
structure ClsF (K : PySem.W.Frag) (G : Gm) : Prop where
  cl : ∀ c C, G c = some C → Cls K C
  ha : ∀ c C, G c = some C → PySem.W.findIn K (.ref C) "__class__" = some (some (.builtin "object.__class__"))
  hn : PySem.W.specialIn K (.builtin "object.__class__") "__get__" = some (some (.builtin "getset_descriptor.__get__"))
  ht : PySem.W.takesIn K (.builtin "object.__class__") = some true
  hm : ∀ c C, G c = some C → PySem.W.mroIn K C (.type "object") = some true
  kk : ∀ c C c' C', G c = some C → G c' = some C' → PySem.W.kitOne K (.ref C) (.ref C') = some (decide (c = c'))
  kb : ∀ c C T, G c = some C → T ∈ ["int", "bool", "tuple", "list", "str", "dict"] → PySem.W.kitOne K (.ref C) (.type T) = some false
  bk : ∀ c C T, G c = some C → T ∈ ["NoneType", "int", "bool", "tuple", "list", "str", "dict"] → PySem.W.kitOne K (.type T) (.ref C) = some false
theorem lookup_reps {f : Str} : ∀ {gs : List (Str × V)} {fs : List (Str × D)} {d : D}, gs.map Prod.fst = fs.map Prod.fst → Reps G W H (gs.map Prod.snd) (fs.map Prod.snd) → fs.lookup f = some d → ∃ v, gs.lookup f = some v ∧ Rep G W H v d
  | [], [], _, _, _, h => by cases h
  | [], _ :: _, _, n, _, _ => by cases n
  | _ :: _, [], _, n, _, _ => by cases n
  | (k, v) :: gs, (k', d') :: fs, d, n, r, h => by
    have n1 : k = k' := (List.cons.inj n).1
    have n2 := (List.cons.inj n).2
    subst n1
    cases r with
    | cons r1 r2 =>
      rw [List.lookup_cons] at h ⊢
      cases hb : f == k with
      | true =>
        rw [hb] at h
        cases h
        exact ⟨v, rfl, r1⟩
      | false =>
        rw [hb] at h
        exact lookup_reps n2 r2 h
def gFld (cs : List String) (f : Str) : D → Option D
  | .obj c fs => if cs.contains c = true then fs.lookup f else none
  | _ => none
theorem e_fld {cs : List String} {f : Str} {fa : FV D} (CF : ClsF X.K G) (hf : ∀ c ∈ cs, ∀ C, G c = some C → NoAttr X.K C f) (he : PE X e (tB G fa)) (hb : attributeBase e f X.env (eval e X.env) = eval e X.env) : PE X (.Attribute e f pos) (tE G (f1 (gFld cs f) fa)) :=
  peI (pe_fld he hb) fun σ H Q h => one (rr := fun x H1 Q => ∃ a C dx fs v, x = .ref a ∧ H1 a = some (.ins C dx fs) ∧ Cls X.K C ∧ NoAttr X.K C f ∧ fs.lookup f = some v ∧ Q v H1) (.scal fun W env p σ H x d r Q hR hx hg q => by
    cases d <;> first | (cases hg; done) | skip
    rename_i c fs
    have hg : (if cs.contains c = true then fs.lookup f else none) = some r := hg
    split at hg
    · rename_i hc
      cases hx.obj with
      | obj s k e n r =>
        obtain ⟨v, hv, rv⟩ := lookup_reps n r hg
        exact ⟨_, _, _, _, v, rfl, e, CF.cl _ _ k, hf c (by simpa using hc) _ k, hv, q v rv⟩
    · cases hg) h

/-! ### isinstance -/
def tyD : D → String
  | .non => "NoneType"
  | .bl _ => "bool"
  | .int _ => "int"
  | .str _ => "str"
  | .tup _ => "tuple"
  | .lst _ => "list"
  | .dct _ => "dict"
  | _ => ""
def isT (T : String) (d : D) : Bool := decide (tyD d = T) || (decide (T = "int") && decide (tyD d = "bool"))
def gIsi (T : String) : D → Option D
  | .pen => none
  | .row _ => none
  | d => some (.bl (isT T d))
def gIsiC (c : String) : D → Option D
  | .pen => none
  | .row _ => none
  | .obj c' _ => some (.bl (decide (c' = c)))
  | _ => some (.bl false)
def isiTys : List String := ["int", "bool", "tuple", "list", "str", "dict"]
theorem kit_tab : (["NoneType", "int", "bool", "tuple", "list", "str", "dict"].all fun t => isiTys.all fun T => kitB t T == some (decide (t = T) || (decide (T = "int") && decide (t = "bool")))) = true := by decide +kernel
theorem kit_at {t T : String} (h : t ∈ ["NoneType", "int", "bool", "tuple", "list", "str", "dict"]) (k : T ∈ isiTys) : kitB t T = some (decide (t = T) || (decide (T = "int") && decide (t = "bool"))) := by
  have q := List.all_eq_true.mp kit_tab t h
  have q := List.all_eq_true.mp q T k
  exact beq_iff_eq.mp q
/-- a value's type -/
theorem RepB.ty {K : PySem.W.Frag} {x : V} {d : D} (CF : ClsF K G) (h : RepB G W env σ H x d) (hp : d ≠ .pen) (hw : ∀ k, d ≠ .row k) : (∃ c fs C, d = .obj c fs ∧ G c = some C ∧ TyX K H x (.ref C)) ∨ (tyD d ∈ ["NoneType", "int", "bool", "tuple", "list", "str", "dict"] ∧ (∀ c fs, d ≠ .obj c fs) ∧ TyX K H x (.type (tyD d))) := by
  cases d with
  | non => rw [h.non]; exact .inr ⟨by decide, fun _ _ z => (by cases z), .base .non⟩
  | bl b => rw [h.bl]; exact .inr ⟨by show "bool" ∈ _; decide, fun _ _ z => (by cases z), .base (.bl b)⟩
  | int b => rw [h.int]; exact .inr ⟨by show "int" ∈ _; decide, fun _ _ z => (by cases z), .base (.int b)⟩
  | str b => rw [h.str]; exact .inr ⟨by show "str" ∈ _; decide, fun _ _ z => (by cases z), .base (.str b)⟩
  | pen => exact absurd rfl hp
  | row k => exact absurd rfl (hw k)
  | tup ds => obtain ⟨a, xs, rfl, e, _⟩ := h.tup; exact .inr ⟨by show "tuple" ∈ _; decide, fun _ _ z => (by cases z), .base (.tup e)⟩
  | lst ds => obtain ⟨a, xs, rfl, e, _⟩ := h.lst; exact .inr ⟨by show "list" ∈ _; decide, fun _ _ z => (by cases z), .base (.lst e)⟩
  | dct ds => obtain ⟨a, xs, rfl, e, _⟩ := h.dct; exact .inr ⟨by show "dict" ∈ _; decide, fun _ _ z => (by cases z), .base (.dK e)⟩
  | obj c fs =>
    cases h.obj with
    | obj s k e n r => exact .inl ⟨c, fs, _, rfl, k, .base (.ins e (CF.cl _ _ k) (CF.ha _ _ k) CF.hn CF.ht (CF.hm _ _ k))⟩
def fIsi (g : D → Option D) (fa : FV D) : FV D := f1 g fa
theorem e_isiT {T : String} {p : Pos} (CF : ClsF X.K G) (hg : Gl X "isinstance") (hm : X.mg "isinstance" = none) (hT : T ∈ isiTys) (ha : PE X a (tB G fa)) (ht : PE X b (tC (.ty T)))
    (hs : starEach [b] X.env = (false, eval b X.env) :: starEach [] X.env := by rfl) (hs2 : starEach [a, b] X.env = (false, eval a X.env) :: starEach [b] X.env := by rfl) (hpl : (backTo pos (starEach [b] X.env)).any (·.1) = false := by rfl) : PE X (.Call (.Name "isinstance" p) [a, b] [] pos) (tE G (f1 (gIsi T) fa)) :=
  peI (pe_callB call_isi hg hm (by decide +kernel) (pa_cons ha (pa_cons ht pa_nil hs) hs2) (by decide) (by decide) hs2 hpl) fun σ H Q h => one (rr := fun x H1 Q => rIsi X.K [x, .ty T] H1 Q) (.scal fun W env p σ H x d r Q hR hx hg q => by
    have hp : d ≠ .pen := fun z => by subst z; cases hg
    have hw : ∀ k, d ≠ .row k := fun k z => by subst z; cases hg
    have hg' : some (D.bl (isT T d)) = some r := by rw [← hg]; cases d <;> first | rfl | exact absurd rfl hp | exact absurd rfl (hw _)
    cases hg'
    rcases hx.ty CF hp hw with ⟨c, fs, C, rfl, k, ty⟩ | ⟨m, n, ty⟩
    · refine ⟨x, .ty T, _, .type T, false, rfl, .ty T, ty, CF.kb c C T k hT, ?_⟩
      have e : isT T (.obj c fs) = false := by
        unfold isT tyD
        have : T ≠ "" := fun z => by subst z; revert hT; decide
        simp [Ne.symm this]
      rw [e] at q
      exact q _ (.bl _)
    · exact ⟨x, .ty T, _, .type T, _, rfl, .ty T, ty, kit_ty (kit_at m hT), q _ (.bl _)⟩) h
theorem e_isiC {c : String} {C : Addr} {p : Pos} (CF : ClsF X.K G) (hC : G c = some C) (hg : Gl X "isinstance") (hm : X.mg "isinstance" = none) (ha : PE X a (tB G fa)) (ht : PE X b (tC (.ref C)))
    (hs : starEach [b] X.env = (false, eval b X.env) :: starEach [] X.env := by rfl) (hs2 : starEach [a, b] X.env = (false, eval a X.env) :: starEach [b] X.env := by rfl) (hpl : (backTo pos (starEach [b] X.env)).any (·.1) = false := by rfl) : PE X (.Call (.Name "isinstance" p) [a, b] [] pos) (tE G (f1 (gIsiC c) fa)) :=
  peI (pe_callB call_isi hg hm (by decide +kernel) (pa_cons ha (pa_cons ht pa_nil hs) hs2) (by decide) (by decide) hs2 hpl) fun σ H Q h => one (rr := fun x H1 Q => rIsi X.K [x, .ref C] H1 Q) (.scal fun W env p σ H x d r Q hR hx hg q => by
    have hp : d ≠ .pen := fun z => by subst z; cases hg
    have hw : ∀ k, d ≠ .row k := fun k z => by subst z; cases hg
    rcases hx.ty CF hp hw with ⟨c', fs, C', rfl, k, ty⟩ | ⟨m, n, ty⟩
    · cases hg
      exact ⟨x, .ref C, _, .ref C, _, rfl, .own C, ty, CF.kk c' C' c C k hC, q _ (.bl _)⟩
    · have e : some (D.bl false) = some r := by rw [← hg]; cases d <;> first | rfl | exact absurd rfl hp | exact absurd rfl (hw _) | exact absurd rfl (n _ _)
      cases e
      exact ⟨x, .ref C, _, .ref C, _, rfl, .own C, ty, CF.bk c C _ hC m, q _ (.bl _)⟩) h
/-- isinstance(x, (T, U)) -/
def gIsi2 (T U : String) : D → Option D
  | .pen => none
  | .row _ => none
  | d => some (.bl (isT T d || isT U d))
theorem e_isi2 {T U : String} {b2 : Expr} {p p2 : Pos} {k : Nat} (CF : ClsF X.K G) (hg : Gl X "isinstance") (hm : X.mg "isinstance" = none) (hT : T ∈ isiTys) (hU : U ∈ isiTys) (ha : PE X a (tB G fa)) (ht : PE X b (tC (.ty T))) (hu : PE X b2 (tC (.ty U)))
    (hs1 : starEach [b2] X.env = (false, eval b2 X.env) :: starEach [] X.env := by rfl) (hs2 : starEach [b, b2] X.env = (false, eval b X.env) :: starEach [b2] X.env := by rfl) (hs4 : starEach [a, .Tuple [b, b2] k p2] X.env = (false, eval a X.env) :: starEach [.Tuple [b, b2] k p2] X.env := by rfl) :
    PE X (.Call (.Name "isinstance" p) [a, .Tuple [b, b2] k p2] [] pos) (tE G (f1 (gIsi2 T U) fa)) :=
  peI (pe_callB call_isiT hg hm (by decide +kernel) (pa_cons ha (pa_cons (pe_tup (pa_cons ht (pa_cons hu pa_nil hs1) hs2)) pa_nil) hs4) (by decide) (by decide) hs4 rfl) fun σ H Q h => one (rr := fun x H1 Q => 2 ≤ sizeLine ∧ ∀ p, H1 p = none → rIsiT X.K [x, .ref p] (upd H1 p (.tup [.ty T, .ty U])) Q) (fun W env p σ H x d r Q hR hx hg k => by
    have hp : d ≠ .pen := fun z => by subst z; cases hg
    have hw : ∀ k, d ≠ .row k := fun k z => by subst z; cases hg
    have hg' : some (D.bl (isT T d || isT U d)) = some r := by rw [← hg]; cases d <;> first | rfl | exact absurd rfl hp | exact absurd rfl (hw _)
    cases hg'
    refine ⟨by rw [sizeLine_eq]; decide, fun p hn => ?_⟩
    have hx' := hx.te (Tr.new (o := .tup [.ty T, .ty U]) hn) hR
    have q : Q (.bl (isT T d || isT U d)) (upd H p (.tup [.ty T, .ty U])) := k W _ _ (Tr.new hn) (hR.new hn) (.bl _)
    have pr : Paired ClsV [V.ty T, V.ty U] [Value.type T, Value.type U] := .cons (.ty T) (.cons (.ty U) .nil)
    rcases hx'.ty CF hp hw with ⟨c, fs, C, rfl, kk, ty⟩ | ⟨m, n, ty⟩
    · refine ⟨x, p, _, _, _, false, rfl, upd_same, pr, ty, kitAny_cons (CF.kb c C T kk hT) (fun _ => kitAny_cons (CF.kb c C U kk hU) (fun _ => kitAny_nil) fun z => by cases z) (fun z => by cases z), ?_⟩
      have e : ∀ T ∈ isiTys, isT T (.obj c fs) = false := fun T hT => by
        unfold isT tyD
        have : T ≠ "" := fun z => by subst z; revert hT; decide
        simp [Ne.symm this]
      rw [e T hT, e U hU] at q
      exact q
    · refine ⟨x, p, _, _, _, (isT T d || isT U d), rfl, upd_same, pr, ty, kitAny_cons (kit_ty (kit_at m hT)) (fun z => kitAny_cons (kit_ty (kit_at m hU)) (fun z2 => ?_) fun z2 => ?_) (fun z => ?_), q⟩
      · rw [show isT T d = _ from rfl, show isT U d = _ from rfl] at *
        unfold isT
        rw [z, z2]
        exact kitAny_nil
      · unfold isT
        rw [z2, Bool.or_true]
      · unfold isT
        rw [z, Bool.true_or]) h
end
end Cr
namespace Cr
open PySem L2
section
variable {X : Cx} {G : Gm} {W : Wd} {H : Hp} {env : Env} {σ : St} {p : PenSt} {r : D} {Q : VK} {e a b c tg : Expr} {f fa fb fc : FV D} {pos : Pos} {es : List Expr}
/-! ### calls of built-ins -/
theorem e_b1 {id : String} {x : Str} {p0 : Pos} {rr : List V → Hp → VK → Prop} {g : D → Option D} (hc : CallR X (.builtin id) rr) (hi : Is1 G (fun x H Q => rr [x] H Q) g) (hg : Gl X x) (hm : X.mg x = none) (hv : bootBuiltins x = some (.builtin id)) (ha : PE X a (tB G fa)) (hn : x ≠ "__name__" := by decide) (hdb : (x == ("__debug__" : Str)) = false := by decide)
    (hs : starEach [a] X.env = (false, eval a X.env) :: starEach [] X.env := by rfl) : PE X (.Call (.Name x p0) [a] [] pos) (tE G (f1 g fa)) :=
  peI (pe_callB hc hg hm hv (pa_cons ha pa_nil hs) hn hdb hs rfl) fun σ H Q h => one hi h
theorem e_t1 {id : String} {x : Str} {p0 : Pos} {rr : List V → Hp → VK → Prop} {g : D → Option D} (hc : CallR X (.type id) rr) (hi : Is1 G (fun x H Q => rr [x] H Q) g) (hg : Gl X x) (hm : X.mg x = none) (hv : bootBuiltins x = some (.type id)) (ha : PE X a (tB G fa)) (hn : x ≠ "__name__" := by decide) (hdb : (x == ("__debug__" : Str)) = false := by decide)
    (hs : starEach [a] X.env = (false, eval a X.env) :: starEach [] X.env := by rfl) : PE X (.Call (.Name x p0) [a] [] pos) (tE G (f1 g fa)) :=
  peI (pe_callTy hc hg hm hv (pa_cons ha pa_nil hs) hn hdb hs rfl) fun σ H Q h => one hi h
theorem n_b1 {id : String} {x : Str} {p0 : Pos} {rr : List V → Hp → VK → Prop} {g : D → Option D} (hc : CallR X (.builtin id) rr) (hi : Is1N G (fun x H Q => rr [x] H Q) g) (hg : Gl X x) (hm : X.mg x = none) (hv : bootBuiltins x = some (.builtin id)) (ha : PE X a (tB G fa)) (hn : x ≠ "__name__" := by decide) (hdb : (x == ("__debug__" : Str)) = false := by decide)
    (hs : starEach [a] X.env = (false, eval a X.env) :: starEach [] X.env := by rfl) : PE X (.Call (.Name x p0) [a] [] pos) (tN G (f1 g fa)) :=
  peI (pe_callB hc hg hm hv (pa_cons ha pa_nil hs) hn hdb hs rfl) fun σ H Q h => oneN hi h
theorem n_t1 {id : String} {x : Str} {p0 : Pos} {rr : List V → Hp → VK → Prop} {g : D → Option D} (hc : CallR X (.type id) rr) (hi : Is1N G (fun x H Q => rr [x] H Q) g) (hg : Gl X x) (hm : X.mg x = none) (hv : bootBuiltins x = some (.type id)) (ha : PE X a (tB G fa)) (hn : x ≠ "__name__" := by decide) (hdb : (x == ("__debug__" : Str)) = false := by decide)
    (hs : starEach [a] X.env = (false, eval a X.env) :: starEach [] X.env := by rfl) : PE X (.Call (.Name x p0) [a] [] pos) (tN G (f1 g fa)) :=
  peI (pe_callTy hc hg hm hv (pa_cons ha pa_nil hs) hn hdb hs rfl) fun σ H Q h => oneN hi h
theorem e_b2 {id : String} {x : Str} {p0 : Pos} {rr : List V → Hp → VK → Prop} {g : D → D → Option D} (hc : CallR X (.builtin id) rr) (hi : Is2 G (fun x y H Q => rr [x, y] H Q) g) (hg : Gl X x) (hm : X.mg x = none) (hv : bootBuiltins x = some (.builtin id)) (ha : PE X a (tB G fa)) (hb : PE X b (tB G fb)) (hn : x ≠ "__name__" := by decide) (hdb : (x == ("__debug__" : Str)) = false := by decide)
    (hs1 : starEach [b] X.env = (false, eval b X.env) :: starEach [] X.env := by rfl) (hs : starEach [a, b] X.env = (false, eval a X.env) :: starEach [b] X.env := by rfl) (hpl : (backTo pos (starEach [b] X.env)).any (·.1) = false := by rfl) : PE X (.Call (.Name x p0) [a, b] [] pos) (tE G (f2 g fa fb)) :=
  peI (pe_callB hc hg hm hv (pa_cons ha (pa_cons hb pa_nil hs1) hs) hn hdb hs hpl) fun σ H Q h => two hi h
def gLen : D → Option D
  | .tup xs => some (.int xs.length)
  | .lst xs => some (.int xs.length)
  | .str y => if y.length ≤ 16777216 then some (.int y.length) else none
  | _ => none
theorem is_len {K : PySem.W.Frag} : Is1 G (fun x H Q => ∃ x' n, [x] = [x'] ∧ LenV K x' H n ∧ Q (.int n) H) gLen := .scal fun W env p σ H x d r Q hR hx hg q => by
  cases d <;> first | (cases hg; done) | skip
  · rename_i y
    have hg : (if y.length ≤ 16777216 then some (D.int y.length) else none) = some r := hg
    split at hg
    · rename_i hz
      cases hg
      rw [hx.str]
      exact ⟨_, _, rfl, ⟨by rw [sizeLine_eq]; exact hz, rfl⟩, q _ (.int _)⟩
    · cases hg
  · cases hg
    obtain ⟨a, xs, rfl, e, ra, _⟩ := hx.tup
    exact ⟨_, _, rfl, .inr ⟨xs, SqT.of e, by rw [ra.len]⟩, q _ (.int _)⟩
  · cases hg
    obtain ⟨a, xs, rfl, e, ra⟩ := hx.lst
    exact ⟨_, _, rfl, .inl ⟨xs, SqL.of e, by rw [ra.len]⟩, q _ (.int _)⟩
def gList : D → Option D
  | .tup xs => some (.lst xs)
  | .lst xs => some (.lst xs)
  | _ => none
theorem is_list {K : PySem.W.Frag} : Is1N G (fun x H Q => ∃ p ys, [x] = [.ref p] ∧ (SqL K H p ys ∨ SqT K H p ys) ∧ ∀ l, H l = none → Q (.ref l) (upd H l (.lst ys))) gList := fun W env p σ H x d r Q hR hx hg k => by
  cases d <;> first | (cases hg; done) | skip
  · cases hg
    obtain ⟨a, xs, rfl, e, ra, _⟩ := hx.tup
    exact ⟨_, _, rfl, .inr (SqT.of e), fun l hl => k.newL hR hl rfl ra⟩
  · cases hg
    obtain ⟨a, xs, rfl, e, ra⟩ := hx.lst
    exact ⟨_, _, rfl, .inl (SqL.of e), fun l hl => k.newL hR hl rfl ra⟩
def gTuple : D → Option D
  | .tup xs => some (.tup xs)
  | .lst xs => some (.tup xs)
  | _ => none
theorem is_tuple {K : PySem.W.Frag} : Is1N G (fun x H Q => ∃ p ys, [x] = [.ref p] ∧ ((SqL K H p ys ∧ ∀ l, H l = none → Q (.ref l) (upd H l (.tup ys))) ∨ (SqT K H p ys ∧ Q (.ref p) H))) gTuple := fun W env p σ H x d r Q hR hx hg k => by
  cases d <;> first | (cases hg; done) | skip
  · cases hg
    obtain ⟨a, xs, rfl, e, ra, rea⟩ := hx.tup
    exact ⟨_, _, rfl, .inr ⟨SqT.of e, k.same hR (newP_of rfl rea)⟩⟩
  · cases hg
    obtain ⟨a, xs, rfl, e, ra⟩ := hx.lst
    exact ⟨_, _, rfl, .inl ⟨SqL.of e, fun l hl => k.newT hR hl rfl ra⟩⟩
def gSum : D → Option D
  | .lst xs => (intsD xs).map fun ns => .int ns.sum
  | _ => none
theorem is_sum {K : PySem.W.Frag} : Is1 G (fun x H Q => rSum K [x] H Q) gSum := .scal fun W env p σ H x d r Q hR hx hg q => by
  cases d <;> first | (cases hg; done) | skip
  rename_i ds
  have hg : (intsD ds).map (fun ns => D.int ns.sum) = some r := hg
  cases h : intsD ds with
  | none => rw [h] at hg; cases hg
  | some ns =>
    rw [h] at hg
    cases hg
    rw [intsD_some h] at hx
    obtain ⟨a, xs, rfl, e, ra⟩ := hx.lst
    rw [ra.ints] at e
    exact ⟨a, ns, rfl, SqL.of e, q _ (.int _)⟩
def maxI : List Int → Option Int
  | [] => none
  | x :: xs => some (xs.foldl max x)
def minI : List Int → Option Int
  | [] => none
  | x :: xs => some (xs.foldl min x)
theorem foldl_max : ∀ (xs : List Int) (x : Int), x ≤ xs.foldl max x ∧ (∀ y ∈ xs, y ≤ xs.foldl max x) ∧ (xs.foldl max x = x ∨ xs.foldl max x ∈ xs)
  | [], x => ⟨Int.le_refl _, fun _ h => (by cases h), .inl rfl⟩
  | y :: xs, x => by
    obtain ⟨h1, h2, h3⟩ := foldl_max xs (max x y)
    rw [List.foldl_cons]
    refine ⟨by omega, fun z hz => ?_, ?_⟩
    · rcases List.mem_cons.mp hz with rfl | hz
      · omega
      · exact h2 z hz
    · rcases h3 with h3 | h3
      · rw [h3]
        by_cases q : x ≤ y
        · rw [Int.max_eq_right q]
          exact .inr List.mem_cons_self
        · rw [Int.max_eq_left (by omega)]
          exact .inl rfl
      · exact .inr (List.mem_cons_of_mem _ h3)
theorem foldl_min : ∀ (xs : List Int) (x : Int), xs.foldl min x ≤ x ∧ (∀ y ∈ xs, xs.foldl min x ≤ y) ∧ (xs.foldl min x = x ∨ xs.foldl min x ∈ xs)
  | [], x => ⟨Int.le_refl _, fun _ h => (by cases h), .inl rfl⟩
  | y :: xs, x => by
    obtain ⟨h1, h2, h3⟩ := foldl_min xs (min x y)
    rw [List.foldl_cons]
    refine ⟨by omega, fun z hz => ?_, ?_⟩
    · rcases List.mem_cons.mp hz with rfl | hz
      · omega
      · exact h2 z hz
    · rcases h3 with h3 | h3
      · rw [h3]
        by_cases q : x ≤ y
        · rw [Int.min_eq_left q]
          exact .inl rfl
        · rw [Int.min_eq_right (by omega)]
          exact .inr List.mem_cons_self
      · exact .inr (List.mem_cons_of_mem _ h3)
theorem maxI_spec {ns : List Int} {m : Int} (h : maxI ns = some m) : m ∈ ns ∧ ∀ y ∈ ns, y ≤ m := by
  cases ns with
  | nil => cases h
  | cons x xs =>
    cases h
    obtain ⟨h1, h2, h3⟩ := foldl_max xs x
    exact ⟨h3.elim (fun z => by rw [z]; exact List.mem_cons_self) fun z => List.mem_cons_of_mem _ z, fun y hy => (List.mem_cons.mp hy).elim (fun z => by rw [z]; exact h1) (h2 y)⟩
theorem minI_spec {ns : List Int} {m : Int} (h : minI ns = some m) : m ∈ ns ∧ ∀ y ∈ ns, m ≤ y := by
  cases ns with
  | nil => cases h
  | cons x xs =>
    cases h
    obtain ⟨h1, h2, h3⟩ := foldl_min xs x
    exact ⟨h3.elim (fun z => by rw [z]; exact List.mem_cons_self) fun z => List.mem_cons_of_mem _ z, fun y hy => (List.mem_cons.mp hy).elim (fun z => by rw [z]; exact h1) (h2 y)⟩
def gMax1 : D → Option D
  | .lst xs => (intsD xs).bind fun ns => (maxI ns).map .int
  | _ => none
def gMin1 : D → Option D
  | .lst xs => (intsD xs).bind fun ns => (minI ns).map .int
  | _ => none
theorem is_max1 {K : PySem.W.Frag} : Is1 G (fun x H Q => rMax K [x] H Q) gMax1 := .scal fun W env p σ H x d r Q hR hx hg q => by
  cases d <;> first | (cases hg; done) | skip
  rename_i ds
  have hg : (intsD ds).bind (fun ns => (maxI ns).map D.int) = some r := hg
  cases h : intsD ds with
  | none => rw [h] at hg; cases hg
  | some ns =>
    rw [h] at hg
    simp only [Option.bind_some] at hg
    cases hm : maxI ns with
    | none => rw [hm] at hg; cases hg
    | some m =>
      rw [hm] at hg
      cases hg
      rw [intsD_some h] at hx
      obtain ⟨a, xs, rfl, e, ra⟩ := hx.lst
      rw [ra.ints] at e
      obtain ⟨h1, h2⟩ := maxI_spec hm
      refine ⟨a, ns, rfl, SqL.of e, List.length_pos_of_mem h1, fun m' h1' h2' => ?_⟩
      have : m' = m := Int.le_antisymm (h2 _ h1') (h2' _ h1)
      subst this
      exact q _ (.int _)
theorem is_min1 {K : PySem.W.Frag} : Is1 G (fun x H Q => rMin K [x] H Q) gMin1 := .scal fun W env p σ H x d r Q hR hx hg q => by
  cases d <;> first | (cases hg; done) | skip
  rename_i ds
  have hg : (intsD ds).bind (fun ns => (minI ns).map D.int) = some r := hg
  cases h : intsD ds with
  | none => rw [h] at hg; cases hg
  | some ns =>
    rw [h] at hg
    simp only [Option.bind_some] at hg
    cases hm : minI ns with
    | none => rw [hm] at hg; cases hg
    | some m =>
      rw [hm] at hg
      cases hg
      rw [intsD_some h] at hx
      obtain ⟨a, xs, rfl, e, ra⟩ := hx.lst
      rw [ra.ints] at e
      obtain ⟨h1, h2⟩ := minI_spec hm
      refine ⟨a, ns, rfl, SqL.of e, List.length_pos_of_mem h1, fun m' h1' h2' => ?_⟩
      have : m' = m := Int.le_antisymm (h2' _ h1) (h2 _ h1')
      subst this
      exact q _ (.int _)
def gMax2 : D → D → Option D
  | .int i, .int j => some (.int (max i j))
  | _, _ => none
def gMin2 : D → D → Option D
  | .int i, .int j => some (.int (min i j))
  | _, _ => none
theorem is_max2 : Is2 G (fun x y H Q => ∃ i j, [x, y] = [.int i, .int j] ∧ Q (.int (if j > i then j else i)) H) gMax2 := .scal fun W env p σ H x y d e r Q hR hx hy hg q => by
  cases d <;> first | (cases hg; done) | skip
  cases e <;> first | (cases hg; done) | skip
  rename_i i j
  cases hg
  rw [hx.int, hy.int]
  refine ⟨i, j, rfl, ?_⟩
  have e : (if j > i then j else i) = max i j := by split <;> omega
  rw [e]
  exact q _ (.int _)
theorem is_min2 : Is2 G (fun x y H Q => ∃ i j, [x, y] = [.int i, .int j] ∧ Q (.int (if j < i then j else i)) H) gMin2 := .scal fun W env p σ H x y d e r Q hR hx hy hg q => by
  cases d <;> first | (cases hg; done) | skip
  cases e <;> first | (cases hg; done) | skip
  rename_i i j
  cases hg
  rw [hx.int, hy.int]
  refine ⟨i, j, rfl, ?_⟩
  have e : (if j < i then j else i) = min i j := by split <;> omega
  rw [e]
  exact q _ (.int _)
def gAll : D → Option D
  | .lst xs => (blsD xs).map fun bs => .bl (bs.all id)
  | _ => none
def gAny : D → Option D
  | .lst xs => (blsD xs).map fun bs => .bl (bs.any id)
  | _ => none
theorem is_all {K : PySem.W.Frag} : Is1 G (fun x H Q => rAll K [x] H Q) gAll := .scal fun W env p σ H x d r Q hR hx hg q => by
  cases d <;> first | (cases hg; done) | skip
  rename_i ds
  have hg : (blsD ds).map (fun bs => D.bl (bs.all id)) = some r := hg
  cases h : blsD ds with
  | none => rw [h] at hg; cases hg
  | some bs =>
    rw [h] at hg
    cases hg
    rw [blsD_some h] at hx
    obtain ⟨a, xs, rfl, e, ra⟩ := hx.lst
    rw [ra.bls] at e
    exact ⟨a, bs, rfl, SqL.of e, q _ (.bl _)⟩
theorem is_any {K : PySem.W.Frag} : Is1 G (fun x H Q => rAny K [x] H Q) gAny := .scal fun W env p σ H x d r Q hR hx hg q => by
  cases d <;> first | (cases hg; done) | skip
  rename_i ds
  have hg : (blsD ds).map (fun bs => D.bl (bs.any id)) = some r := hg
  cases h : blsD ds with
  | none => rw [h] at hg; cases hg
  | some bs =>
    rw [h] at hg
    cases hg
    rw [blsD_some h] at hx
    obtain ⟨a, xs, rfl, e, ra⟩ := hx.lst
    rw [ra.bls] at e
    exact ⟨a, bs, rfl, SqL.of e, q _ (.bl _)⟩
def gAbs : D → Option D
  | .int i => some (.int (if i < 0 then -i else i))
  | _ => none
theorem is_abs : Is1 G (fun x H Q => ∃ i, [x] = [.int i] ∧ Q (.int (if i < 0 then -i else i)) H) gAbs := .scal fun W env p σ H x d r Q hR hx hg q => by
  cases d <;> first | (cases hg; done) | skip
  cases hg
  rw [hx.int]
  exact ⟨_, rfl, q _ (.int _)⟩
def gInt : D → Option D
  | .int i => some (.int i)
  | .bl b => some (.int (if b then 1 else 0))
  | _ => none
theorem is_int : Is1 G (fun x H Q => (∃ i, [x] = [.int i] ∧ Q (.int i) H) ∨ ∃ k, [x] = [.bl k] ∧ Q (.int (if k then 1 else 0)) H) gInt := .scal fun W env p σ H x d r Q hR hx hg q => by
  cases d <;> first | (cases hg; done) | skip
  · cases hg
    rw [hx.bl]
    exact .inr ⟨_, rfl, q _ (.int _)⟩
  · cases hg
    rw [hx.int]
    exact .inl ⟨_, rfl, q _ (.int _)⟩
/-! ### ranges as lists, tuples -/
def rngD (lo hi : Int) : List D := (List.range (hi - lo).toNat).map fun i => D.int (lo + (i : Nat))
theorem rng_reps (lo hi : Int) : Reps G W H (rgV lo hi) (rngD lo hi) := by
  have e1 : rgV lo hi = ((List.range (hi - lo).toNat).map fun i => lo + ((i : Nat) : Int)).map V.int := by unfold rgV; rw [List.map_map]; rfl
  have e2 : rngD lo hi = ((List.range (hi - lo).toNat).map fun i => lo + ((i : Nat) : Int)).map D.int := by unfold rngD; rw [List.map_map]; rfl
  rw [e1, e2]
  exact Reps.ofInts _
/-- the ends of a range -/
def tRg (G : Gm) (f : FV (Int × Int)) : St → Hp → (Int → Int → Hp → Prop) → Prop := fun σ H Q => ∃ W env p r p', R G W env p σ H ∧ f env p = some (r, p') ∧ ∀ W' H', Tr (penA G W) W H W' H' → R G W' env p' σ H' → Q r.1 r.2 H'
def fRg1 (f : FV D) : FV (Int × Int) := fun env p => match f env p with
  | some (.int i, p) => some ((0, i), p)
  | _ => none
def fRg2 (f g : FV D) : FV (Int × Int) := fun env p => match f env p with
  | some (.int i, p) => (match g env p with
    | some (.int j, p) => some ((i, j), p)
    | _ => none)
  | _ => none
theorem prgI {e : Expr} {t t' : St → Hp → (Int → Int → Hp → Prop) → Prop} (h : PRg X e t) (k : ∀ σ H Q, t' σ H Q → t σ H Q) : PRg X e t' := fun pins s σ H Q I q => h pins s σ H Q I (k σ H Q q)
end
end Cr
namespace Cr
open PySem L2
section
variable {X : Cx} {G : Gm} {W : Wd} {H : Hp} {env : Env} {σ : St} {p : PenSt} {r : D} {Q : VK} {e a b c tg : Expr} {f fa fb fc : FV D} {pos : Pos} {es : List Expr}
theorem rg_1 {p0 : Pos} (hg : Gl X "range") (hm : X.mg "range" = none) (ha : PE X a (tE G fa)) (na : starEach [a] X.env = (false, eval a X.env) :: starEach [] X.env := by rfl) : PRg X (.Call (.Name "range" p0) [a] [] pos) (tRg G (fRg1 fa)) :=
  prgI (prg_1 hg hm ha na) fun σ H Q ⟨W, env, p, r, p', hR, hf, k⟩ => by
    unfold fRg1 at hf
    split at hf
    · rename_i i p1 q
      cases hf
      exact ⟨W, env, p, _, _, hR, q, fun W1 H1 v t R1 q1 => by cases q1; exact ⟨i, rfl, k W1 H1 t R1⟩⟩
    · cases hf
theorem rg_2 {p0 : Pos} (hg : Gl X "range") (hm : X.mg "range" = none) (ha : PE X a (tE G fa)) (hb : PE X b (tE G fb)) (na : starEach [a, b] X.env = (false, eval a X.env) :: starEach [b] X.env := by rfl)
    (nb : starEach [b] X.env = (false, eval b X.env) :: starEach [] X.env := by rfl) (hp : (backTo pos (starEach [b] X.env)).any (·.1) = false := by rfl) : PRg X (.Call (.Name "range" p0) [a, b] [] pos) (tRg G (fRg2 fa fb)) :=
  prgI (prg_2 hg hm ha hb na nb hp) fun σ H Q ⟨W, env, p, r, p', hR, hf, k⟩ => by
    unfold fRg2 at hf
    split at hf
    · rename_i i p1 q
      split at hf
      · rename_i j p2 q2
        cases hf
        exact ⟨W, env, p, _, _, hR, q, fun W1 H1 v t R1 q1 => by cases q1; exact ⟨W1, env, p1, _, _, R1, q2, fun W2 H2 v t2 R2 q2 => by cases q2; exact ⟨i, j, rfl, rfl, k W2 H2 (t.then t2) R2⟩⟩⟩
      · cases hf
    · cases hf
def rgOk (r : Int × Int) : Bool := decide (-(2 ^ 62) ≤ r.1) && decide (r.1 < 2 ^ 62) && decide (-(2 ^ 62) ≤ r.2) && decide (r.2 < 2 ^ 62) && decide ((r.2 - r.1).toNat ≤ 16777216)
theorem rgOk_of {r : Int × Int} (h : rgOk r = true) : RgOk r.1 r.2 := by
  unfold rgOk at h
  simp only [Bool.and_eq_true, decide_eq_true_eq] at h
  exact ⟨h.1.1.1.1, h.1.1.1.2, h.1.1.2, h.1.2, h.2⟩
def fLstRg (f : FV (Int × Int)) : FV D := fun env p => match f env p with
  | some (r, p) => if rgOk r = true then some (.lst (rngD r.1 r.2), p) else none
  | none => none
def fTupRg (f : FV (Int × Int)) : FV D := fun env p => match f env p with
  | some (r, p) => if rgOk r = true then some (.tup (rngD r.1 r.2), p) else none
  | none => none
theorem n_lstRg {fr : FV (Int × Int)} {p0 : Pos} (hc : X.calm = true) (hg : Gl X "list") (hm : X.mg "list" = none) (he : PRg X a (tRg G fr)) (na : starEach [a] X.env = (false, eval a X.env) :: starEach [] X.env := by rfl) : PE X (.Call (.Name "list" p0) [a] [] pos) (tN G (fLstRg fr)) :=
  peI (pe_listRg hc hg hm he na) fun σ H Q ⟨W, env, p, r, p', hR, hf, k⟩ => by
    unfold fLstRg at hf
    split at hf
    · rename_i i p1 q
      split at hf
      · rename_i hz
        cases hf
        refine ⟨W, env, p, i, _, hR, q, fun W1 H1 t R1 => ⟨rgOk_of hz, fun q hq => ?_⟩⟩
        have k' : PostV G W1 env σ H1 _ (NewP G H1 _) Q := fun W4 H4 v t4 R4 q4 => k W4 H4 v (t.then t4) R4 (q4.back t.tk)
        exact k'.newL R1 hq rfl (rng_reps i.1 i.2)
      · cases hf
    · cases hf
theorem n_tupRg {fr : FV (Int × Int)} {p0 : Pos} (hc : X.calm = true) (hg : Gl X "tuple") (hm : X.mg "tuple" = none) (he : PRg X a (tRg G fr)) (na : starEach [a] X.env = (false, eval a X.env) :: starEach [] X.env := by rfl) : PE X (.Call (.Name "tuple" p0) [a] [] pos) (tN G (fTupRg fr)) :=
  peI (pe_tupRg hc hg hm he na) fun σ H Q ⟨W, env, p, r, p', hR, hf, k⟩ => by
    unfold fTupRg at hf
    split at hf
    · rename_i i p1 q
      split at hf
      · rename_i hz
        cases hf
        refine ⟨W, env, p, i, _, hR, q, fun W1 H1 t R1 => ⟨rgOk_of hz, fun q hq => ?_⟩⟩
        have k' : PostV G W1 env σ H1 _ (NewP G H1 _) Q := fun W4 H4 v t4 R4 q4 => k W4 H4 v (t.then t4) R4 (q4.back t.tk)
        exact k'.newT R1 hq rfl (rng_reps i.1 i.2)
      · cases hf
    · cases hf

/-! ### what is walked -/
/-- while the heap keeps all but A, J gives the items ds -/
def IterOk (G : Gm) (J : It) (W : Wd) (A : Addr → Prop) (H : Hp) (ds : List D) : Prop := ∀ W2 H2, Tr A W H W2 H2 → 
  (∀ i, i < ds.length → J.go i H2) ∧ J.stop ds.length H2 ∧ ∀ i x H3, i < ds.length → J.yld i H2 x H3 → (∀ A2, Tr A2 W2 H2 W2 H3) ∧ (∀ p, WOk G W2 p H2 → WOk G W2 p H3) ∧ ∃ d, ds[i]? = some d ∧ Rep G W2 H3 x d
/-- for a comprehension: the frame's own things stay, too -/
def tI (G : Gm) (f : FV (List D)) : TI := fun σ H Rr => ∃ W env p r p', R G W env p σ H ∧ f env p = some (r, p') ∧ ∀ W' H' J, Tr (penA G W) W H W' H' → R G W' env p' σ H' → IterOk G J W' (penA G W') H' r → Rr J H'
/-- for a for-statement -/
def tIs (G : Gm) (f : FV (List D)) : TI := fun σ H Rr => ∃ W env p r p', R G W env p σ H ∧ f env p = some (r, p') ∧ ∀ W' H' J, Tr (penA G W) W H W' H' → R G W' env p' σ H' → IterOk G J W' (ownA G W' env σ) H' r → Rr J H'
theorem IterOk.mono {J : It} {A A2 : Addr → Prop} {ds : List D} (h : IterOk G J W A H ds) (k : ∀ a, A2 a → A a) : IterOk G J W A2 H ds := fun W2 H2 t => h W2 H2 (t.mono k)
theorem i_is {fi : FV (List D)} (h : PI X tg e (tIs G fi)) : PI X tg e (tI G fi) := piI h fun σ H Rr ⟨W, env, p, r, p', hR, hf, k⟩ => ⟨W, env, p, r, p', hR, hf, fun W' H' J t R' io => k W' H' J t R' (io.mono fun a z => .inl z)⟩

/-- the items of a list or tuple -/
def fItems (f : FV D) : FV (List D) := fun env p => match f env p with
  | some (.lst ds, p) => some (ds, p)
  | some (.tup ds, p) => some (ds, p)
  | _ => none
theorem piOr {t t' : TI} (h : PI X tg e t) (h' : PI X tg e t') : PI X tg e (fun σ H Rr => t σ H Rr ∨ t' σ H Rr) := ⟨fun pins s σ H Rr I q => q.elim (h.run pins s σ H Rr I) (h'.run pins s σ H Rr I)⟩
theorem io_list {K : PySem.W.Frag} {A : Addr → Prop} {x : Addr} {xs : List V} {ds : List D} (hx : H x = some (.lst xs)) (hA : ¬ A x) (r : Reps G W H xs ds) (hr : ∀ a, A a → ¬ W.S a ∧ ∃ o, H a = some o ∧ ∀ xs, o ≠ .tup xs) : IterOk G (Itl K x) W A H ds := fun W2 H2 t => by
  have h2 := t.kp x _ hA (fun _ z => by cases z) hx
  have r2 := r.tr t hr
  have w := walk_list (K := K) (a := x) (xs := xs)
  refine ⟨fun i hi => w.goes i H2 (by rw [r.len]; exact hi) (SqL.of h2), by rw [← r.len]; exact w.stops H2 (SqL.of h2), fun i y H3 hi q => ?_⟩
  obtain ⟨e1, e2⟩ := w.yields i H2 y H3 (by rw [r.len]; exact hi) (SqL.of h2) q
  subst e1
  obtain ⟨d, h3, h4⟩ := r2.getV e2
  exact ⟨fun _ => Tr.refl, fun _ z => z, d, h3, h4⟩
theorem io_tup {K : PySem.W.Frag} {A : Addr → Prop} {x : Addr} {xs : List V} {ds : List D} (hx : H x = some (.tup xs)) (r : Reps G W H xs ds) (hr : ∀ a, A a → ¬ W.S a ∧ ∃ o, H a = some o ∧ ∀ xs, o ≠ .tup xs) : IterOk G (Itt K x) W A H ds := fun W2 H2 t => by
  have h2 := t.kp x _ (fun z => by
    obtain ⟨o, e, n⟩ := (hr x z).2
    rw [hx] at e
    cases e
    exact n xs rfl) (fun _ z => by cases z) hx
  have r2 := r.tr t hr
  have w := walk_tup (K := K) (a := x) (xs := xs)
  refine ⟨fun i hi => w.goes i H2 (by rw [r.len]; exact hi) (SqT.of h2), by rw [← r.len]; exact w.stops H2 (SqT.of h2), fun i y H3 hi q => ?_⟩
  obtain ⟨e1, e2⟩ := w.yields i H2 y H3 (by rw [r.len]; exact hi) (SqT.of h2) q
  subst e1
  obtain ⟨d, h3, h4⟩ := r2.getV e2
  exact ⟨fun _ => Tr.refl, fun _ z => z, d, h3, h4⟩
theorem is_seq (ha : PE X a (tE G fa)) : PI X tg a (tIs G (fItems fa)) := piI (piOr (pi_list ha) (pi_tup ha)) fun σ H Rr ⟨W, env, p, r, p', hR, hf, k⟩ => by
  unfold fItems at hf
  split at hf
  · rename_i ds p1 q
    cases hf
    refine .inl ⟨W, env, p, _, _, hR, q, fun W1 H1 v t R1 q1 => ?_⟩
    cases q1 with
    | lst s e r => exact ⟨_, rfl, ⟨_, SqL.of e⟩, k W1 H1 _ t R1 (io_list e (fun z => R1.ownA_notS z s) r R1.ownA_ok)⟩
  · rename_i ds p1 q
    cases hf
    refine .inr ⟨W, env, p, _, _, hR, q, fun W1 H1 v t R1 q1 => ?_⟩
    cases q1 with
    | tup e r => exact ⟨_, rfl, ⟨_, SqT.of e⟩, k W1 H1 _ t R1 (io_tup e r R1.ownA_ok)⟩
  · cases hf
theorem i_seq (ha : PE X a (tB G fa)) : PI X tg a (tI G (fItems fa)) := piI (piOr (pi_list ha) (pi_tup ha)) fun σ H Rr ⟨W, env, p, r, p', hR, hf, k⟩ => by
  unfold fItems at hf
  split at hf
  · rename_i ds p1 q
    cases hf
    refine .inl ⟨W, env, p, _, _, hR, q, fun W1 H1 v t R1 q1 => ?_⟩
    obtain ⟨x, xs, rfl, e, r, np⟩ := q1.lstN R1
    exact ⟨_, rfl, ⟨_, SqL.of e⟩, k W1 H1 _ t R1 (io_list e np r R1.ok.penA_ok)⟩
  · rename_i ds p1 q
    cases hf
    refine .inr ⟨W, env, p, _, _, hR, q, fun W1 H1 v t R1 q1 => ?_⟩
    obtain ⟨x, xs, rfl, e, r, _⟩ := q1.tup
    exact ⟨_, rfl, ⟨_, SqT.of e⟩, k W1 H1 _ t R1 (io_tup e r R1.ok.penA_ok)⟩
  · cases hf
def fRgI (f : FV (Int × Int)) : FV (List D) := fun env p => match f env p with
  | some (r, p) => if (decide (-(2 ^ 62) ≤ r.1) && decide (r.1 < 2 ^ 62) && decide (-(2 ^ 62) ≤ r.2) && decide (r.2 < 2 ^ 62)) = true then some (rngD r.1 r.2, p) else none
  | none => none
theorem rngD_length (lo hi : Int) : (rngD lo hi).length = (hi - lo).toNat := by unfold rngD; rw [List.length_map, List.length_range]
theorem io_range {A : Addr → Prop} (lo hi : Int) : IterOk G (Itr lo (hi - lo).toNat) W A H (rngD lo hi) := fun W2 H2 t => by
  refine ⟨fun i hi' => (by rw [rngD_length] at hi'; exact hi'), (by rw [rngD_length]; exact Nat.le_refl _), fun i y H3 hi' q => ?_⟩
  obtain ⟨e1, e2⟩ := q
  subst e1 e2
  refine ⟨fun _ => Tr.refl, fun _ z => z, .int (lo + i), ?_, .int _⟩
  rw [rngD_length] at hi'
  unfold rngD
  rw [List.getElem?_map, List.getElem?_range hi']
  rfl
theorem is_range1 {p0 : Pos} (hg : Gl X "range") (hm : X.mg "range" = none) (ha : PE X a (tE G fa)) (hs : starEach [a] X.env = [(false, eval a X.env)] := by rfl) : PI X tg (.Call (.Name "range" p0) [a] [] pos) (tIs G (fRgI (fRg1 fa))) :=
  piI (pi_range1 hg hm (pa_cons ha pa_nil hs) hs) fun σ H Rr ⟨W, env, p, r, p', hR, hf, k⟩ => by
    unfold fRgI fRg1 at hf
    cases q : fa env p with
    | none => rw [q] at hf; cases hf
    | some z =>
      obtain ⟨d, p1⟩ := z
      rw [q] at hf
      cases d <;> first | (cases hf; done) | skip
      rename_i j
      simp only at hf
      split at hf
      · rename_i hz
        simp only [Bool.and_eq_true, decide_eq_true_eq] at hz
        cases hf
        refine ⟨W, env, p, _, _, hR, q, fun W1 H1 v t R1 q1 => ?_⟩
        cases q1
        have io := io_range (G := G) (W := W1) (H := H1) (A := ownA G W1 env σ) 0 j
        rw [Int.sub_zero] at io
        exact ⟨j, rfl, hz.1.2, hz.2, k W1 H1 _ t R1 io⟩
      · cases hf
theorem is_range2 {p0 : Pos} (hg : Gl X "range") (hm : X.mg "range" = none) (ha : PE X a (tE G fa)) (hb : PE X b (tE G fb)) (hs : starEach [a, b] X.env = [(false, eval a X.env), (false, eval b X.env)] := by rfl) (hs2 : starEach [b] X.env = [(false, eval b X.env)] := by rfl)
    (hs3 : starEach [a, b] X.env = (false, eval a X.env) :: starEach [b] X.env := by rfl) : PI X tg (.Call (.Name "range" p0) [a, b] [] pos) (tIs G (fRgI (fRg2 fa fb))) :=
  piI (pi_range2 hg hm (pa_cons ha (pa_cons hb pa_nil hs2) hs3) hs hs2) fun σ H Rr ⟨W, env, p, r, p', hR, hf, k⟩ => by
    unfold fRgI fRg2 at hf
    cases q : fa env p with
    | none => rw [q] at hf; cases hf
    | some z =>
      obtain ⟨d, p1⟩ := z
      rw [q] at hf
      cases d <;> first | (cases hf; done) | skip
      rename_i i
      simp only at hf
      cases q2 : fb env p1 with
      | none => rw [q2] at hf; cases hf
      | some z =>
        obtain ⟨d, p2⟩ := z
        rw [q2] at hf
        cases d <;> first | (cases hf; done) | skip
        rename_i j
        simp only at hf
        split at hf
        · rename_i hz
          simp only [Bool.and_eq_true, decide_eq_true_eq] at hz
          cases hf
          refine ⟨W, env, p, _, _, hR, q, fun W1 H1 v t R1 q1 => ?_⟩
          cases q1
          refine ⟨W1, env, p1, _, _, R1, q2, fun W2 H2 v t2 R2 q2 => ?_⟩
          cases q2
          exact ⟨i, j, rfl, ⟨hz.1.1.1, hz.1.1.2, hz.1.2, hz.2⟩, k W2 H2 _ (t.then t2) R2 (io_range i j)⟩
        · cases hf

/-! ### targets -/
abbrev BF := D → Env → Option Env
/-- a target stores data in the slots ts -/
def tG (G : Gm) (bd : BF) (ts : List Nat) : TG := fun v σ H Q => ∃ W env p d env', R G W env p σ H ∧ Rep G W H v d ∧ bd d env = some env' ∧
  ∀ σ', R G W env' p σ' H → (∀ a, Own env' σ' a → Own env σ a) → σ'.length = σ.length → (∀ j, j ∉ ts → σ'[j]? = σ[j]?) → Q σ' H
def bN (i : Nat) : BF := fun d env => if i < env.length then some (env.set i (.sh d)) else none
theorem R.setSh (r : R G W env p σ H) {i : Nat} {v : V} {d : D} (hi : i < env.length) (h : Rep G W H v d) : R G W (env.set i (.sh d)) p (σ.set i (some v)) H ∧ ∀ a, Own (env.set i (.sh d)) (σ.set i (some v)) a → Own env σ a := by
  have hi2 : i < σ.length := by rw [← r.len]; exact hi
  have own : ∀ {j : Nat} {s : Slot} {a : Addr}, (env.set i (.sh d))[j]? = some s → s.isOwn = true → (σ.set i (some v))[j]? = some (some (.ref a)) → env[j]? = some s ∧ σ[j]? = some (some (.ref a)) := fun {j s a} e1 e2 e3 => by
    by_cases hj : i = j
    · subst hj
      rw [List.getElem?_set_self hi] at e1
      cases e1
      cases e2
    · rw [List.getElem?_set_ne hj] at e1 e3
      exact ⟨e1, e3⟩
  refine ⟨⟨by rw [List.length_set, List.length_set]; exact r.len, r.ok, fun j s e n => ?_, fun a ⟨j, s, e1, e2, e3⟩ => ?_, fun j k s t a e1 e2 e3 e4 e5 e6 => ?_⟩, fun a ⟨j, s, e1, e2, e3⟩ => ?_⟩
  · by_cases hj : i = j
    · subst hj
      rw [List.getElem?_set_self hi] at e
      cases e
      exact ⟨v, List.getElem?_set_self hi2, h⟩
    · rw [List.getElem?_set_ne hj] at e
      obtain ⟨u, e2, q⟩ := r.slot j s e n
      exact ⟨u, by rw [List.getElem?_set_ne hj]; exact e2, q⟩
  · obtain ⟨h1, h2⟩ := own e1 e2 e3
    exact r.own a ⟨j, s, h1, e2, h2⟩
  · obtain ⟨h1, h2⟩ := own e1 e2 e3
    obtain ⟨h3, h4⟩ := own e4 e5 e6
    exact r.dis j k s t a h1 e2 h2 h3 e5 h4
  · obtain ⟨h1, h2⟩ := own e1 e2 e3
    exact ⟨j, s, h1, e2, h2⟩
theorem g_name {i : Nat} (h : PG X e (gName i)) : PG X e (tG G (bN i) [i]) := pgI h fun v σ H Q ⟨W, env, p, d, env', hR, rv, hb, k⟩ => by
  unfold bN at hb
  split at hb
  · rename_i hi
    cases hb
    obtain ⟨h1, h2⟩ := hR.setSh hi rv
    exact k _ h1 h2 (by rw [List.length_set]) fun j hj => List.getElem?_set_ne (fun z => hj (by simp [z]))
  · cases hb
/-- several targets: bds the stores, one an item -/
def tGs (G : Gm) (bd : List D → Env → Option Env) (ts : List Nat) : TGs := fun vs σ H Q => ∃ W env p ds env', R G W env p σ H ∧ Reps G W H vs ds ∧ bd ds env = some env' ∧
  ∀ σ', R G W env' p σ' H → (∀ a, Own env' σ' a → Own env σ a) → σ'.length = σ.length → (∀ j, j ∉ ts → σ'[j]? = σ[j]?) → Q σ' H
def bNil : List D → Env → Option Env
  | [], env => some env
  | _, _ => none
def bCons (b : BF) (c : List D → Env → Option Env) : List D → Env → Option Env
  | d :: ds, env => (b d env).bind (c ds)
  | [], _ => none
theorem pgsI {es : List Expr} {t t' : TGs} (h : PGs X es t) (k : ∀ v σ H Q, t' v σ H Q → t v σ H Q) : PGs X es t' := ⟨fun pins s σ H v u Q I r q => h.run pins s σ H v u Q I r (k v σ H Q q)⟩
theorem gs_nil : PGs X [] (tGs G bNil []) := pgsI pgs_nil fun v σ H Q ⟨W, env, p, d, env', hR, rv, hb, k⟩ => by
  cases rv with
  | nil => cases hb; exact ⟨rfl, k σ hR (fun _ z => z) rfl fun _ _ => rfl⟩
  | cons _ _ => cases hb
theorem gs_cons {b : BF} {c : List D → Env → Option Env} {ts us : List Nat} (h1 : PG X e (tG G b ts)) (h2 : PGs X es (tGs G c us)) (hs : (assignEach (e :: es) X.env).map (·.2) = assign e X.env :: (assignEach es X.env).map (·.2) := by rfl) : PGs X (e :: es) (tGs G (bCons b c) (ts ++ us)) :=
  pgsI (pgs_cons h1 h2 hs) fun v σ H Q ⟨W, env, p, d, env', hR, rv, hb, k⟩ => by
    cases rv with
    | nil => cases hb
    | @cons v vs d ds r1 r2 =>
      have hb : (b d env).bind (c ds) = some env' := hb
      cases q : b d env with
      | none => rw [q] at hb; cases hb
      | some env1 =>
        rw [q] at hb
        exact ⟨v, vs, rfl, W, env, p, d, env1, hR, r1, q, fun σ1 R1 o1 l1 s1 => ⟨W, env1, p, ds, env', R1, r2, hb, fun σ2 R2 o2 l2 s2 =>
          k σ2 R2 (fun a z => o1 a (o2 a z)) (l2.trans l1) fun j hj => (s2 j fun z => hj (List.mem_append_right _ z)).trans (s1 j fun z => hj (List.mem_append_left _ z))⟩⟩
def bTup (n : Nat) (c : List D → Env → Option Env) : BF := fun d env => match d with
  | .tup ds => if ds.length = n then c ds env else none
  | _ => none
theorem g_tup {c : List D → Env → Option Env} {us : List Nat} {k n : Nat} (hc : X.calm = true) (h : PGs X es (tGs G c us)) (hn : (assignEach es X.env).length = n := by rfl) (hst : (assignEach es X.env).findIdx? (·.1) = none := by rfl) : PG X (.Tuple es k pos) (tG G (bTup n c) us) :=
  pgI (pg_tup hc h hn hst) fun v σ H Q ⟨W, env, p, d, env', hR, rv, hb, k⟩ => by
    unfold bTup at hb
    split at hb
    · split at hb
      · rename_i hz
        cases rv with
        | tup e r => exact ⟨_, _, rfl, SqT.of e, by rw [r.len]; exact hz, W, env, p, _, env', hR, r, hb, k⟩
      · cases hb
    · cases hb
end
end Cr
namespace Cr
open PySem L2
section
variable {X : Cx} {G : Gm} {W : Wd} {H : Hp} {env : Env} {σ : St} {p : PenSt} {r : D} {Q : VK} {e a b c tg : Expr} {f fa fb fc fe : FV D} {ft : FV Bool} {pos : Pos} {es : List Expr}
/-! ### comprehensions -/
def wipeE (env : Env) : List Nat → Env
  | [] => env
  | v :: vs => (wipeE env vs).set v .no
theorem wipeE_len (env : Env) : ∀ vs, (wipeE env vs).length = env.length
  | [] => rfl
  | v :: vs => by unfold wipeE; rw [List.length_set, wipeE_len env vs]
theorem wipeE_some {s : Slot} (hs : s ≠ .no) {i : Nat} : ∀ {vs : List Nat}, (wipeE env vs)[i]? = some s → env[i]? = some s ∧ i ∉ vs
  | [], h => ⟨h, by simp⟩
  | v :: vs, h => by
    unfold wipeE at h
    by_cases hi : v = i
    · subst hi
      by_cases hv : v < (wipeE env vs).length
      · rw [List.getElem?_set_self hv] at h
        cases h
        exact absurd rfl hs
      · rw [List.getElem?_eq_none (by simpa using hv)] at h
        cases h
    · rw [List.getElem?_set_ne hi] at h
      obtain ⟨h1, h2⟩ := wipeE_some hs h
      exact ⟨h1, by simp only [List.mem_cons, not_or]; exact ⟨fun e => hi e.symm, h2⟩⟩
theorem wipe_get {i : Nat} : ∀ {vs : List Nat}, i ∉ vs → (wipe σ vs)[i]? = σ[i]?
  | [], _ => rfl
  | v :: vs, h => by
    simp only [List.mem_cons, not_or] at h
    unfold wipe
    rw [List.getElem?_set_ne (fun e => h.1 e.symm)]
    exact wipe_get h.2
theorem R.wipe (r : R G W env p σ H) (vs : List Nat) : R G W (wipeE env vs) p (wipe σ vs) H := by
  have own : ∀ {j : Nat} {s : Slot} {x : Option (Option V)}, (wipeE env vs)[j]? = some s → s.isOwn = true → (L2.wipe σ vs)[j]? = x → env[j]? = some s ∧ σ[j]? = x := fun {j s x} e1 e2 e3 => by
    obtain ⟨h1, h2⟩ := wipeE_some (by rintro rfl; cases e2) e1
    rw [wipe_get h2] at e3
    exact ⟨h1, e3⟩
  refine ⟨by rw [wipeE_len, wipe_length]; exact r.len, r.ok, fun i s e n => ?_, fun a ⟨i, s, e1, e2, e3⟩ => ?_, fun i j s t a e1 e2 e3 e4 e5 e6 => ?_⟩
  · obtain ⟨h1, h2⟩ := wipeE_some n e
    rw [wipe_get h2]
    exact r.slot i s h1 n
  · obtain ⟨h1, h2⟩ := own e1 e2 e3
    exact r.own a ⟨i, s, h1, e2, h2⟩
  · obtain ⟨h1, h2⟩ := own e1 e2 e3
    obtain ⟨h3, h4⟩ := own e4 e5 e6
    exact r.dis i j s t a h1 e2 h2 h3 e5 h4
theorem wipe_eq {σ2 : St} {ts : List Nat} : ∀ {vs : List Nat}, (∀ j ∈ ts, j ∈ vs) → σ2.length = (wipe σ vs).length → (∀ j, j ∉ ts → σ2[j]? = (wipe σ vs)[j]?) → wipe σ2 vs = wipe σ vs := fun {vs} h hl hj => by
  apply List.ext_getElem?
  intro j
  by_cases hv : j ∈ vs
  · have none_at : ∀ {τ : St} {us : List Nat}, j ∈ us → j < τ.length → (wipe τ us)[j]? = some none := fun {τ us} hm hlt => by
      induction us with
      | nil => cases hm
      | cons u us ih =>
        unfold wipe
        by_cases hu : u = j
        · subst hu
          rw [List.getElem?_set_self (by rw [wipe_length]; exact hlt)]
        · rw [List.getElem?_set_ne hu]
          exact ih ((List.mem_cons.mp hm).elim (fun z => absurd z.symm hu) id)
    have l2 : σ2.length = σ.length := by rw [hl, wipe_length]
    by_cases hlt : j < σ.length
    · rw [none_at hv hlt, none_at hv (by rw [l2]; exact hlt)]
    · rw [List.getElem?_eq_none (by rw [wipe_length]; omega), List.getElem?_eq_none (by rw [wipe_length]; omega)]
  · rw [wipe_get hv, hj j fun z => hv (h j z), wipe_get hv]
def tfYes : FV Bool := fun _ p => some (true, p)
theorem ts_nil : PTs X [] (tT G tfYes) := ptsI pts_nil fun σ H Q ⟨W, env, p, r, p', hR, hf, k⟩ => by
  cases hf
  exact k W H Tr.refl hR
theorem ts_one (h : PT X c (tT G ft)) : PTs X [c] (tT G ft) := pts_one h
def compL (bd : BF) (ft : FV Bool) (fe : FV D) (env : Env) : List D → PenSt → Option (List D × PenSt)
  | [], p => some ([], p)
  | d :: ds, p => match bd d env with
    | none => none
    | some env1 => match ft env1 p with
      | none => none
      | some (true, p) => (match fe env1 p with
        | none => none
        | some (r, p) => (compL bd ft fe env ds p).map fun z => (r :: z.1, z.2))
      | some (false, p) => compL bd ft fe env ds p
def fComp (vs : List Nat) (fi : FV (List D)) (bd : BF) (ft : FV Bool) (fe : FV D) : FV D := fun env p => match fi env p with
  | none => none
  | some (ds, p) => match compL bd ft fe (wipeE env vs) ds p with
    | none => none
    | some (rs, p) => if rs.length ≤ 16777216 then some (.lst rs, p) else none
theorem comp_core {wi : TI} {ts vs : List Nat} {fi : FV (List D)} {bd : BF} {Qf : VK} (hts : ∀ j ∈ ts, j ∈ vs)
    (h : ∃ W env p r p', R G W env p σ H ∧ fComp vs fi bd ft fe env p = some (r, p') ∧ PostV G W env σ H p' (NewP G H r) Qf) : tLc (tI G fi) (tG G bd ts) (tT G ft) (tE G fe) vs σ H Qf := by
  obtain ⟨W, env, p, r, p', hR, hf, k⟩ := h
  unfold fComp at hf
  cases h1 : fi env p with
  | none => rw [h1] at hf; cases hf
  | some z =>
    obtain ⟨ds, p1⟩ := z
    rw [h1] at hf
    simp only at hf
    cases h2 : compL bd ft fe (wipeE env vs) ds p1 with
    | none => rw [h2] at hf; cases hf
    | some z =>
      obtain ⟨rs, p2⟩ := z
      rw [h2] at hf
      simp only at hf
      split at hf
      · rename_i hz
        cases hf
        refine ⟨W, env, p, ds, p1, hR, h1, fun W1 H1 J t1 R1 io => fun D hD => ?_⟩
        have RW := R1.wipe vs
        have kD : ∀ {Wd : Wd} {Hc Hd : Hp}, Tr (penA G W1) W1 H1 Wd Hc → (∀ b, b ≠ D → Hd b = Hc b) → Hd D ≠ none → Tr (penA G W1) W1 H1 Wd Hd := fun {Wd Hc Hd} t e n =>
          ⟨fun x o hx nt ex => by rw [e x (fun z => by rw [z, hD] at ex; cases ex)]; exact t.kp x o hx nt ex, fun x ex => by
            by_cases z : x = D
            · rw [z]; exact n
            · rw [e x z]; exact t.tk x ex, t.pe, t.re, t.rn, t.sub, t.nw⟩
        have pD : ¬ penA G W1 D := R1.ok.pen_ne hD
        refine ⟨fun i m H => m = ds.length - i ∧ i ≤ ds.length ∧ ∃ Wd pc accV acc rest, Tr (penA G W1) W1 H1 Wd H ∧ WOk G Wd pc H ∧ (¬ Wd.S D ∧ ¬ penA G Wd D) ∧ H D = some (.lst accV) ∧ Reps G Wd H accV acc ∧ compL bd ft fe (wipeE env vs) (ds.drop i) pc = some (rest, p') ∧ acc ++ rest = rs, ⟨ds.length, by simp, Nat.zero_le _, W1, p1, [], [], rs, Tr.new hD, R1.ok.upd hD, ⟨fun z => R1.ok.trk D z hD, pD⟩, upd_same, .nil, by rw [List.drop_zero]; exact h2, rfl⟩, ?_⟩
        rintro i m H2 ⟨rfl, hi, Wd, pc, accV, acc, rest, td, wd, hS, hDv, rD, hc, ha⟩
        have io2 := io Wd H2 td
        by_cases hlt : i < ds.length
        · refine .inr ⟨io2.1 i hlt, fun H3 => i + 1 ≤ ds.length ∧ ∃ Wd pc accV acc rest, Tr (penA G W1) W1 H1 Wd H3 ∧ WOk G Wd pc H3 ∧ (¬ Wd.S D ∧ ¬ penA G Wd D) ∧ H3 D = some (.lst accV) ∧ Reps G Wd H3 accV acc ∧ compL bd ft fe (wipeE env vs) (ds.drop (i + 1)) pc = some (rest, p') ∧ acc ++ rest = rs,
            fun H3 q => ⟨_, Nat.sub_lt_sub_left (by omega) (Nat.lt_succ_self i), rfl, q.1, q.2⟩, fun x H3 hy => ?_⟩
          obtain ⟨y1, y2, d, hd, rd⟩ := io2.2.2 i x H3 hlt hy
          have t3 : Tr (penA G W1) W1 H1 Wd H3 := td.trans (y1 (penA G Wd)) td.pa
          have w3 := y2 pc wd
          have R3 : R G Wd (wipeE env vs) pc (wipe σ vs) H3 := RW.step t3 w3
          have y1' := y1 fun _ => False
          have d3 : H3 D = some (.lst accV) := y1'.kp D _ (fun z => z) (fun _ z => by cases z) hDv
          have rD3 : Reps G Wd H3 accV acc := rD.tr y1' fun _ z => z.elim
          have hdrop : ds.drop i = d :: ds.drop (i + 1) := by
            rw [List.drop_eq_getElem_cons hlt]
            congr 1
            rw [List.getElem?_eq_getElem hlt] at hd
            exact Option.some.inj hd
          rw [hdrop] at hc
          unfold compL at hc
          cases hb : bd d (wipeE env vs) with
          | none => rw [hb] at hc; cases hc
          | some env1 =>
            rw [hb] at hc
            simp only at hc
            refine ⟨Wd, wipeE env vs, pc, d, env1, R3, rd, hb, fun σ2 R4 o4 l4 s4 => ⟨wipe_eq hts l4 s4, ?_⟩⟩
            cases htt : ft env1 pc with
            | none => rw [htt] at hc; cases hc
            | some z =>
              obtain ⟨bb, pt⟩ := z
              rw [htt] at hc
              refine ⟨Wd, env1, pc, bb, pt, R4, htt, fun W5 H5 t5 R5 => ?_⟩
              have keep : ∀ {Wa Wb : Cr.Wd} {Ha Hb : Hp} {av : List V}, Tr (penA G Wa) Wa Ha Wb Hb → (¬ Wa.S D ∧ ¬ penA G Wa D) → Ha D = some (.lst av) → (¬ Wb.S D ∧ ¬ penA G Wb D) ∧ Hb D = some (.lst av) := fun {Wa Wb Ha Hb av} t n e =>
                ⟨⟨fun z => (t.nw D z).elim n.1 fun z => z.elim (fun z => by rw [e] at z; cases z) n.2, fun z => (t.pa D z).elim n.2 fun z => by rw [e] at z; cases z⟩, t.kp D _ n.2 (fun _ z => by cases z) e⟩
              have t5' : Tr (penA G W1) W1 H1 W5 H5 := t3.trans t5 td.pa
              obtain ⟨n5, d5⟩ := keep t5 hS d3
              have rD5 := rD3.te t5 R4.ok
              cases bb with
              | false =>
                refine iteF ?_
                exact ⟨by omega, W5, pt, accV, acc, rest, t5', R5.ok, n5, d5, rD5, hc, ha⟩
              | true =>
                refine iteT ?_
                simp only at hc
                cases hfe : fe env1 pt with
                | none => rw [hfe] at hc; cases hc
                | some z =>
                  obtain ⟨rr, pe⟩ := z
                  rw [hfe] at hc
                  simp only at hc
                  cases hcl : compL bd ft fe (wipeE env vs) (ds.drop (i + 1)) pe with
                  | none => rw [hcl] at hc; cases hc
                  | some z =>
                    obtain ⟨rest', p''⟩ := z
                    rw [hcl] at hc
                    cases hc
                    refine ⟨W5, env1, pt, rr, pe, R5, hfe, fun W6 H6 v t6 R6 q6 => ?_⟩
                    have t6' : Tr (penA G W1) W1 H1 W6 H6 := t5'.trans t6 t5'.pa
                    obtain ⟨n6, d6⟩ := keep t6 n5 d5
                    have rD6 := rD5.te t6 R5.ok
                    have hlen : acc.length < rs.length := by
                      rw [← ha, List.length_append, List.length_cons]
                      omega
                    refine ⟨accV, d6, by rw [sizeLine_eq, rD6.len]; omega, by omega, W6, pe, accV ++ [v], acc ++ [rr], rest', ?_, ?_, n6, upd_same, ?_, hcl, by rw [List.append_assoc]; exact ha⟩
                    · exact kD t6' (fun b hb => upd_ne hb) (by rw [upd_same]; exact fun z => by cases z)
                    · exact R6.ok.atX n6 (noTb_lst d6)
                    · have tD : Tr (fun x => x = D) W6 H6 W6 (upd H6 D (.lst (accV ++ [v]))) := ⟨fun x o hx _ ex => by rw [upd_ne hx]; exact ex, fun x ex => by
                        by_cases z : x = D
                        · rw [z, upd_same]; exact fun z => by cases z
                        · rw [upd_ne z]; exact ex, rfl, fun _ _ z => z, fun _ z => .inl z, fun _ z => z, fun _ z => .inl z⟩
                      have okD : ∀ a, a = D → ¬ W6.S a ∧ ∃ o, H6 a = some o ∧ ∀ xs, o ≠ .tup xs := fun a z => by subst z; exact ⟨n6.1, _, d6, fun _ z => by cases z⟩
                      exact (rD6.tr tD okD).app (.cons (q6.tr tD okD) .nil)
        · have e : i = ds.length := by omega
          subst e
          rw [List.drop_length] at hc
          cases hc
          rw [List.append_nil] at ha
          subst ha
          have hD0 : H D = none := Classical.byContradiction fun n => t1.tk D n hD
          refine .inl ⟨io2.2.1, ?_⟩
          exact k Wd H2 _ (t1.then td) (R1.step td wd) ⟨⟨D, accV, rfl, hDv, rD⟩, fun _ => ⟨D, rfl, hD0, hS.1, hS.2⟩⟩
      · cases hf
theorem n_lc {iter elt : Expr} {ifs : List Expr} {scope : Scope} {own : List (Str × Nat)} {ts : List Nat} {fi : FV (List D)} {bd : BF} (hc : X.calm = true) (hN : X.N.Nodup) (hts : ∀ j ∈ ts, j ∈ own.map (·.2)) (hi : PI X tg iter (tI G fi)) (ok : BlkOk X.N X.env.scope scope own)
    (hg : ∀ (s : Shared) (H : Hp) (C : Addr) (cl : List (Str × Addr)) (fp : List Addr), PG (X.blk s H scope (compEnvC scope cl C X.env) fp) tg (tG G bd ts)) (ht : ∀ (s : Shared) (H : Hp) (C : Addr) (cl : List (Str × Addr)) (fp : List Addr), PTs (X.blk s H scope (compEnvC scope cl C X.env) fp) ifs (tT G ft))
    (he : ∀ (s : Shared) (H : Hp) (C : Addr) (cl : List (Str × Addr)) (fp : List Addr), PE (X.blk s H scope (compEnvC scope cl C X.env) fp) elt (tE G fe)) (hs : ∀ x, foldedSetIterable iter X.env x = pure x := by intro _; rfl) :
    PE X (.ListComp elt [⟨tg, iter, ifs, 0⟩] scope pos) (tN G (fComp (own.map (·.2)) fi bd ft fe)) :=
  peI (pe_lc hc hN hi ok hg ht he hs) fun σ H Q ⟨W, env, p, r, p', hR, hf, k⟩ => comp_core (wi := tI G fi) hts ⟨W, env, p, r, p', hR, hf, k⟩
end
end Cr
namespace Cr
open PySem L2
/-! ### statements -/
inductive Out where
  | nx (env : Env) (p : PenSt) | rt (d : D) (p : PenSt) | bk (env : Env) (p : PenSt) | ct (env : Env) (p : PenSt)
abbrev FS := Env → PenSt → Option Out
def NxOk (G : Gm) (W : Wd) (env : Env) (σ : St) (H : Hp) (e : Env) (p : PenSt) (K : St → Hp → Prop) : Prop :=
  ∀ W' σ' H', Tr (ownA G W env σ) W H W' H' → R G W' e p σ' H' → (∀ a, Own e σ' a → Own env σ a ∨ H a = none) → K σ' H'
def OutOk (G : Gm) (W : Wd) (env : Env) (σ : St) (H : Hp) (Dn : Ends) : Out → Prop
  | .nx e p => NxOk G W env σ H e p Dn.nx
  | .bk e p => NxOk G W env σ H e p Dn.bk
  | .ct e p => NxOk G W env σ H e p Dn.ct
  | .rt d p => ∀ W' H' v, Tr (ownA G W env σ) W H W' H' → WOk G W' p H' → Rep G W' H' v d → Dn.rt v H'
def tS (G : Gm) (g : FS) : TS := fun Dn σ H => ∃ W env p o, R G W env p σ H ∧ g env p = some o ∧ OutOk G W env σ H Dn o
section
variable {X : Cx} {G : Gm} {W W1 : Wd} {H H1 : Hp} {env env1 : Env} {σ σ1 : St} {p p1 : PenSt} {r : D} {Q : VK} {e a b c tg : Expr} {f fa fb fc fe : FV D} {ft : FV Bool} {fx : FV Slot} {pos : Pos} {es : List Expr} {st : Stmt} {rest sts : List Stmt} {g g1 g2 : FS} {Dn : Ends} {o : Out}
theorem NxOk.after {e : Env} {K : St → Hp → Prop} (h : NxOk G W env σ H e p K) (t : Tr (ownA G W env σ) W H W1 H1) (ho : ∀ a, Own env1 σ1 a → Own env σ a ∨ H a = none) : NxOk G W1 env1 σ1 H1 e p K := fun W' σ' H' t' R' o' =>
  h W' σ' H' (t.trans t' fun x z => z.elim (fun z => (t.pa x z).imp_left .inl) fun z => (ho x z).imp_left .inr) R' fun a z => (o' a z).elim (ho a) fun z => .inr (Classical.byContradiction fun n => t.tk a n z)
theorem OutOk.after (h : OutOk G W env σ H Dn o) (t : Tr (ownA G W env σ) W H W1 H1) (ho : ∀ a, Own env1 σ1 a → Own env σ a ∨ H a = none) : OutOk G W1 env1 σ1 H1 Dn o := by
  cases o with
  | nx e p => exact NxOk.after h t ho
  | bk e p => exact NxOk.after h t ho
  | ct e p => exact NxOk.after h t ho
  | rt d p => exact fun W' H' v t' w' q => h W' H' v (t.trans t' fun x z => z.elim (fun z => (t.pa x z).imp_left .inl) fun z => (ho x z).imp_left .inr) w' q
/-- behind an expression -/
theorem OutOk.afterE (h : OutOk G W env σ H Dn o) (t : Tr (penA G W) W H W1 H1) : OutOk G W1 env σ H1 Dn o := h.after (t.mono fun a z => .inl z) fun a z => .inl z
def sNil : FS := fun env p => some (.nx env p)
def sSeq (f g : FS) : FS := fun env p => match f env p with
  | some (.nx e p) => g e p
  | x => x
def sBad : FS := fun _ _ => none
def sRet (f : FV D) : FS := fun env p => (f env p).map fun z => .rt z.1 z.2
def sExpr (f : FV D) : FS := fun env p => (f env p).map fun z => .nx env z.2
def sIf (t : FV Bool) (f g : FS) : FS := fun env p => match t env p with
  | some (true, p) => f env p
  | some (false, p) => g env p
  | none => none
theorem s_bad : PS X st (tS G sBad) := psI ps_never fun D σ H ⟨W, env, p, o, _, hf, _⟩ => by cases hf
theorem ss_bad : PSs X sts (tS G sBad) := pssI pss_never fun D σ H ⟨W, env, p, o, _, hf, _⟩ => by cases hf
theorem ss_nil : PSs X [] (tS G sNil) := pssI pss_nil fun D σ H ⟨W, env, p, o, hR, hf, k⟩ => by
  cases hf
  exact k W σ H Tr.refl hR fun a z => .inl z
theorem s_pass : PS X (.Pass pos) (tS G sNil) := psI ps_pass fun D σ H ⟨W, env, p, o, hR, hf, k⟩ => by
  cases hf
  exact k W σ H Tr.refl hR fun a z => .inl z
def sBreak : FS := fun env p => some (.bk env p)
def sCont : FS := fun env p => some (.ct env p)
theorem s_break : PS X (.Break pos) (tS G sBreak) := psI ps_break fun D σ H ⟨W, env, p, o, hR, hf, k⟩ => by
  cases hf
  exact k W σ H Tr.refl hR fun a z => .inl z
theorem s_cont : PS X (.Continue pos) (tS G sCont) := psI ps_continue fun D σ H ⟨W, env, p, o, hR, hf, k⟩ => by
  cases hf
  exact k W σ H Tr.refl hR fun a z => .inl z
theorem seq_ok (h : tS G (sSeq g1 g2) Dn σ H) : tS G g1 { Dn with nx := tS G g2 Dn } σ H := by
  obtain ⟨W, env, p, o, hR, hf, k⟩ := h
  unfold sSeq at hf
  split at hf
  · rename_i e1 p1 q
    exact ⟨W, env, p, _, hR, q, fun W' σ' H' t R' ho => ⟨W', e1, p1, o, R', hf, OutOk.after k t ho⟩⟩
  · rename_i q
    cases o with
    | nx e1 p1 => exact absurd hf (q e1 p1)
    | bk e1 p1 => exact ⟨W, env, p, _, hR, hf, k⟩
    | ct e1 p1 => exact ⟨W, env, p, _, hR, hf, k⟩
    | rt d p1 => exact ⟨W, env, p, _, hR, hf, k⟩
theorem ss_cons (h1 : PS X st (tS G g1)) (h2 : PSs X rest (tS G g2)) : PSs X (st :: rest) (tS G (sSeq g1 g2)) := pssI (pss_cons h1 h2) fun _ _ _ h => seq_ok h
theorem ss_one (h1 : PS X st (tS G g1)) : PSs X [st] (tS G g1) := pss_one h1
theorem s_ret (ha : PE X a (tE G fa)) : PS X (.Return (some a) pos) (tS G (sRet fa)) := psI (ps_ret ha) fun D σ H ⟨W, env, p, o, hR, hf, k⟩ => by
  unfold sRet at hf
  cases q : fa env p with
  | none => rw [q] at hf; cases hf
  | some z =>
    obtain ⟨d, p1⟩ := z
    rw [q] at hf
    cases hf
    exact ⟨W, env, p, d, p1, hR, q, fun W1 H1 v t R1 rv => k W1 H1 v (t.mono fun a z => .inl z) R1.ok rv⟩
theorem s_retN : PS X (.Return none pos) (tS G (sRet (fC .non))) := psI ps_retN fun D σ H ⟨W, env, p, o, hR, hf, k⟩ => by
  cases hf
  exact k W H _ Tr.refl hR.ok .non
/-- return x, x a list of the frame's own -/
theorem s_retB (ha : PE X a (tB G fa)) : PS X (.Return (some a) pos) (tS G (sRet fa)) := psI (ps_ret ha) fun D σ H ⟨W, env, p, o, hR, hf, k⟩ => by
  unfold sRet at hf
  cases q : fa env p with
  | none => rw [q] at hf; cases hf
  | some z =>
    obtain ⟨d, p1⟩ := z
    rw [q] at hf
    cases hf
    refine ⟨W, env, p, d, p1, hR, q, fun W1 H1 v t R1 rv => ?_⟩
    have fin : ∀ x u, Own env σ x → H1 x = some u → Tr (ownA G W env σ) W H (W1.add x) H1 ∧ WOk G (W1.add x) p1 H1 := fun x u hx e =>
      ⟨⟨fun b w hb nt e => t.kp b w (fun z => hb (.inl z)) nt e, t.tk, t.pe, t.re, t.rn, fun b s => .inl (t.sub b s), fun b s => s.elim (fun z => (t.nw b z).imp_right fun z => z.imp_right .inl) fun z => .inr (.inr (.inr (z ▸ hx)))⟩,
        R1.ok.add (R1.own x hx).2 (by rw [e]; exact fun z => by cases z)⟩
    rcases rv with rv | ⟨x, xs, ds, rfl, rfl, hx, e, rr⟩ | ⟨x, xs, ds, rfl, rfl, hx, e, n, rr⟩
    · exact k W1 H1 v (t.mono fun a z => .inl z) R1.ok rv
    · obtain ⟨t2, w2⟩ := fin x _ hx e
      exact k _ H1 _ t2 w2 (.lst (.inr rfl) e rr.add)
    · obtain ⟨t2, w2⟩ := fin x _ hx e
      exact k _ H1 _ t2 w2 (.dct (.inr rfl) e n rr.add)
theorem s_expr (ha : PE X a (tE G fa)) (hs : swapsWith a none pos.line X.env = pure false := by rfl) : PS X (.Expr a pos) (tS G (sExpr fa)) := psI (ps_expr ha hs) fun D σ H ⟨W, env, p, o, hR, hf, k⟩ => by
  unfold sExpr at hf
  cases q : fa env p with
  | none => rw [q] at hf; cases hf
  | some z =>
    obtain ⟨d, p1⟩ := z
    rw [q] at hf
    cases hf
    exact ⟨W, env, p, d, p1, hR, q, fun W1 H1 v t R1 rv => k W1 σ H1 (t.mono fun a z => .inl z) R1 fun a z => .inl z⟩
theorem s_doc {x j pos'} : PS X (.Expr (.Constant (.str x) j pos) pos') (tS G sNil) := psI ps_doc fun D σ H ⟨W, env, p, o, hR, hf, k⟩ => by
  cases hf
  exact k W σ H Tr.refl hR fun a z => .inl z
theorem s_if {A B : List Stmt} (hc : PT X c (tT G ft)) (ha : PSs X A (tS G g1)) (hb : PSs X B (tS G g2)) : PS X (.If c A B pos) (tS G (sIf ft g1 g2)) := psI (ps_if hc ha hb) fun D σ H ⟨W, env, p, o, hR, hf, k⟩ => by
  unfold sIf at hf
  split at hf
  · rename_i p1 q
    exact ⟨W, env, p, true, p1, hR, q, fun W1 H1 t R1 => iteT ⟨W1, env, p1, o, R1, hf, OutOk.afterE k t⟩⟩
  · rename_i p1 q
    exact ⟨W, env, p, false, p1, hR, q, fun W1 H1 t R1 => iteF ⟨W1, env, p1, o, R1, hf, OutOk.afterE k t⟩⟩
  · cases hf

/-! ### stores -/
theorem R.setX (r : R G W env p σ H) {i : Nat} {v : V} {s : Slot} (hi : i < env.length) (h : SlotOk G W H v s) (hf : s.isOwn = true → ∃ a, v = .ref a ∧ ¬ W.S a ∧ ¬ penA G W a ∧ ¬ Own env σ a) :
    R G W (env.set i s) p (σ.set i (some v)) H ∧ ∀ a, Own (env.set i s) (σ.set i (some v)) a → Own env σ a ∨ (s.isOwn = true ∧ v = .ref a) := by
  have hi2 : i < σ.length := by rw [← r.len]; exact hi
  have own : ∀ {j : Nat} {t : Slot} {a : Addr}, (env.set i s)[j]? = some t → t.isOwn = true → (σ.set i (some v))[j]? = some (some (.ref a)) → (j = i ∧ t = s ∧ v = .ref a) ∨ (j ≠ i ∧ env[j]? = some t ∧ σ[j]? = some (some (.ref a))) := fun {j t a} e1 e2 e3 => by
    by_cases hj : i = j
    · subst hj
      rw [List.getElem?_set_self hi] at e1
      rw [List.getElem?_set_self hi2] at e3
      cases e1
      cases e3
      exact .inl ⟨rfl, rfl, rfl⟩
    · rw [List.getElem?_set_ne hj] at e1 e3
      exact .inr ⟨Ne.symm hj, e1, e3⟩
  refine ⟨⟨by rw [List.length_set, List.length_set]; exact r.len, r.ok, fun j t e n => ?_, fun a ⟨j, t, e1, e2, e3⟩ => ?_, fun j k t u a e1 e2 e3 e4 e5 e6 => ?_⟩, fun a ⟨j, t, e1, e2, e3⟩ => ?_⟩
  · by_cases hj : i = j
    · subst hj
      rw [List.getElem?_set_self hi] at e
      cases e
      exact ⟨v, List.getElem?_set_self hi2, h⟩
    · rw [List.getElem?_set_ne hj] at e
      obtain ⟨u, e2, q⟩ := r.slot j t e n
      exact ⟨u, by rw [List.getElem?_set_ne hj]; exact e2, q⟩
  · rcases own e1 e2 e3 with ⟨_, h1, h2⟩ | ⟨_, h1, h2⟩
    · subst h1
      obtain ⟨b, eb, k1, k2, _⟩ := hf e2
      rw [h2] at eb
      cases eb
      exact ⟨k1, k2⟩
    · exact r.own a ⟨j, t, h1, e2, h2⟩
  · rcases own e1 e2 e3 with ⟨j1, h1, h2⟩ | ⟨j1, h1, h2⟩
    · rcases own e4 e5 e6 with ⟨j2, h3, h4⟩ | ⟨j2, h3, h4⟩
      · exact j1.trans j2.symm
      · subst h1
        obtain ⟨b, eb, _, _, k3⟩ := hf e2
        rw [h2] at eb
        cases eb
        exact absurd ⟨k, u, h3, e5, h4⟩ k3
    · rcases own e4 e5 e6 with ⟨j2, h3, h4⟩ | ⟨j2, h3, h4⟩
      · subst h3
        obtain ⟨b, eb, _, _, k3⟩ := hf e5
        rw [h4] at eb
        cases eb
        exact absurd ⟨j, t, h1, e2, h2⟩ k3
      · exact r.dis j k t u a h1 e2 h2 h3 e5 h4
  · rcases own e1 e2 e3 with ⟨_, h1, h2⟩ | ⟨_, h1, h2⟩
    · subst h1
      exact .inr ⟨e2, h2⟩
    · exact .inl ⟨j, t, h1, e2, h2⟩
/-- a new thing, as R.setX wants it -/
theorem Fresh.own {v : V} {s : Slot} (h : Fresh G W1 H s v) (r : R G W env p σ H) : s.isOwn = true → ∃ a, v = .ref a ∧ ¬ W1.S a ∧ ¬ penA G W1 a ∧ ¬ Own env σ a := fun z => by
  obtain ⟨a, e, h0, h1, h2⟩ := h z
  refine ⟨a, e, h1, h2, fun o => ?_⟩
  obtain ⟨o', e', _⟩ := r.own_obj o
  rw [h0] at e'
  cases e'
def sSet (i : Nat) (fx : FV Slot) : FS := fun env p => match fx env p with
  | some (s, p) => if i < env.length then some (.nx (env.set i s) p) else none
  | none => none
theorem s_asgX {i : Nat} {t : TS} (h : PS X st t) (k : ∀ D σ H, tAsg (tX G fx) (gName i) D σ H → t D σ H) : PS X st (tS G (sSet i fx)) := psI h fun D σ H ⟨W, env, p, o, hR, hf, kk⟩ => k D σ H (by
  unfold sSet at hf
  split at hf
  · rename_i s p1 q
    split at hf
    · rename_i hi
      cases hf
      refine ⟨W, env, p, s, p1, hR, q, fun W1 H1 v t1 R1 ⟨so, fr⟩ => ?_⟩
      obtain ⟨h1, h2⟩ := R1.setX hi so (fr.own hR)
      refine kk W1 _ H1 (t1.mono fun a z => .inl z) h1 fun a z => (h2 a z).imp id fun ⟨z1, z2⟩ => ?_
      obtain ⟨b, eb, h0, _⟩ := fr z1
      rw [z2] at eb
      cases eb
      exact h0
    · cases hf
  · cases hf)
theorem s_set {i : Nat} {x : Str} {pos' : Pos} (hN : X.N.Nodup) (hi : X.N[i]? = some x) (hx : Loc X.env.scope x) (he : PE X e (tX G fx)) (hs : swapsWith e (some (.Name x pos')) pos.line X.env = pure false := by rfl) (hf : X.fn x = true ∨ X.env.scope.names.lookup x = some .local := by first | exact .inl rfl | exact .inr rfl | assumption) :
    PS X (.Assign [.Name x pos'] e pos) (tS G (sSet i fx)) := s_asgX (ps_set hN hi hx he hs hf) fun _ _ _ h => h
/-- name = [..] where the comprehension is on the name's line -/
theorem s_setLc {i : Nat} {y : Str} {py : Pos} {elt iter : Expr} {ifs : List Expr} {scope : Scope} {own : List (Str × Nat)} {ts : List Nat} {spos : Pos} {fi : FV (List D)} {bd : BF} (hc : X.calm = true) (hN : X.N.Nodup) (hy : X.N[i]? = some y) (hyl : X.env.scope.names.lookup y = some .local)
    (hsw : swapsWith (.ListComp elt [⟨tg, iter, ifs, 0⟩] scope pos) (some (.Name y py)) spos.line X.env = pure true) (hts : ∀ j ∈ ts, j ∈ own.map (·.2)) (hi : PI X tg iter (tI G fi)) (ok : BlkOk X.N X.env.scope scope own)
    (hg : ∀ (s : Shared) (H : Hp) (C : Addr) (cl : List (Str × Addr)) (fp : List Addr), PG (X.blk s H scope (compEnvC scope cl C X.env) fp) tg (tG G bd ts)) (ht : ∀ (s : Shared) (H : Hp) (C : Addr) (cl : List (Str × Addr)) (fp : List Addr), PTs (X.blk s H scope (compEnvC scope cl C X.env) fp) ifs (tT G ft))
    (he : ∀ (s : Shared) (H : Hp) (C : Addr) (cl : List (Str × Addr)) (fp : List Addr), PE (X.blk s H scope (compEnvC scope cl C X.env) fp) elt (tE G fe)) (hs : ∀ x, foldedSetIterable iter X.env x = pure x := by intro _; rfl) :
    PS X (.Assign [.Name y py] (.ListComp elt [⟨tg, iter, ifs, 0⟩] scope pos) spos) (tS G (sSet i (fX (fComp (own.map (·.2)) fi bd ft fe)))) :=
  s_asgX (ps_setLc hc hN hy hyl hsw hi ok hg ht he hs) fun D σ H ⟨W, env, p, s, p', hR, hf, k⟩ => by
    unfold fX at hf
    cases q : fComp (own.map (·.2)) fi bd ft fe env p with
    | none => rw [q] at hf; cases hf
    | some z =>
      obtain ⟨d, p1⟩ := z
      rw [q] at hf
      cases hf
      exact comp_core (wi := tI G fi) hts ⟨W, env, p, d, _, hR, q, k⟩
/-- a, b = e, f -/
def sPar (i j : Nat) (fx fy : FV Slot) : FS := fun env p => match fx env p with
  | some (s, p) => (match fy env p with
    | some (t, p) => if i < env.length ∧ j < env.length then some (.nx ((env.set i s).set j t) p) else none
    | none => none)
  | none => none
theorem SlotOk.keep {v : V} {s : Slot} (h : SlotOk G W H v s) (t : Tr (penA G W) W H W1 H1) (r : WOk G W p H) (hn : s.isOwn = true → ∃ a, v = .ref a ∧ ¬ penA G W a) : SlotOk G W1 H1 v s := h.te t r fun a ea ho => by
  obtain ⟨b, eb, n⟩ := hn ho
  rw [ea] at eb
  cases eb
  exact n
theorem par_ok {i j : Nat} {fy : FV Slot} (hij : i ≠ j) (h : tS G (sPar i j fx fy) Dn σ H) : tPar i j (tCons (tX G fx) (tCons (tX G fy) tNil)) Dn σ H := by
  obtain ⟨W, env, p, o, hR, hf, kk⟩ := h
  unfold sPar at hf
  split at hf
  · rename_i s p1 q
    split at hf
    · rename_i t p2 q2
      split at hf
      · rename_i hi
        cases hf
        refine ⟨W, env, p, s, p1, hR, q, fun W1 H1 v t1 R1 ⟨so, fr⟩ => ⟨W1, env, p1, t, p2, R1, q2, fun W2 H2 u t2 R2 ⟨so2, fr2⟩ => ⟨v, u, rfl, ?_⟩⟩⟩
        have frS : s.isOwn = true → ∃ a, v = .ref a ∧ ¬ W2.S a ∧ ¬ penA G W2 a ∧ ¬ Own env σ a := fun z => by
          obtain ⟨a, e, h0, h1, h2⟩ := fr z
          obtain ⟨_, _, _, _, h3⟩ := fr.own hR z
          have ta : H1 a ≠ none := by
            cases s with
            | no => cases z
            | sh d => cases z
            | ow d => obtain ⟨b, xs, eb, hb, _⟩ := so; rw [e] at eb; cases eb; rw [hb]; exact fun z => by cases z
            | od d => obtain ⟨b, xs, eb, hb, _⟩ := so; rw [e] at eb; cases eb; rw [hb]; exact fun z => by cases z
            | oo x0 c d => obtain ⟨b, C, dx, xs, eb, _, hb, _⟩ := so; rw [e] at eb; cases eb; rw [hb]; exact fun z => by cases z
          refine ⟨a, e, fun z => (t2.nw a z).elim h1 fun z => z.elim ta h2, fun z => (t2.pa a z).elim h2 ta, fun o => ?_⟩
          obtain ⟨o', e', _⟩ := hR.own_obj o
          rw [h0] at e'
          cases e'
        have so' : SlotOk G W2 H2 v s := so.keep t2 R1.ok fun z => by
          obtain ⟨a, e, h0, h1, h2⟩ := fr z
          exact ⟨a, e, h2⟩
        obtain ⟨h1, h2⟩ := R2.setX hi.1 so' frS
        have t12 := t1.then t2
        have frT : t.isOwn = true → ∃ a, u = .ref a ∧ ¬ W2.S a ∧ ¬ penA G W2 a ∧ ¬ Own (env.set i s) (σ.set i (some v)) a := fun z => by
          obtain ⟨a, e, k0, k1, k2⟩ := fr2 z
          refine ⟨a, e, k1, k2, fun oo => ?_⟩
          rcases h2 a oo with oo | ⟨z1, z2⟩
          · obtain ⟨o', e', _⟩ := R1.own_obj oo
            rw [k0] at e'
            cases e'
          · have := R1.ok
            obtain ⟨b, eb, _, _, _⟩ := fr z1
            rw [z2] at eb
            cases eb
            cases s with
            | no => cases z1
            | sh d => cases z1
            | ow d => obtain ⟨b, xs, eb, hb, _⟩ := so; rw [z2] at eb; cases eb; rw [k0] at hb; cases hb
            | od d => obtain ⟨b, xs, eb, hb, _⟩ := so; rw [z2] at eb; cases eb; rw [k0] at hb; cases hb
            | oo x0 c d => obtain ⟨b, C, dx, xs, eb, _, hb, _⟩ := so; rw [z2] at eb; cases eb; rw [k0] at hb; cases hb
        obtain ⟨h3, h4⟩ := h1.setX (by rw [List.length_set]; exact hi.2) so2 frT
        refine kk W2 _ H2 (t12.mono fun a z => .inl z) h3 fun a z => ?_
        rcases h4 a z with z | ⟨z1, z2⟩
        · rcases h2 a z with z | ⟨z1, z2⟩
          · exact .inl z
          · obtain ⟨b, eb, h0, _⟩ := fr z1
            rw [z2] at eb
            cases eb
            exact .inr h0
        · obtain ⟨b, eb, h0, _⟩ := fr2 z1
          rw [z2] at eb
          cases eb
          exact .inr (Classical.byContradiction fun n => t1.tk a n h0)
      · cases hf
    · cases hf
  · cases hf
theorem s_par {i j : Nat} {x y : Str} {px py pt : Pos} {kt k2 pt2} {fy : FV Slot} (hc : X.calm = true) (hN : X.N.Nodup) (hi : X.N[i]? = some x) (hj : X.N[j]? = some y) (hij : i ≠ j)
    (hx : X.env.scope.names.lookup x = some .local) (hy : X.env.scope.names.lookup y = some .local) (ha : PE X a (tX G fx)) (hb : PE X b (tX G fy))
    (hw : swappedStores [.Tuple [.Name x px, .Name y py] kt pt] (.Tuple [a, b] k2 pt2) X.env = pure (some [x, y]))
    (hs : swapsWithSole [.Tuple [.Name x px, .Name y py] kt pt] (.Tuple [a, b] k2 pt2) pos.line X.env = pure false := by rfl)
    (hs1 : starEach [b] X.env = (false, eval b X.env) :: starEach [] X.env := by rfl) (hs2 : starEach [a, b] X.env = (false, eval a X.env) :: starEach [b] X.env := by rfl) :
    PS X (.Assign [.Tuple [.Name x px, .Name y py] kt pt] (.Tuple [a, b] k2 pt2) pos) (tS G (sPar i j fx fy)) :=
  psI (ps_par hc hN hi hj hij hx hy (pa_cons ha (pa_cons hb pa_nil hs1) hs2) hw hs) fun _ _ _ h => par_ok hij h
end
end Cr
namespace Cr
open PySem L2
section
variable {X : Cx} {G : Gm} {W W1 : Wd} {H H1 : Hp} {env env1 : Env} {σ σ1 : St} {p p1 : PenSt} {r : D} {Q : VK} {e a b c tg iter : Expr} {f fa fb fc fe fk : FV D} {ft : FV Bool} {fx : FV Slot} {pos : Pos} {es : List Expr} {st : Stmt} {rest sts : List Stmt} {g g1 g2 : FS} {Dn : Ends} {o : Out}
/-! ### loops -/
def forL (bd : BF) (g : FS) : List D → FS
  | [], env, p => some (.nx env p)
  | d :: ds, env, p => match bd d env with
    | none => none
    | some env1 => match g env1 p with
      | some (.nx e p) => forL bd g ds e p
      | some (.ct e p) => forL bd g ds e p
      | some (.bk e p) => some (.nx e p)
      | some (.rt d p) => some (.rt d p)
      | none => none
def sFor (fi : FV (List D)) (bd : BF) (g : FS) : FS := fun env p => match fi env p with
  | some (ds, p) => forL bd g ds env p
  | none => none
theorem s_for {bd : BF} {ts : List Nat} {fi : FV (List D)} {body : List Stmt} (hp : PassesOwn (model X.prog X.w) X.A X.env X.xe) (hc : X.calm = true) (hi : PI X tg iter (tIs G fi)) (hg : PG X tg (tG G bd ts)) (hb : PSs X body (tS G g))
    (hs : ∀ x, foldedSetIterable iter X.env x = pure x := by intro _; rfl) : PS X (.For tg iter body [] pos) (tS G (sFor fi bd g)) := psI (ps_for hp hc hi hg hb hs) fun D σ H ⟨W, env, p, o, hR, hf, k⟩ => by
  unfold sFor at hf
  split at hf
  · rename_i ds p1 q
    refine ⟨W, env, p, ds, p1, hR, q, fun W1 H1 J t1 R1 io => ?_⟩
    have k1 : OutOk G W1 env σ H1 D o := OutOk.afterE k t1
    refine ⟨fun i m σ2 H2 => m = ds.length - i ∧ i ≤ ds.length ∧ ∃ Wd e pc, Tr (ownA G W1 env σ) W1 H1 Wd H2 ∧ R G Wd e pc σ2 H2 ∧ (∀ a, Own e σ2 a → Own env σ a ∨ H1 a = none) ∧ forL bd g (ds.drop i) e pc = some o,
      ⟨ds.length, by simp, Nat.zero_le _, W1, env, p1, Tr.refl, R1, fun a z => .inl z, hf⟩, ?_⟩
    rintro i m σ2 H2 ⟨rfl, hi, Wd, e, pc, td, Rd, od, hl⟩
    have io2 := io Wd H2 td
    by_cases hlt : i < ds.length
    · refine .inr ⟨io2.1 i hlt, fun σ3 H3 => i + 1 ≤ ds.length ∧ ∃ Wd e pc, Tr (ownA G W1 env σ) W1 H1 Wd H3 ∧ R G Wd e pc σ3 H3 ∧ (∀ a, Own e σ3 a → Own env σ a ∨ H1 a = none) ∧ forL bd g (ds.drop (i + 1)) e pc = some o,
        fun σ3 H3 q => ⟨_, Nat.sub_lt_sub_left (by omega) (Nat.lt_succ_self i), rfl, q.1, q.2⟩, fun x H3 hy => ?_⟩
      obtain ⟨y1, y2, d, hd, rd⟩ := io2.2.2 i x H3 hlt hy
      have hdrop : ds.drop i = d :: ds.drop (i + 1) := by
        rw [List.drop_eq_getElem_cons hlt]
        congr 1
        rw [List.getElem?_eq_getElem hlt] at hd
        exact Option.some.inj hd
      rw [hdrop] at hl
      unfold forL at hl
      have td3 : Tr (ownA G W1 env σ) W1 H1 Wd H3 := td.trans (y1 (ownA G W1 env σ)) fun x z => .inl z
      have R3 : R G Wd e pc σ2 H3 := Rd.step (y1 (penA G Wd)) (y2 pc Rd.ok)
      cases hb : bd d e with
      | none => rw [hb] at hl; cases hl
      | some env1 =>
        rw [hb] at hl
        simp only at hl
        refine ⟨Wd, e, pc, d, env1, R3, rd, hb, fun σ4 R4 o4 l4 s4 => ?_⟩
        have od4 : ∀ a, Own env1 σ4 a → Own env σ a ∨ H1 a = none := fun a z => od a (o4 a z)
        cases hgb : g env1 pc with
        | none => rw [hgb] at hl; cases hl
        | some ob =>
          rw [hgb] at hl
          refine ⟨Wd, env1, pc, ob, R4, hgb, ?_⟩
          have comb : ∀ {W5 : Cr.Wd} {e5 : Env} {σ5 : St} {H5 : Hp}, Tr (ownA G Wd env1 σ4) Wd H3 W5 H5 → (∀ a, Own e5 σ5 a → Own env1 σ4 a ∨ H3 a = none) → Tr (ownA G W1 env σ) W1 H1 W5 H5 ∧ ∀ a, Own e5 σ5 a → Own env σ a ∨ H1 a = none := fun {W5 e5 σ5 H5} t5 o5 =>
            ⟨td3.trans t5 fun x z => z.elim (fun z => (td.pa x z).imp_left .inl) fun z => (od4 x z).imp_left .inr, fun a z => (o5 a z).elim (od4 a) fun z => .inr (Classical.byContradiction fun n => td3.tk a n z)⟩
          cases ob with
          | nx e5 p5 => exact fun W5 σ5 H5 t5 R5 o5 => let ⟨t6, o6⟩ := comb t5 o5; ⟨by omega, W5, e5, p5, t6, R5, o6, hl⟩
          | ct e5 p5 => exact fun W5 σ5 H5 t5 R5 o5 => let ⟨t6, o6⟩ := comb t5 o5; ⟨by omega, W5, e5, p5, t6, R5, o6, hl⟩
          | bk e5 p5 =>
            cases hl
            exact fun W5 σ5 H5 t5 R5 o5 => let ⟨t6, o6⟩ := comb t5 o5; k1 W5 σ5 H5 t6 R5 o6
          | rt d5 p5 =>
            cases hl
            refine fun W5 H5 v t5 w5 q5 => k1 W5 H5 v ?_ w5 q5
            exact td3.trans t5 fun x z => z.elim (fun z => (td.pa x z).imp_left .inl) fun z => (od4 x z).imp_left .inr
    · have e0 : i = ds.length := by omega
      subst e0
      rw [List.drop_length] at hl
      cases hl
      exact .inl ⟨io2.2.1, k1 Wd σ2 H2 td Rd od⟩
  · cases hf
def whileL (ft : FV Bool) (g : FS) : Nat → FS
  | 0, _, _ => none
  | n + 1, env, p => match ft env p with
    | none => none
    | some (false, p) => some (.nx env p)
    | some (true, p) => match g env p with
      | some (.nx e p) => whileL ft g n e p
      | some (.ct e p) => whileL ft g n e p
      | some (.bk e p) => some (.nx e p)
      | some (.rt d p) => some (.rt d p)
      | none => none
theorem s_while {body : List Stmt} (n : Nat) (hp : PassesOwn (model X.prog X.w) X.A X.env X.xe) (hc : PT X c (tT G ft)) (hb : PSs X body (tS G g)) : PS X (.While c body [] pos) (tS G (whileL ft g n)) := psI (ps_while hp hc hb) fun D σ H ⟨W, env, p, o, hR, hf, k⟩ => by
  refine ⟨fun m σ2 H2 => ∃ Wd e pc, Tr (ownA G W env σ) W H Wd H2 ∧ R G Wd e pc σ2 H2 ∧ (∀ a, Own e σ2 a → Own env σ a ∨ H a = none) ∧ whileL ft g m e pc = some o, ⟨n, W, env, p, Tr.refl, hR, fun a z => .inl z, hf⟩, ?_⟩
  rintro m σ2 H2 ⟨Wd, e, pc, td, Rd, od, hl⟩
  cases m with
  | zero => cases hl
  | succ m =>
    unfold whileL at hl
    cases htt : ft e pc with
    | none => rw [htt] at hl; cases hl
    | some z =>
      obtain ⟨bb, pt⟩ := z
      rw [htt] at hl
      refine ⟨Wd, e, pc, bb, pt, Rd, htt, fun W3 H3 t3 R3 => ?_⟩
      have td3 : Tr (ownA G W env σ) W H W3 H3 := td.trans t3 fun x z => (td.pa x z).imp_left .inl
      cases bb with
      | false =>
        refine iteF ?_
        cases hl
        exact k W3 σ2 H3 td3 R3 od
      | true =>
        refine iteT ⟨fun σ5 H5 => ∃ Wd e pc, Tr (ownA G W env σ) W H Wd H5 ∧ R G Wd e pc σ5 H5 ∧ (∀ a, Own e σ5 a → Own env σ a ∨ H a = none) ∧ whileL ft g m e pc = some o, fun σ5 H5 q => ⟨m, Nat.lt_succ_self m, q⟩, ?_⟩
        simp only at hl
        cases hgb : g e pt with
        | none => rw [hgb] at hl; cases hl
        | some ob =>
          rw [hgb] at hl
          refine ⟨W3, e, pt, ob, R3, hgb, ?_⟩
          have comb : ∀ {W5 : Cr.Wd} {e5 : Env} {σ5 : St} {H5 : Hp}, Tr (ownA G W3 e σ2) W3 H3 W5 H5 → (∀ a, Own e5 σ5 a → Own e σ2 a ∨ H3 a = none) → Tr (ownA G W env σ) W H W5 H5 ∧ ∀ a, Own e5 σ5 a → Own env σ a ∨ H a = none := fun {W5 e5 σ5 H5} t5 o5 =>
            ⟨td3.trans t5 fun x z => z.elim (fun z => (td3.pa x z).imp_left .inl) fun z => (od x z).imp_left .inr, fun a z => (o5 a z).elim (od a) fun z => .inr (Classical.byContradiction fun n => td3.tk a n z)⟩
          cases ob with
          | nx e5 p5 => exact fun W5 σ5 H5 t5 R5 o5 => let ⟨t6, o6⟩ := comb t5 o5; ⟨W5, e5, p5, t6, R5, o6, hl⟩
          | ct e5 p5 => exact fun W5 σ5 H5 t5 R5 o5 => let ⟨t6, o6⟩ := comb t5 o5; ⟨W5, e5, p5, t6, R5, o6, hl⟩
          | bk e5 p5 =>
            cases hl
            exact fun W5 σ5 H5 t5 R5 o5 => let ⟨t6, o6⟩ := comb t5 o5; k W5 σ5 H5 t6 R5 o6
          | rt d5 p5 =>
            cases hl
            refine fun W5 H5 v t5 w5 q5 => k W5 H5 v ?_ w5 q5
            exact td3.trans t5 fun x z => z.elim (fun z => (td3.pa x z).imp_left .inl) fun z => (od x z).imp_left .inr

/-! ### own things changed -/
theorem R.mut (r : R G W env p σ H) {i : Nat} {x : Addr} {s s' : Slot} {u : HO} (he : env[i]? = some s) (ho : s.isOwn = true) (hx : σ[i]? = some (some (.ref x))) (ho' : s'.isOwn = true) (hn : SlotOk G W (upd H x u) (.ref x) s') :
    R G W (env.set i s') p σ (upd H x u) ∧ Tr (ownA G W env σ) W H W (upd H x u) ∧ ∀ a, Own (env.set i s') σ a → Own env σ a := by
  have hi : i < env.length := (List.getElem?_eq_some_iff.mp he).1
  have ox : Own env σ x := ⟨i, s, he, ho, hx⟩
  obtain ⟨nS, nP⟩ := r.own x ox
  obtain ⟨ob, eb, nt⟩ := r.own_obj ox
  have t : Tr (fun a => a = x) W H W (upd H x u) := ⟨fun y o hy _ ey => by rw [upd_ne hy]; exact ey, fun y ey => by
    by_cases z : y = x
    · rw [z, upd_same]; exact fun z => by cases z
    · rw [upd_ne z]; exact ey, rfl, fun _ _ z => z, fun _ z => .inl z, fun _ z => z, fun _ z => .inl z⟩
  have okA : ∀ a, a = x → ¬ W.S a ∧ ∃ o, H a = some o ∧ ∀ xs, o ≠ .tup xs := fun a z => by subst z; exact ⟨nS, ob, eb, nt⟩
  have own : ∀ {j : Nat} {t : Slot} {a : Addr}, (env.set i s')[j]? = some t → t.isOwn = true → σ[j]? = some (some (.ref a)) → (j = i ∧ t = s' ∧ a = x) ∨ (j ≠ i ∧ env[j]? = some t) := fun {j t a} e1 e2 e3 => by
    by_cases hj : i = j
    · subst hj
      rw [List.getElem?_set_self hi] at e1
      cases e1
      rw [hx] at e3
      cases e3
      exact .inl ⟨rfl, rfl, rfl⟩
    · rw [List.getElem?_set_ne hj] at e1
      exact .inr ⟨Ne.symm hj, e1⟩
  refine ⟨⟨by rw [List.length_set]; exact r.len, ?_, fun j t1 e n => ?_, fun a ⟨j, t1, e1, e2, e3⟩ => ?_, fun j k t1 t2 a e1 e2 e3 e4 e5 e6 => ?_⟩, t.mono fun a z => .inr (z ▸ ox), fun a ⟨j, t1, e1, e2, e3⟩ => ?_⟩
  · exact r.ok.atX ⟨nS, nP⟩ (r.own_no ox)
  · by_cases hj : i = j
    · subst hj
      rw [List.getElem?_set_self hi] at e
      cases e
      exact ⟨.ref x, hx, hn⟩
    · rw [List.getElem?_set_ne hj] at e
      obtain ⟨v, e2, q⟩ := r.slot j t1 e n
      refine ⟨v, e2, ?_⟩
      have na : t1.isOwn = true → ∀ a, v = .ref a → a ≠ x := fun h a ev z => by
        subst z
        subst ev
        exact hj (r.dis i j s t1 a he ho hx e h e2)
      cases t1 with
      | no => exact True.intro
      | sh d => exact Rep.tr q t okA
      | ow d => obtain ⟨a, xs, h1, h2, h3⟩ := q; exact ⟨a, xs, h1, by rw [upd_ne (na rfl a h1)]; exact h2, h3.tr t okA⟩
      | od d => obtain ⟨a, xs, h1, h2, h4, h3⟩ := q; exact ⟨a, xs, h1, by rw [upd_ne (na rfl a h1)]; exact h2, h4, h3.tr t okA⟩
      | oo x0 c d => obtain ⟨a, C, dx, xs, h1, h2, h4, h5, h3⟩ := q; exact ⟨a, C, dx, xs, h1, h2, by rw [upd_ne (na rfl a h1)]; exact h4, h5, h3.tr t okA⟩
  · rcases own e1 e2 e3 with ⟨_, _, h2⟩ | ⟨_, h1⟩
    · subst h2
      exact ⟨nS, nP⟩
    · exact r.own a ⟨j, t1, h1, e2, e3⟩
  · rcases own e1 e2 e3 with ⟨j1, h1, h2⟩ | ⟨j1, h1⟩
    · rcases own e4 e5 e6 with ⟨j2, h3, h4⟩ | ⟨j2, h3⟩
      · exact j1.trans j2.symm
      · subst h2 j1
        exact (r.dis _ _ _ _ _ he ho hx h3 e5 e6)
    · rcases own e4 e5 e6 with ⟨j2, h3, h4⟩ | ⟨j2, h3⟩
      · subst h4 j2
        exact (r.dis _ _ _ _ _ h1 e2 e3 he ho hx)
      · exact r.dis j k t1 t2 a h1 e2 e3 h3 e5 e6
  · rcases own e1 e2 e3 with ⟨_, _, h2⟩ | ⟨_, h1⟩
    · subst h2
      exact ox
    · exact ⟨j, t1, h1, e2, e3⟩
/-- x.m(e): a method that gives None and changes the own list x -/
def sMut1 (i : Nat) (u : List D → D → Option (List D)) (fe : FV D) : FS := fun env p => match fe env p with
  | some (d, p) => (match env[i]? with
    | some (.ow ds) => (u ds d).map fun es => .nx (env.set i (.ow es)) p
    | _ => none)
  | none => none
def RMut1 (rr : V → List V → Hp → VK → Prop) (u : List D → D → Option (List D)) : Prop := ∀ {G : Gm} {W : Wd} {H : Hp} {x : Addr} {xs : List V} {v : V} {ds es : List D} {d : D} {Q : VK}, H x = some (.lst xs) → Reps G W H xs ds → Rep G W H v d → u ds d = some es →
  (∀ ys, (∀ {W' : Wd} {H' : Hp}, Reps G W' H' xs ds → Rep G W' H' v d → Reps G W' H' ys es) → Q .non (upd H x (.lst ys))) → rr (.ref x) [v] H Q
theorem mut1_core {K : PySem.W.Frag} {i : Nat} {rr : V → List V → Hp → VK → Prop} {u : List D → D → Option (List D)} (hu : RMut1 rr u) (h : tS G (sMut1 i u fe) Dn σ H) :
    tDrop (tBM K "list" rr (tVar i) (tCons (tE G fe) tNil)) Dn σ H := by
  obtain ⟨W, env, p, o, hR, hf, k⟩ := h
  unfold sMut1 at hf
  split at hf
  · rename_i d p1 q
    split at hf
    · rename_i ds he
      cases hu' : u ds d with
      | none => rw [hu'] at hf; cases hf
      | some es =>
        rw [hu'] at hf
        cases hf
        obtain ⟨v0, ev, x, xs, exv, hx, rx⟩ := hR.slot i _ he (fun z => by cases z)
        subst exv
        refine ⟨.ref x, ev, .inl ⟨rfl, xs, SqL.of hx⟩, W, env, p, d, p1, hR, q, fun W1 H1 v t1 R1 rv => ?_⟩
        obtain ⟨v1, ev1, x1, xs1, exv1, hx1, rx1⟩ := R1.slot i _ he (fun z => by cases z)
        have ee : x1 = x := by
          subst exv1
          rw [ev] at ev1
          cases ev1
          rfl
        subst ee
        refine hu hx1 rx1 rv hu' fun ys hy => ?_
        have tM : Tr (fun a => a = x1) W1 H1 W1 (upd H1 x1 (.lst ys)) := ⟨fun y o hy _ ey => by rw [upd_ne hy]; exact ey, fun y ey => by
          by_cases z : y = x1
          · rw [z, upd_same]; exact fun z => by cases z
          · rw [upd_ne z]; exact ey, rfl, fun _ _ z => z, fun _ z => .inl z, fun _ z => z, fun _ z => .inl z⟩
        have ox : Own env σ x1 := ⟨i, _, he, rfl, ev⟩
        have okA : ∀ a, a = x1 → ¬ W1.S a ∧ ∃ o, H1 a = some o ∧ ∀ xs, o ≠ .tup xs := fun a z => by subst z; exact ⟨(R1.own _ ox).1, R1.own_obj ox⟩
        obtain ⟨R2, t2, o2⟩ := R1.mut (u := .lst ys) he rfl ev (s' := .ow es) rfl ⟨x1, ys, rfl, upd_same, hy (rx1.tr tM okA) (rv.tr tM okA)⟩
        exact k W1 σ _ ((t1.mono fun a z => .inl z).trans t2 fun a z => z.elim (fun z => (t1.pa a z).imp_left .inl) fun z => .inl (.inr z)) R2 fun a z => .inl (o2 a z)
    · cases hf
  · cases hf
def uApp (ds : List D) (d : D) : Option (List D) := if ds.length < 16777216 then some (ds ++ [d]) else none
theorem rm_app : RMut1 rAppend uApp := fun {G W H x xs v ds es d Q} hx rx rv hu k => by
  unfold uApp at hu
  split at hu
  · rename_i hz
    cases hu
    exact ⟨x, xs, v, rfl, rfl, hx, by rw [sizeLine_eq, rx.len]; exact hz, k _ fun r1 r2 => r1.app (.cons r2 .nil)⟩
  · cases hu
theorem s_app {i : Nat} {apos cpos ppos : Pos} {o : Expr} (ho : PE X o (tVar i)) (ha : PE X a (tE G fe)) (hs : swapsWith (.Call (.Attribute o "append" apos) [a] [] cpos) none ppos.line X.env = pure false := by rfl)
    (hbase : attributeBase o "append" X.env (eval o X.env) = eval o X.env := by rfl)
    (hs1 : starEach [a] X.env = (false, eval a X.env) :: starEach [] X.env := by rfl) (hline : (apos.endLine == cpos.line) = true := by rfl)
    (hfew : ((backTo cpos (starEach [a] X.env)).all (fun x => !x.1) && (backToKw cpos (keywordEach [] X.env)).all (fun x => x.1.isSome)
      && decide ([a].length + ([] : List Keyword).length + (if ([] : List Keyword).isEmpty then 0 else 1) < 30)) = true := by rfl) :
    PS X (.Expr (.Call (.Attribute o "append" apos) [a] [] cpos) ppos) (tS G (sMut1 i uApp fe)) :=
  psI (ps_expr (pe_bm PySem.F.plainAttrs_list PySem.F.slot_list_append PySem.F.type_list_append mt_append ho (pa_cons ha pa_nil hs1) hbase hfew hline hs1 rfl) hs) fun _ _ _ h => mut1_core rm_app h
/-- before a statement: what is the frame's own is given away -/
def sFz (i : Nat) (g : FS) : FS := fun env p => match env[i]? with
  | some (.ow ds) => g (env.set i (.sh (.lst ds))) p
  | some (.od ds) => g (env.set i (.sh (.dct ds))) p
  | _ => g env p
theorem fz_core {i : Nat} (h : tS G (sFz i g) Dn σ H) : tS G g Dn σ H := by
  obtain ⟨W, env, p, o, hR, hf, k⟩ := h
  have key : ∀ (x : Addr) (s : Slot) (u : HO) (d : D), env[i]? = some s → s.isOwn = true → σ[i]? = some (some (.ref x)) → H x = some u → Rep G (W.add x) H (.ref x) d → g (env.set i (.sh d)) p = some o → tS G g Dn σ H := fun x s u d he hs ev hx rd hg => by
    have hi : i < env.length := (List.getElem?_eq_some_iff.mp he).1
    have ox : Own env σ x := ⟨i, s, he, hs, ev⟩
    obtain ⟨n1, n2⟩ := hR.own x ox
    have own : ∀ {j : Nat} {t : Slot} {a : Addr}, (env.set i (.sh d))[j]? = some t → t.isOwn = true → σ[j]? = some (some (.ref a)) → env[j]? = some t ∧ a ≠ x := fun {j t a} e1 e2 e3 => by
      by_cases hj : i = j
      · subst hj
        rw [List.getElem?_set_self hi] at e1
        cases e1
        cases e2
      · rw [List.getElem?_set_ne hj] at e1
        refine ⟨e1, fun z => ?_⟩
        subst z
        exact hj (hR.dis i j s t a he hs ev e1 e2 e3)
    have ms : ∀ {v : List V} {d : List D}, Reps G W H v d → Reps G (W.add x) H v d := fun h => h.add
    have R2 : R G (W.add x) (env.set i (.sh d)) p σ H := by
      refine ⟨by rw [List.length_set]; exact hR.len, hR.ok.add n2 (by rw [hx]; exact fun z => by cases z), fun j t e n => ?_, fun a ⟨j, t, e1, e2, e3⟩ => ?_, fun j k t u a e1 e2 e3 e4 e5 e6 => ?_⟩
      · by_cases hj : i = j
        · subst hj
          rw [List.getElem?_set_self hi] at e
          cases e
          exact ⟨_, ev, rd⟩
        · rw [List.getElem?_set_ne hj] at e
          obtain ⟨v, e2, q⟩ := hR.slot j t e n
          refine ⟨v, e2, ?_⟩
          cases t with
          | no => exact True.intro
          | sh d => exact Rep.add q
          | ow d => obtain ⟨a, xs, h1, h2, h3⟩ := q; exact ⟨a, xs, h1, h2, ms h3⟩
          | od d => obtain ⟨a, xs, h1, h2, h4, h3⟩ := q; exact ⟨a, xs, h1, h2, h4, ms h3⟩
          | oo x0 c d => obtain ⟨a, C, dx, xs, h1, h2, h4, h5, h3⟩ := q; exact ⟨a, C, dx, xs, h1, h2, h4, h5, ms h3⟩
      · obtain ⟨h1, h2⟩ := own e1 e2 e3
        obtain ⟨k1, k2⟩ := hR.own a ⟨j, t, h1, e2, e3⟩
        exact ⟨fun z => z.elim k1 h2, k2⟩
      · exact hR.dis j k t u a (own e1 e2 e3).1 e2 e3 (own e4 e5 e6).1 e5 e6
    have t : Tr (ownA G W env σ) W H (W.add x) H := ⟨fun _ _ _ _ e => e, fun _ e => e, rfl, fun _ _ e => e, fun _ e => .inl e, fun a s => .inl s, fun a s => s.elim .inl fun z => .inr (.inr (.inr (z ▸ ox)))⟩
    exact ⟨W.add x, env.set i (.sh d), p, o, R2, hg, OutOk.after k t fun a ⟨j, t, e1, e2, e3⟩ => .inl ⟨j, t, (own e1 e2 e3).1, e2, e3⟩⟩
  unfold sFz at hf
  split at hf
  · rename_i ds he
    obtain ⟨v0, ev, x, xs, exv, hx, rx⟩ := hR.slot i _ he (fun z => by cases z)
    subst exv
    exact key x _ _ _ he rfl ev hx (.lst (.inr rfl) hx rx.add) hf
  · rename_i ds he
    obtain ⟨v0, ev, x, xs, exv, hx, n, rx⟩ := hR.slot i _ he (fun z => by cases z)
    subst exv
    exact key x _ _ _ he rfl ev hx (.dct (.inr rfl) hx n rx.add) hf
  · exact ⟨W, env, p, o, hR, hf, k⟩
theorem ss_fz {i : Nat} (h : PSs X sts (tS G g)) : PSs X sts (tS G (sFz i g)) := pssI h fun _ _ _ h => fz_core h
theorem s_fz {i : Nat} (h : PS X st (tS G g)) : PS X st (tS G (sFz i g)) := psI h fun _ _ _ h => fz_core h
end
end Cr
namespace Cr
open PySem L2
section
variable {X : Cx} {G : Gm} {W W1 : Wd} {H H1 : Hp} {env env1 : Env} {σ σ1 : St} {p p1 : PenSt} {r : D} {Q : VK} {e a b c tg iter : Expr} {f fa fb fc fe fk : FV D} {ft : FV Bool} {fx : FV Slot} {pos : Pos} {es : List Expr} {st : Stmt} {rest sts : List Stmt} {g g1 g2 : FS} {Dn : Ends} {o : Out}
/-! ### a def keeps its promise -/
def begin_ (n : Nat) (ds : List D) : Env := ds.map Slot.sh ++ List.replicate (n - ds.length) Slot.no
def mOf (n : Nat) (g : FS) : MF := fun ds p => match g (begin_ n ds) p with
  | some (.rt d p) => some (d, p)
  | some (.nx _ p) => some (.non, p)
  | _ => none
theorem begin_get {n : Nat} {ds : List D} {i : Nat} {s : Slot} (h : (begin_ n ds)[i]? = some s) (hs : s ≠ .no) : ∃ d, ds[i]? = some d ∧ s = .sh d := by
  unfold begin_ at h
  by_cases hi : i < ds.length
  · rw [List.getElem?_append_left (by simpa using hi), List.getElem?_map] at h
    cases e : ds[i]? with
    | none => rw [e] at h; cases h
    | some d => rw [e] at h; cases h; exact ⟨d, rfl, rfl⟩
  · rw [List.getElem?_append_right (by simpa using hi), List.getElem?_replicate] at h
    split at h
    · cases h
      exact absurd rfl hs
    · cases h
theorem start_get {N : List Str} {vs : List V} {i : Nat} {v : V} (h : vs[i]? = some v) : (L2.start N vs)[i]? = some (some v) := by
  unfold L2.start
  have hi : i < vs.length := (List.getElem?_eq_some_iff.mp h).1
  rw [List.getElem?_append_left (by simpa using hi), List.getElem?_map, h]
  rfl
theorem begin_R {N : List Str} {vs : List V} {ds : List D} (w : WOk G W p H) (h : Reps G W H vs ds) (hl : ds.length ≤ N.length) : R G W (begin_ N.length ds) p (L2.start N vs) H := by
  have no : ∀ {i : Nat} {s : Slot}, (begin_ N.length ds)[i]? = some s → s.isOwn = true → False := fun {i s} e ho => by
    obtain ⟨d, _, e2⟩ := begin_get e (by rintro rfl; cases ho)
    subst e2
    cases ho
  refine ⟨?_, w, fun i s e n => ?_, fun a ⟨i, s, e, ho, _⟩ => (no e ho).elim, fun i j s t a e ho _ _ _ _ => (no e ho).elim⟩
  · unfold begin_ L2.start
    rw [List.length_append, List.length_append, List.length_map, List.length_map, List.length_replicate, List.length_replicate, h.len]
  · obtain ⟨d, e1, rfl⟩ := begin_get e n
    obtain ⟨v, e2, q⟩ := h.get e1
    exact ⟨v, start_get e2, q⟩
theorem begin_own {N : List Str} {vs : List V} {ds : List D} {a : Addr} : ¬ Own (begin_ N.length ds) (L2.start N vs) a := fun ⟨i, s, e, ho, _⟩ => by
  obtain ⟨d, _, e2⟩ := begin_get e (by rintro rfl; cases ho)
  subst e2
  cases ho
theorem fn_ok {P : Program} {w : World} {K : PySem.W.Frag} {mg : Str → Option Value} {base : Heap} {x qual : Str} {st : Stmt} {f : Addr} {fd : FuncData} {N ps : List Str} {k : Nat} (F : Fun K x qual st f fd) (S : FnScope N ps (defScope st))
    (hb : ∀ (cdv : Value) (A : Around) (outer : List PySem.Env) (s : Shared) (H : Hp) (E : XK), Room k (A.deeper (PyProof.Rows.envOfC qual (defScope st) s.heap.objs.size f cdv)) → PSs (cxOf CX0 P w K mg base N qual (defScope st) f cdv A outer s H E).nox (defBody st) (tS G g)) :
    FnOk P w K mg base CX0 (k + 1) f fd ps (spM G ps.length (mOf N.length g)) := by
  have hpl : ps.length ≤ N.length := by have := congrArg List.length S.pre; rw [List.length_take] at this; omega
  refine F.ok S (fun vs H Q E ⟨W, p, ds, r, p', w, h, hl, _⟩ => by rw [h.len, hl]) (fun cdv A outer s H vs Q E hr ⟨W, p, ds, r, p', w, h, hl, hm, kk⟩ => ⟨_, hb cdv A outer s H E hr, ?_⟩)
  unfold mOf at hm
  have R0 : R G W (begin_ N.length ds) p (L2.start N vs) H := begin_R w h (by omega)
  have t0 : ∀ {W' : Cr.Wd} {H' : Hp}, Tr (ownA G W (begin_ N.length ds) (L2.start N vs)) W H W' H' → Tr (penA G W) W H W' H' := fun {W' H'} t => t.mono fun a z => z.elim id fun z => absurd z begin_own
  split at hm
  · rename_i d p1 q
    cases hm
    exact ⟨W, _, p, _, R0, q, fun W' H' v t w' rv => kk W' H' v (t0 t) w' rv⟩
  · rename_i e1 p1 q
    cases hm
    exact ⟨W, _, p, _, R0, q, fun W' σ' H' t R' _ => kk W' H' _ (t0 t) R'.ok .non⟩
  · cases hm
theorem fn_none {P : Program} {w : World} {K : PySem.W.Frag} {mg : Str → Option Value} {base : Heap} {k n : Nat} {f : Addr} {fd : FuncData} {ps : List Str} : FnOk P w K mg base CX0 k f fd ps (spM G n fun _ _ => none) :=
  ⟨fun vs H Q E ⟨W, p, ds, r, p', w, h, hl', hm, _⟩ => (by cases hm), fun A outer s H args us vs Q E hr he hb hv ⟨W, p, ds, r, p', w, h, hl', hm, _⟩ => by cases hm⟩
/-- __init__ -/
def initOf (n : Nat) (c : String) (g : FS) : MI := fun x ds p => match g (.oo x c [] :: begin_ n ds) p with
  | some (.nx env p) => (match env[0]? with
    | some (Slot.oo y c' fs) => if y = x ∧ c' = c then some (fs, p) else none
    | _ => none)
  | _ => none
theorem init_ok {P : Program} {w : World} {K : PySem.W.Frag} {mg : Str → Option Value} {base : Heap} {x qual x0 : Str} {st : Stmt} {f : Addr} {fd : FuncData} {N ps : List Str} {k : Nat} {c : String} (F : Fun K x qual st f fd) (S : FnScope (x0 :: N) (x0 :: ps) (defScope st))
    (hb : ∀ (cdv : Value) (A : Around) (outer : List PySem.Env) (s : Shared) (H : Hp) (E : XK), Room k (A.deeper (PyProof.Rows.envOfC qual (defScope st) s.heap.objs.size f cdv)) → PSs (cxOf CX0 P w K mg base (x0 :: N) qual (defScope st) f cdv A outer s H E).nox (defBody st) (tS G g)) :
    FnOk P w K mg base CX0 (k + 1) f fd (x0 :: ps) (spI G c ps.length (initOf N.length c g)) := by
  have hpl : ps.length ≤ N.length := by
    have := congrArg List.length S.pre
    rw [List.length_take, List.length_cons, List.length_cons] at this
    omega
  refine F.ok S (fun vs H Q E ⟨W, p, x, C, dx, ws, ds, fs, p', e, _, _, _, _, w, h, hl, _⟩ => by rw [e, List.length_cons, h.len, hl, List.length_cons]) (fun cdv A outer s H vs Q E hr ⟨W, p, x, C, dx, ws, ds, fs, p', e, hC, hx, nS, nP, w, h, hl, hm, kk⟩ => ⟨_, hb cdv A outer s H E hr, ?_⟩)
  subst e
  unfold initOf at hm
  have R0 : R G W (begin_ N.length ds) p (L2.start N ws) H := begin_R w h (by omega)
  have est : L2.start (x0 :: N) (V.ref x :: ws) = some (V.ref x) :: L2.start N ws := by
    unfold L2.start
    rw [List.map_cons, List.cons_append, List.length_cons, List.length_cons, Nat.succ_sub_succ]
  have own1 : ∀ {i : Nat} {s : Slot} {a : Addr}, (Slot.oo x c [] :: begin_ N.length ds)[i]? = some s → s.isOwn = true → (some (V.ref x) :: L2.start N ws)[i]? = some (some (.ref a)) → i = 0 ∧ a = x := fun {i s a} e1 e2 e3 => by
    cases i with
    | zero =>
      simp only [List.getElem?_cons_zero, Option.some.injEq, V.ref.injEq] at e3
      exact ⟨rfl, e3.symm⟩
    | succ i =>
      rw [List.getElem?_cons_succ] at e1 e3
      exact (begin_own ⟨i, s, e1, e2, e3⟩).elim
  have R1 : R G W (Slot.oo x c [] :: begin_ N.length ds) p (some (V.ref x) :: L2.start N ws) H := by
    refine ⟨congrArg (· + 1) R0.len, w, fun i s e n => ?_, fun a ⟨i, s, e1, e2, e3⟩ => ?_, fun i j s t a e1 e2 e3 e4 e5 e6 => ?_⟩
    · cases i with
      | zero =>
        simp only [List.getElem?_cons_zero, Option.some.injEq] at e
        subst e
        exact ⟨.ref x, rfl, x, C, dx, [], rfl, ⟨hC, rfl⟩, hx, rfl, .nil⟩
      | succ i =>
        rw [List.getElem?_cons_succ] at e
        obtain ⟨v, e2, q⟩ := R0.slot i s e n
        exact ⟨v, by rw [List.getElem?_cons_succ]; exact e2, q⟩
    · obtain ⟨_, rfl⟩ := own1 e1 e2 e3
      exact ⟨nS, nP⟩
    · rw [(own1 e1 e2 e3).1, (own1 e4 e5 e6).1]
  split at hm
  · rename_i env1 p1 q
    split at hm
    · rename_i y c' fs' he
      split at hm
      · rename_i hy
        obtain ⟨rfl, rfl⟩ := hy
        cases hm
        rw [est]
        refine ⟨W, _, p, _, R1, q, fun W' σ' H' t R' _ => ?_⟩
        obtain ⟨v, ev, a, C', dx', gs, eva, ⟨hC', hay⟩, hxx, n, rr⟩ := R'.slot 0 _ he (fun z => by cases z)
        subst hay
        rw [hC] at hC'
        cases hC'
        subst eva
        have t' : Tr (fun z => penA G W z ∨ z = a) W H W' H' := t.mono fun z hz => hz.imp id fun ⟨i, s, e1, e2, e3⟩ => (own1 e1 e2 e3).2
        exact kk W' H' dx' gs t' R'.ok (R'.own a ⟨0, _, he, rfl, ev⟩).1 hxx n rr
      · cases hm
    · cases hm
  · cases hm
/-- self.f = e -/
def putD (f : Str) (d : D) : List (Str × D) → List (Str × D)
  | [] => [(f, d)]
  | (g, x) :: r => if g = f then (g, d) :: r else (g, x) :: putD f d r
def sFldS (i : Nat) (f : Str) (fe : FV D) : FS := fun env p => match fe env p with
  | some (d, p) => (match env[i]? with
    | some (Slot.oo x c fs) => if fs.length < 1000 then some (.nx (env.set i (.oo x c (putD f d fs))) p) else none
    | _ => none)
  | none => none
theorem putF_put {f : Str} {v : V} {d : D} (h : Rep G W H v d) : ∀ {gs : List (Str × V)} {fs : List (Str × D)}, gs.map Prod.fst = fs.map Prod.fst → Reps G W H (gs.map Prod.snd) (fs.map Prod.snd) →
    (putF f v gs).map Prod.fst = (putD f d fs).map Prod.fst ∧ Reps G W H ((putF f v gs).map Prod.snd) ((putD f d fs).map Prod.snd)
  | [], [], _, _ => ⟨rfl, .cons h .nil⟩
  | [], _ :: _, n, _ => by cases n
  | _ :: _, [], n, _ => by cases n
  | (k, v') :: gs, (k', d') :: fs, n, r => by
    have n1 : k = k' := (List.cons.inj n).1
    have n2 := (List.cons.inj n).2
    subst n1
    cases r with
    | cons r1 r2 =>
      unfold putF putD
      split
      · exact ⟨congrArg (k :: ·) n2, .cons h r2⟩
      · obtain ⟨q1, q2⟩ := putF_put h n2 r2
        exact ⟨congrArg (k :: ·) q1, .cons r1 q2⟩
theorem s_fld {i : Nat} {f : Str} {o : Expr} {pos' : Pos} (CF : ClsF X.K G) (hf : ∀ c C, G c = some C → NoAttr X.K C f) (ho : PE X o (tVar i)) (hv : PE X e (tE G fe)) (hs : swapsWith e (some (.Attribute o f pos')) pos.line X.env = pure false := by rfl) :
    PS X (.Assign [.Attribute o f pos'] e pos) (tS G (sFldS i f fe)) := psI (ps_fld ho hv hs) fun D σ H ⟨W, env, p, out, hR, hg, k⟩ => by
  unfold sFldS at hg
  split at hg
  · rename_i d p1 q
    split at hg
    · rename_i x c fs he
      split at hg
      · rename_i hz
        cases hg
        refine ⟨W, env, p, d, p1, hR, q, fun W1 H1 v t1 R1 rv => ?_⟩
        obtain ⟨v1, ev1, x1, C, dx, gs, exv, ⟨hC, hx1⟩, hx, n, rx⟩ := R1.slot i _ he (fun z => by cases z)
        subst exv
        refine ⟨.ref x1, ev1, x1, C, dx, gs, rfl, hx, CF.cl c C hC, hf c C hC, by rw [← List.length_map (f := Prod.fst), n, List.length_map]; exact hz, ?_⟩
        have tM : Tr (fun a => a = x1) W1 H1 W1 (upd H1 x1 (.ins C dx (putF f v gs))) := ⟨fun y o hy _ ey => by rw [upd_ne hy]; exact ey, fun y ey => by
          by_cases z : y = x1
          · rw [z, upd_same]; exact fun z => by cases z
          · rw [upd_ne z]; exact ey, rfl, fun _ _ z => z, fun _ z => .inl z, fun _ z => z, fun _ z => .inl z⟩
        have ox : Own env σ x1 := ⟨i, _, he, rfl, ev1⟩
        have okA : ∀ a, a = x1 → ¬ W1.S a ∧ ∃ o, H1 a = some o ∧ ∀ xs, o ≠ .tup xs := fun a z => by subst z; exact ⟨(R1.own _ ox).1, R1.own_obj ox⟩
        obtain ⟨q1, q2⟩ := putF_put (f := f) (rv.tr tM okA) n (rx.tr tM okA)
        obtain ⟨R2, t2, o2⟩ := R1.mut (u := .ins C dx (putF f v gs)) he rfl ev1 (s' := .oo x c (putD f d fs)) rfl ⟨x1, C, dx, _, rfl, ⟨hC, hx1⟩, upd_same, q1, q2⟩
        exact k W1 σ _ ((t1.mono fun a z => .inl z).trans t2 fun a z => z.elim (fun z => (t1.pa a z).imp_left .inl) fun z => .inl (.inr z)) R2 fun a z => .inl (o2 a z)
      · cases hg
    · cases hg
  · cases hg
end
end Cr
namespace Cr
open PySem L2
section
variable {X : Cx} {G : Gm} {W W1 : Wd} {H H1 : Hp} {env env1 : Env} {σ σ1 : St} {p p1 : PenSt} {r : D} {Q : VK} {e a b c tg iter : Expr} {f fa fb fc fe fk : FV D} {ft : FV Bool} {fx : FV Slot} {pos : Pos} {es : List Expr} {st : Stmt} {rest sts : List Stmt} {g g1 g2 : FS} {Dn : Ends} {o : Out}
/-! ### several values at once, new own things among them -/
structure SlotsOk (G : Gm) (W : Wd) (H0 H : Hp) (vs : List V) (ss : List Slot) : Prop where
  ok : Paired (fun v s => SlotOk G W H v s ∧ Fresh G W H0 s v) vs ss
  ap : ∀ (i j : Nat) (s t : Slot) (v : V), ss[i]? = some s → s.isOwn = true → vs[i]? = some v → ss[j]? = some t → t.isOwn = true → vs[j]? = some v → i = j
def tAX (G : Gm) (f : FV (List Slot)) : TA := fun σ H Q => ∃ W env p r p', R G W env p σ H ∧ f env p = some (r, p') ∧ ∀ W' H' vs, Tr (penA G W) W H W' H' → R G W' env p' σ H' → SlotsOk G W' H H' vs r → Q vs H'
def xNil : FV (List Slot) := fun _ p => some ([], p)
def xCons (f : FV Slot) (g : FV (List Slot)) : FV (List Slot) := fun env p => match f env p with
  | some (x, p) => (match g env p with
    | some (y, p) => some (x :: y, p)
    | none => none)
  | none => none
theorem ax_nil : PA X [] (tAX G xNil) := paI pa_nil fun σ H Q ⟨W, env, p, r, p', hR, hf, k⟩ => by
  cases hf
  exact k W H [] Tr.refl hR ⟨.nil, fun i j s t v e => by simp at e⟩
theorem Fresh.tracked {v : V} {s : Slot} (h : SlotOk G W H v s) (z : s.isOwn = true) : ∃ a, v = .ref a ∧ H a ≠ none := by
  cases s with
  | no => cases z
  | sh d => cases z
  | ow d => obtain ⟨b, xs, eb, hb, _⟩ := h; exact ⟨b, eb, by rw [hb]; exact fun z => by cases z⟩
  | od d => obtain ⟨b, xs, eb, hb, _⟩ := h; exact ⟨b, eb, by rw [hb]; exact fun z => by cases z⟩
  | oo x0 c d => obtain ⟨b, C, dx, xs, eb, _, hb, _⟩ := h; exact ⟨b, eb, by rw [hb]; exact fun z => by cases z⟩
theorem Paired.get2 {α β : Type} {F : α → β → Prop} : ∀ {l : List α} {m : List β} {i : Nat} {x : α} {y : β}, Paired F l m → l[i]? = some x → m[i]? = some y → F x y
  | _, _, _, _, _, .nil, e, _ => by simp at e
  | _, _, 0, _, _, .cons h _, e, e' => by simp at e e'; subst e; subst e'; exact h
  | _, _, i + 1, x, y, .cons _ t, e, e' => Paired.get2 (i := i) t (by simpa using e) (by simpa using e')
theorem ax_cons {gx : FV (List Slot)} (ha : PE X e (tX G fx)) (hr : PA X es (tAX G gx)) (hs : starEach (e :: es) X.env = (false, eval e X.env) :: starEach es X.env := by rfl) : PA X (e :: es) (tAX G (xCons fx gx)) := paI (pa_cons ha hr hs) fun σ H Q ⟨W, env, p, r, p', hR, hf, k⟩ => by
  unfold xCons at hf
  split at hf
  · rename_i s p1 q
    split at hf
    · rename_i l p2 q2
      cases hf
      refine ⟨W, env, p, s, p1, hR, q, fun W1 H1 v t1 R1 ⟨so, fr⟩ => ⟨W1, env, p1, l, _, R1, q2, fun W2 H2 vs t2 R2 sl => k W2 H2 _ (t1.then t2) R2 ⟨.cons ⟨?_, fun z => ?_⟩ ?_, fun i j s' t' v' e1 e2 e3 e4 e5 e6 => ?_⟩⟩⟩
      · exact so.keep t2 R1.ok fun z => by
          obtain ⟨a, e, h0, h1, h2⟩ := fr z
          exact ⟨a, e, h2⟩
      · obtain ⟨a, e, h0, h1, h2⟩ := fr z
        obtain ⟨b, eb, hb⟩ := Fresh.tracked so z
        rw [e] at eb
        cases eb
        exact ⟨a, e, h0, fun z => (t2.nw a z).elim h1 fun z => z.elim hb h2, fun z => (t2.pa a z).elim h2 hb⟩
      · exact Paired.mapP sl.ok fun v s ⟨q1, q2⟩ => ⟨q1, fun z => by
          obtain ⟨a, e, h0, h1⟩ := q2 z
          exact ⟨a, e, Classical.byContradiction fun n => t1.tk a n h0, h1⟩⟩
      · have cross : ∀ {i : Nat} {t' : Slot} {v' : V}, s.isOwn = true → l[i]? = some t' → t'.isOwn = true → vs[i]? = some v → False := fun {i t' v'} z e4 e5 e6 => by
          obtain ⟨a, e, h0, h1, h2⟩ := fr z
          obtain ⟨b, eb, hb⟩ := Fresh.tracked so z
          rw [e] at eb
          cases eb
          obtain ⟨_, q2⟩ := Paired.get2 sl.ok e6 e4
          obtain ⟨c, ec, k0, _⟩ := q2 e5
          rw [e] at ec
          cases ec
          exact hb k0
        cases i with
        | zero =>
          cases j with
          | zero => rfl
          | succ j =>
            simp only [List.getElem?_cons_zero, Option.some.injEq] at e1 e3
            rw [List.getElem?_cons_succ] at e4 e6
            subst e1 e3
            exact (cross (v' := v) e2 e4 e5 e6).elim
        | succ i =>
          cases j with
          | zero =>
            simp only [List.getElem?_cons_zero, Option.some.injEq] at e4 e6
            rw [List.getElem?_cons_succ] at e1 e3
            subst e4 e6
            exact (cross (v' := v) e5 e1 e2 e3).elim
          | succ j =>
            rw [List.getElem?_cons_succ] at e1 e3 e4 e6
            exact congrArg (· + 1) (sl.ap i j s' t' v' e1 e2 e3 e4 e5 e6)
    · cases hf
  · cases hf
def setAll : List Nat → List Slot → Env → Option Env
  | [], [], env => some env
  | i :: is, s :: ss, env => if i < env.length then setAll is ss (env.set i s) else none
  | _, _, _ => none
def setV : List Nat → List V → St → St
  | i :: is, v :: vs, σ => setV is vs (σ.set i (some v))
  | _, _, σ => σ
/-- one behind another: what is new is not yet any slot's -/
theorem setAll_ok {H0 : Hp} : ∀ {is : List Nat} {ss : List Slot} {vs : List V} {env env' : Env} {σ : St}, R G W env p σ H → SlotsOk G W H0 H vs ss → setAll is ss env = some env' →
    (∀ (i : Nat) (s : Slot) (a : Addr), ss[i]? = some s → s.isOwn = true → vs[i]? = some (.ref a) → ¬ Own env σ a) →
    is.length = vs.length ∧ R G W env' p (setV is vs σ) H ∧ ∀ a, Own env' (setV is vs σ) a → Own env σ a ∨ H0 a = none
  | [], [], vs, env, env', σ, hR, sl, h, _ => by
    obtain ⟨ok, _⟩ := sl
    cases ok
    cases h
    exact ⟨rfl, hR, fun a z => .inl z⟩
  | [], _ :: _, vs, env, env', σ, hR, sl, h, _ => by cases h
  | _ :: _, [], vs, env, env', σ, hR, sl, h, _ => by cases h
  | i :: is, s :: ss, vs, env, env', σ, hR, ⟨ok, ap⟩, h, no => by
    cases ok with
    | @cons v vs _ _ h1 h2 =>
      have h : (if i < env.length then setAll is ss (env.set i s) else none) = some env' := h
      split at h
      · rename_i hi
        obtain ⟨so, fr⟩ := h1
        have fr2 : s.isOwn = true → ∃ a, v = .ref a ∧ ¬ W.S a ∧ ¬ penA G W a ∧ ¬ Own env σ a := fun z => by
          obtain ⟨a, e, h0, h1, h2⟩ := fr z
          exact ⟨a, e, h1, h2, no 0 s a rfl z (by rw [e]; rfl)⟩
        obtain ⟨R2, o2⟩ := hR.setX hi so fr2
        obtain ⟨l3, R3, o3⟩ := setAll_ok R2 ⟨h2, fun a b s' t' v' e1 e2 e3 e4 e5 e6 => Nat.succ.inj (ap (a + 1) (b + 1) s' t' v' (by rw [List.getElem?_cons_succ]; exact e1) e2 (by rw [List.getElem?_cons_succ]; exact e3) (by rw [List.getElem?_cons_succ]; exact e4) e5 (by rw [List.getElem?_cons_succ]; exact e6))⟩ h
          fun j t' a e1 e2 e3 oo => by
            rcases o2 a oo with z | ⟨z1, z2⟩
            · exact no (j + 1) t' a (by rw [List.getElem?_cons_succ]; exact e1) e2 (by rw [List.getElem?_cons_succ]; exact e3) z
            · have := ap 0 (j + 1) s t' v rfl z1 rfl (by rw [List.getElem?_cons_succ]; exact e1) e2 (by rw [List.getElem?_cons_succ, z2]; exact e3)
              cases this
        refine ⟨congrArg (· + 1) l3, R3, fun a z => ?_⟩
        rcases o3 a z with z | z
        · rcases o2 a z with z | ⟨z1, z2⟩
          · exact .inl z
          · obtain ⟨b, eb, h0, _⟩ := fr z1
            rw [z2] at eb
            cases eb
            exact .inr h0
        · exact .inr z
      · cases h
def sParX (is : List Nat) (f : FV (List Slot)) : FS := fun env p => match f env p with
  | some (ss, p) => (setAll is ss env).map fun e => .nx e p
  | none => none
theorem parX_core {is : List Nat} {gx : FV (List Slot)} (h : tS G (sParX is gx) Dn σ H) : tAX G gx σ H fun vs H1 => is.length = vs.length ∧ Dn.nx (setV is vs σ) H1 ∧ ∀ q, H1 q = none → Dn.nx (setV is vs σ) (upd H1 q (.tup vs)) := by
  obtain ⟨W, env, p, o, hR, hf, k⟩ := h
  unfold sParX at hf
  split at hf
  · rename_i ss p1 q
    cases q2 : setAll is ss env with
    | none => rw [q2] at hf; cases hf
    | some env' =>
      rw [q2] at hf
      cases hf
      refine ⟨W, env, p, ss, p1, hR, q, fun W1 H1 vs t1 R1 sl => ?_⟩
      obtain ⟨l2, R2, o2⟩ := setAll_ok (H0 := H) R1 sl q2 fun i s a e1 e2 e3 oo => by
        obtain ⟨_, fr⟩ := Paired.get2 sl.ok e3 e1
        obtain ⟨b, eb, h0, _⟩ := fr e2
        cases eb
        obtain ⟨o', e', _⟩ := hR.own_obj oo
        rw [h0] at e'
        cases e'
      have t1' : Tr (ownA G W env σ) W H W1 H1 := t1.mono fun a z => .inl z
      exact ⟨l2, k W1 _ H1 t1' R2 o2, fun q hq => k W1 _ _ (t1'.trans (Tr.new hq) fun x (z : False) => z.elim) (R2.new hq) o2⟩
  · cases hf
theorem s_par3 {i j l : Nat} {x y z : Str} {px py pz pt : Pos} {kt k2 pt2} {gx : FV (List Slot)} (hc : X.calm = true) (hN : X.N.Nodup) (hi : X.N[i]? = some x) (hj : X.N[j]? = some y) (hl : X.N[l]? = some z) (hij : i ≠ j) (hil : i ≠ l) (hjl : j ≠ l)
    (hx : X.env.scope.names.lookup x = some .local) (hy : X.env.scope.names.lookup y = some .local) (hz : X.env.scope.names.lookup z = some .local) (ha : PA X [a, b, c] (tAX G gx))
    (hw : swappedStores [.Tuple [.Name x px, .Name y py, .Name z pz] kt pt] (.Tuple [a, b, c] k2 pt2) X.env = pure (some [x, y, z]))
    (hs : swapsWithSole [.Tuple [.Name x px, .Name y py, .Name z pz] kt pt] (.Tuple [a, b, c] k2 pt2) pos.line X.env = pure false := by rfl) :
    PS X (.Assign [.Tuple [.Name x px, .Name y py, .Name z pz] kt pt] (.Tuple [a, b, c] k2 pt2) pos) (tS G (sParX [i, j, l] gx)) :=
  psI (ps_par3 hc hN hi hj hl hij hil hjl hx hy hz ha hw hs) fun D σ H h => by
    obtain ⟨W, env, p, r, p', hR, hf, k⟩ := parX_core h
    refine ⟨W, env, p, r, p', hR, hf, fun W' H' vs t R' sl => ?_⟩
    obtain ⟨hl, hn, _⟩ := k W' H' vs t R' sl
    match vs, hl, hn with
    | [u, v, w], _, hn => exact ⟨u, v, w, rfl, hn⟩
theorem s_par2 {i j : Nat} {x y : Str} {px py pt : Pos} {kt k2 pt2} {gx : FV (List Slot)} (hc : X.calm = true) (hN : X.N.Nodup) (hi : X.N[i]? = some x) (hj : X.N[j]? = some y) (hij : i ≠ j)
    (hx : X.env.scope.names.lookup x = some .local) (hy : X.env.scope.names.lookup y = some .local) (ha : PA X [a, b] (tAX G gx))
    (hw : swappedStores [.Tuple [.Name x px, .Name y py] kt pt] (.Tuple [a, b] k2 pt2) X.env = pure (some [x, y]))
    (hs : swapsWithSole [.Tuple [.Name x px, .Name y py] kt pt] (.Tuple [a, b] k2 pt2) pos.line X.env = pure false := by rfl) :
    PS X (.Assign [.Tuple [.Name x px, .Name y py] kt pt] (.Tuple [a, b] k2 pt2) pos) (tS G (sParX [i, j] gx)) :=
  psI (ps_par hc hN hi hj hij hx hy ha hw hs) fun D σ H h => by
    obtain ⟨W, env, p, r, p', hR, hf, k⟩ := parX_core h
    refine ⟨W, env, p, r, p', hR, hf, fun W' H' vs t R' sl => ?_⟩
    obtain ⟨hl, hn, _⟩ := k W' H' vs t R' sl
    match vs, hl, hn with
    | [u, v], _, hn => exact ⟨u, v, rfl, hn⟩
/-- the stores of names in a row -/
def gNames : List Nat → TGs
  | [] => gNil
  | i :: is => gCons (gName i) (gNames is)
theorem gNames_ok : ∀ {is : List Nat} {vs : List V} {σ : St} {Q : St → Hp → Prop}, is.length = vs.length → Q (setV is vs σ) H → gNames is vs σ H Q
  | [], [], σ, Q, _, h => ⟨rfl, h⟩
  | i :: is, v :: vs, σ, Q, hl, h => ⟨v, vs, rfl, gNames_ok (Nat.succ.inj hl) h⟩
/-- a, b, .. = e, f, .. by a tuple that is made and taken apart -/
theorem s_parT {is : List Nat} {ts : List Expr} {gx : FV (List Slot)} {kt k2 : Nat} {pt pt2 : Pos} {n : Nat} (hc : X.calm = true) (ha : PA X es (tAX G gx)) (hg : PGs X ts (gNames is)) (hn : (assignEach ts X.env).length = n := by rfl) (hl : is.length = n := by rfl) (hz : n ≤ 1000 := by decide)
    (hst : (assignEach ts X.env).findIdx? (·.1) = none := by rfl) (hs : swapsWithSole [.Tuple ts kt pt] (.Tuple es k2 pt2) pos.line X.env = pure false := by rfl) (hw : swappedStores [.Tuple ts kt pt] (.Tuple es k2 pt2) X.env = pure none := by rfl)
    (h1 : (assignEach [.Tuple ts kt pt] X.env).map (·.2) = [assign (.Tuple ts kt pt) X.env] := by rfl) : PS X (.Assign [.Tuple ts kt pt] (.Tuple es k2 pt2) pos) (tS G (sParX is gx)) :=
  psI (ps_asg (pe_tup ha) (pg_tup hc hg hn hst) hs hw h1) fun D σ H h => by
    obtain ⟨W, env, p, r, p', hR, hf, k⟩ := parX_core h
    refine ⟨W, env, p, r, p', hR, hf, fun W' H' vs t R' sl => ?_⟩
    obtain ⟨hl2, _, hn2⟩ := k W' H' vs t R' sl
    exact ⟨by rw [sizeLine_eq]; omega, fun q hq => ⟨q, vs, rfl, SqT.of upd_same, by omega, gNames_ok hl2 (hn2 q hq)⟩⟩
/-- a, b = e, e a tuple of data -/
def sUnp (is : List Nat) (f : FV D) : FS := fun env p => match f env p with
  | some (.tup ds, p) => (setAll is (ds.map Slot.sh) env).map fun e => .nx e p
  | _ => none
theorem shs_pair : ∀ {vs : List V} {ds : List D}, Reps G W H vs ds → Paired (fun v s => SlotOk G W H v s ∧ Fresh G W H1 s v) vs (ds.map Slot.sh)
  | _, _, .nil => .nil
  | _, _, .cons h t => .cons ⟨h, fun z => by cases z⟩ (shs_pair t)
theorem shs_ok {vs : List V} {ds : List D} (h : Reps G W H vs ds) : SlotsOk G W H1 H vs (ds.map Slot.sh) :=
  ⟨shs_pair h, fun i j s u v e1 e2 _ _ _ _ => by
    rw [List.getElem?_map] at e1
    cases q : ds[i]? with
    | none => rw [q] at e1; cases e1
    | some d => rw [q] at e1; cases e1; cases e2⟩
theorem s_unp {is : List Nat} {ts : List Expr} {kt : Nat} {pt : Pos} {n : Nat} (hc : X.calm = true) (ha : PE X a (tE G fa)) (hg : PGs X ts (gNames is)) (hn : (assignEach ts X.env).length = n := by rfl) (hl : is.length = n := by rfl)
    (hst : (assignEach ts X.env).findIdx? (·.1) = none := by rfl) (hs : swapsWithSole [.Tuple ts kt pt] a pos.line X.env = pure false := by rfl) (hw : swappedStores [.Tuple ts kt pt] a X.env = pure none := by rfl)
    (h1 : (assignEach [.Tuple ts kt pt] X.env).map (·.2) = [assign (.Tuple ts kt pt) X.env] := by rfl) : PS X (.Assign [.Tuple ts kt pt] a pos) (tS G (sUnp is fa)) :=
  psI (ps_asg ha (pg_tup hc hg hn hst) hs hw h1) fun D σ H ⟨W, env, p, o, hR, hf, k⟩ => by
    unfold sUnp at hf
    split at hf
    · rename_i ds p1 q
      cases q2 : setAll is (ds.map Slot.sh) env with
      | none => rw [q2] at hf; cases hf
      | some env' =>
        rw [q2] at hf
        cases hf
        refine ⟨W, env, p, _, p1, hR, q, fun W1 H1 v t1 R1 q1 => ?_⟩
        cases q1 with
        | @tup x xs _ e r =>
          obtain ⟨l2, R2, o2⟩ := setAll_ok (H0 := H1) R1 (shs_ok r) q2 fun i s a e1 e2 _ _ => by
            rw [List.getElem?_map] at e1
            cases qq : ds[i]? with
            | none => rw [qq] at e1; cases e1
            | some d => rw [qq] at e1; cases e1; cases e2
          refine ⟨x, xs, rfl, SqT.of e, by omega, gNames_ok l2 ?_⟩
          exact k W1 _ H1 (t1.mono fun a z => .inl z) R2 fun a z => (o2 a z).imp id fun z => Classical.byContradiction fun n => t1.tk a n z
    · cases hf

/-! ### defs as they are called -/
def AL (n : Nat) (g : FV (List D)) : Prop := ∀ env p ds p', g env p = some (ds, p') → ds.length = n
theorem al0 : AL 0 aNil := fun env p ds p' h => by cases h; rfl
theorem al1 {n : Nat} {f : FV D} {g : FV (List D)} (h : AL n g) : AL (n + 1) (aCons f g) := fun env p ds p' e => by
  unfold aCons at e
  cases h1 : f env p with
  | none => rw [h1] at e; cases e
  | some z =>
    obtain ⟨x, p1⟩ := z
    rw [h1] at e
    simp only [Option.bind_eq_bind, Option.bind_some] at e
    cases h2 : g env p1 with
    | none => rw [h2] at e; cases e
    | some z =>
      obtain ⟨l, p2⟩ := z
      rw [h2] at e
      cases e
      exact congrArg (· + 1) (h _ _ _ _ h2)
structure Cal (P : Program) (w : World) (K : PySem.W.Frag) (mg : Str → Option Value) (base : Heap) (G : Gm) (k : Nat) (x : Str) (n : Nat) (m : MF) : Prop where
  ex : ∃ f fd ps, FnOk P w K mg base CX0 k f fd ps (spM G n m) ∧ ps.length = n ∧ mg x = some (.ref f) ∧ PySem.W.keepIn K (.ref f) = true ∧ Binds K fd ps []
theorem e_cal {g : FV (List D)} {m : MF} {n k : Nat} {x : Str} {p : Pos} (F : Cal X.prog X.w X.K X.mg X.base G k x n m) (hr : Room k X.A) (hg : Gl X x) (hl : AL n g) (ha : PA X (e :: es) (tA G g)) (hdb : (x == ("__debug__" : Str)) = false := by decide)
    (he : starEach (e :: es) X.env = (false, eval e X.env) :: starEach es X.env := by rfl) (hpl : (backTo pos (starEach es X.env)).any (·.1) = false := by rfl) : PE X (.Call (.Name x p) (e :: es) [] pos) (tE G (fCall m g)) := by
  obtain ⟨f, fd, ps, F, hn, hm, hk, hb⟩ := F.ex
  exact e_call F hn hr hg hm hk hb hl ha hdb he hpl
structure Mak (P : Program) (w : World) (K : PySem.W.Frag) (mg : Str → Option Value) (base : Heap) (G : Gm) (k : Nat) (x : Str) (c : String) (n : Nat) (m : MI) : Prop where
  ex : ∃ C f fd ps, Mk K C f ∧ G c = some C ∧ FnOk P w K mg base CX0 k f fd ps (spI G c n m) ∧ mg x = some (.ref C) ∧ Binds K fd ps []
theorem e_mak {g : FV (List D)} {m : MI} {c : String} {n k : Nat} {x : Str} {p : Pos} (F : Mak X.prog X.w X.K X.mg X.base G k x c n m) (hr : Room (k + 1) X.A) (hg : Gl X x) (hl : AL n g) (ha : PA X (e :: es) (tA G g)) (hdb : (x == ("__debug__" : Str)) = false := by decide)
    (he : starEach (e :: es) X.env = (false, eval e X.env) :: starEach es X.env := by rfl) (hpl : (backTo pos (starEach es X.env)).any (·.1) = false := by rfl) : PE X (.Call (.Name x p) (e :: es) [] pos) (tE G (fMake c m g)) := by
  obtain ⟨C, f, fd, ps, M, hC, F, hm, hb⟩ := F.ex
  exact e_make M hC F hr hg hm hb hl ha hdb he hpl
end
end Cr
namespace Cr
open PySem PySem.Spec PyProof.Rows L2
/-- a list (k = false), a tuple (k = true) -/
def Sq (K : PySem.W.Frag) (k : Bool) (H : Hp) (a : Addr) (xs : List V) : Prop := match k with
  | true => SqT K H a xs
  | false => SqL K H a xs
def ItS (k : Bool) (h : Heap) (it a : Addr) (i : Nat) : Prop := match k with
  | true => h.IsTupleIter it a i
  | false => h.IsListIter it a i
def PlS (k : Bool) (h : Heap) (a : Addr) (its : Array Value) : Prop := match k with
  | true => h.IsTuple a its
  | false => h.IsList a its
section
variable {X : Cx} {pins : List (Addr × Obj)} {σ : L2.St} {H : Hp} {s : Shared} {a it : Addr} {xs ys : List V} {k : Bool}
theorem Sq.items (I : Inv X pins σ H s) (h : Sq X.K k H a xs) : ∃ its : List Value, Vals xs its ∧ PlS k s.heap a its.toArray := by
  cases k with
  | true =>
    obtain ⟨its, r, p, _⟩ := I.tuple h
    exact ⟨its, r, show s.heap.IsTuple a its.toArray from p⟩
  | false =>
    obtain ⟨its, r, p, _⟩ := I.list h
    exact ⟨its, r, p.isList⟩
theorem Sq.inj (I : Inv X pins σ H s) (h : Sq X.K k H a xs) (h' : Sq X.K k H a ys) : xs = ys := by
  cases k with
  | true => exact I.tuple_inj h h'
  | false => exact I.list_inj h h'
theorem ItS.at {h h' : Heap} {i : Nat} (st : ItS k h it a i) (e : ∀ o, h.get? it = some o → h'.get? it = some o) : ItS k h' it a i := by
  cases k with
  | true => exact Heap.IsTupleIter.at st e
  | false => exact Heap.IsListIter.at st e
theorem ItS.obj {h : Heap} {i : Nat} (st : ItS k h it a i) : ∃ o, h.get? it = some o ∧ ∀ v, o.data ≠ .cell v := by
  cases k with
  | true =>
    obtain ⟨o, e, c, d⟩ := st
    exact ⟨o, e, fun v z => by rw [d] at z; cases z⟩
  | false =>
    obtain ⟨o, e, c, d⟩ := st
    exact ⟨o, e, fun v z => by rw [d] at z; cases z⟩
theorem PlS.lt {h : Heap} {its : Array Value} (p : PlS k h a its) : a < h.objs.size := by
  cases k with
  | true =>
    obtain ⟨o, e, _⟩ := (show h.IsTuple a its from p)
    exact Heap.lt_size e
  | false =>
    obtain ⟨o, e, _⟩ := (show h.IsList a its from p)
    exact Heap.lt_size e
end
theorem draws_S {prog : Program} {w : World} {A : Around} {k : Bool} {it a : Addr} (hh : A.handled = none) (hne : a ≠ it) (items : Array Value) :
    Draws prog w A it [it, a] items.size (fun i v => items[i]? = some v) (fun i h => ItS k h it a i ∧ PlS k h a items) := by
  cases k with
  | true => exact Draws.tuple hh it a hne items
  | false => exact Draws.list hh it a hne items
theorem begins_S {k : Bool} (a : Addr) (items : Array Value) : ∃ o, Begins (.ref a) o (fun h => PlS k h a items) ∧ ∀ h : Heap, ∀ it, h.get? it = some o → ItS k h it a 0 := by
  cases k with
  | true => exact ⟨_, begins_tuple a items, fun h it e => ⟨_, e, rfl, rfl⟩⟩
  | false => exact ⟨_, begins_list a items, fun h it e => ⟨_, e, rfl, rfl⟩⟩

/-! ### enumerate -/
def IteS (K : PySem.W.Frag) (k : Bool) (a : Addr) : It :=
  ⟨fun i H => ∃ (xs : List V) (x : V), Sq K k H a xs ∧ xs[i]? = some x, fun i H v H' => ∃ T x, v = .ref T ∧ H T = none ∧ H' = upd H T (.tup [.int (i : Nat), x]) ∧ ∀ xs, Sq K k H a xs → xs[i]? = some x, fun i H => ∃ xs : List V, Sq K k H a xs ∧ xs.length = i⟩
theorem turn_enumS {P : Program} {w : World} {K : PySem.W.Frag} {elts : List Expr} {kk : Nat} {tpos : Pos} {k : Bool} (a e it : Addr) (hea : e ≠ a) (hia : it ≠ a) :
    Turn P w K (.Tuple elts kk tpos) (IteS K k a) [e, it] e (fun i h => (∃ old, IsEnum h e it ((i : Nat) : Int) old) ∧ ItS k h it a i ∧ e ≠ it) where
  mem := by simp
  obj := fun i h st b hb => by
    obtain ⟨⟨old, he⟩, hi, _⟩ := st
    have e' : b = e ∨ b = it := by simpa using hb
    rcases e' with z | z
    · rw [z]; exact ⟨_, he, fun v q => nomatch q⟩
    · rw [z]; exact hi.obj
  keep := fun i h h' st kp => let ⟨⟨old, he⟩, hi, hne⟩ := st; ⟨⟨old, kp e (by simp) _ he⟩, hi.at fun o q => kp it (by simp) o q, hne⟩
  item := by
    intro X hP hw hK hc i pins s σ H E I hf st hg
    subst hP hw hK
    obtain ⟨⟨old, he⟩, hit, hne⟩ := st
    obtain ⟨xs, x, hq, hx⟩ := hg
    obtain ⟨its, rv, p⟩ := hq.items I
    obtain ⟨u, hu, ru⟩ := rv.get hx
    have hel : e < s.heap.objs.size := Heap.lt_size he
    have hil : it < s.heap.objs.size := by obtain ⟨_, q, _⟩ := hit.obj; exact Heap.lt_size q
    have hlt : i < its.toArray.size := by
      have := (List.getElem?_eq_some_iff.mp hu).1
      simpa using this
    refine wpAny_pyNext_enum_itemC (D := draws_S (A := X.A.in1) (k := k) (I.ok.hd hc) (Ne.symm hia) its.toArray) he ⟨hit, p⟩ hlt hne (by simp [hne, hea]) fun u' h' tk hu' ho hst' hT hsz hk => ?_
    have eu : u' = u := by
      have q : its.toArray[i]? = some u := by simpa using hu
      rw [q] at hu'
      exact (Option.some.inj hu').symm
    subst eu
    refine ⟨_, rfl, wpAny_letOwnedTupleGo_enum (s := { s with heap := h', toks := tk + 1 }) ho fun h'' he' sb => ?_⟩
    have hT2 : h''.get? s.heap.objs.size = some { cls := .type "tuple", data := .seq #[.int i tk, u'] } := (sb.2 _ (Nat.ne_of_gt hel)).trans hT
    have new : ObjOk X.prog X.w (upd H s.heap.objs.size (.tup [.int (i : Nat), x])) h'' s.heap.objs.size (.tup [.int (i : Nat), x]) :=
      ⟨by show 2 ≤ sizeLine; decide, [.int i tk, u'], .cons ⟨_, rfl⟩ (.cons ru .nil), ⟨_, hT2, rfl, _, rfl⟩⟩
    have I1 : Inv X pins σ (upd H s.heap.objs.size (.tup [.int (i : Nat), x])) { s with heap := h'', toks := tk + 1 } :=
      I.turnedNew (ch := [e, it]) (fun b ob hb q => (sb.2 b (fun z => hb (by simp [z]))).trans (hk b ob (fun z => hb (by simp [z])) (fun z => hb (by simp [z])) q)) hf (Nat.le_refl _) new
    refine ⟨.ref s.heap.objs.size, _, I1, rfl, ⟨_, x, rfl, I.hok.fresh (Nat.le_refl _), rfl, fun ys hy => by rw [Sq.inj I hy hq]; exact hx⟩, ⟨⟨u', ?_⟩, hst'.1.at fun o q => (sb.2 it (Ne.symm hne)).trans q, hne⟩, fun b hb => ?_⟩
    · have e1 : ((i + 1 : Nat) : Int) = (i : Int) + 1 := by omega
      rw [e1]; exact he'
    · have hb' : b < s.heap.objs.size := by
        have e' : b = e ∨ b = it := by simpa using hb
        rcases e' with z | z
        · rw [z]; exact hel
        · rw [z]; exact hil
      rw [upd_ne (Nat.ne_of_lt hb')]
      exact (hf b hb).1
  done := by
    intro X hP hw hK hc i pins s σ H E I hf st hg
    subst hP hw hK
    obtain ⟨⟨old, he⟩, hit, hne⟩ := st
    obtain ⟨xs, hq, hx⟩ := hg
    obtain ⟨its, rv, p⟩ := hq.items I
    obtain ⟨f0, f1, f2, f3, f4, f5⟩ := hf it (by simp)
    have hl := rv.length
    have e2 : i = its.toArray.size := by rw [← hx, hl]; simp
    subst e2
    exact wpAny_pyNext_enum_endD (D := draws_S (A := X.A.in1) (k := k) (I.ok.hd hc) (Ne.symm hia) its.toArray) he ⟨hit, p⟩ fun h' eb => ⟨rfl, I.turned (t' := s.toks) (fun b o hb q => eb b o hb q) f0 f1 f3 f4 f5⟩
  self := fun A i s Q E st h => let ⟨⟨_, he⟩, _⟩ := st; wpAny_pyIter_enum he h
/-- enumerate(v) itself -/
theorem new_enum1 {v : Value} {ob : Obj} {HH : Heap → Prop} (B : Begins v ob HH) :
    Meets (Builtin.«enumerate.__new__» ⟨[.type "enumerate", v], []⟩) (fun _ RR st => HH st.heap ∧
      RR (.ok (.ret (.ref (st.heap.push ob).objs.size))) { st with heap := (st.heap.push ob).push { cls := .type "enumerate", data := .fields #[.none, .bool false, .ref st.heap.objs.size, rawInt 0, .none, .none] } }) :=
  .of_wp fun pg ww AA RR st hh => by
    obtain ⟨he, gg, dd, tt, oo⟩ := st
    obtain ⟨k1, hh⟩ := hh
    have hs0 := sub_enumerate
    have qq : ∀ {A' : Around} {EE : Value → Shared → Prop} {QQ : Value → Shared → Prop}, QQ (.ref he.objs.size) ⟨he.push ob, gg, dd, tt, oo⟩ → wpAny (model pg ww) A' (pyIter v) QQ EE ⟨he, gg, dd, tt, oo⟩ :=
      fun z => B.iter pg ww _ _ ⟨he, gg, dd, tt, oo⟩ _ k1 z
    wp_walk using qq
    refine wpAny_stack_any fun stk => wpAny_pure ?_
    split
    · rename_i cc _ _ _ _ _
      cases (cc == Value.type "enumerate")
      · wp_walk using qq
        exact ⟨_, rfl, hh⟩
      · wp_walk using qq
        exact ⟨_, rfl, hh⟩
    · wp_walk using qq
      exact ⟨_, rfl, hh⟩
theorem call_enum1 {pg : Program} {ww : World} {AA : Around} {EE : Value → Shared → Prop} {st : Shared} {v : Value} {ob : Obj} {HH : Heap → Prop} {QQ : Value → Shared → Prop} (B : Begins v ob HH) (k1 : HH st.heap)
    (hq : ∀ hh, IsEnum hh (st.heap.objs.size + 1) st.heap.objs.size 0 .none → hh.get? st.heap.objs.size = some ob → (∀ b u, st.heap.get? b = some u → hh.get? b = some u) → QQ (.ref (st.heap.objs.size + 1)) { st with heap := hh }) :
    wpAny (model pg ww) AA (call (.type "enumerate") [v]) QQ EE st := by
  refine callType_new F.called_enumerate (by decide) (F.typeCall_enumerate_1 _) (F.newCall_enumerate_1 _) (fun obj => F.args_object_init_2 obj _) F.entry_enumerate_new (new_enum1 B) ⟨k1, ?_⟩
  have sz : (st.heap.push ob).objs.size = st.heap.objs.size + 1 := Heap.size_push ..
  show _ ∧ _
  rw [sz]
  have he : IsEnum ((st.heap.push ob).push { cls := .type "enumerate", data := .fields #[.none, .bool false, .ref st.heap.objs.size, rawInt 0, .none, .none] }) (st.heap.objs.size + 1) st.heap.objs.size 0 .none := by
    have q := Heap.get?_push_size (st.heap.push ob) (o := { cls := .type "enumerate", data := .fields #[.none, .bool false, .ref st.heap.objs.size, rawInt 0, .none, .none] }) rfl
    rw [sz] at q
    exact q
  exact ⟨⟨_, he, rfl⟩, hq _ he (Heap.get?_push_of_some _ (Heap.get?_push_size _ B.free)) fun b u x => Heap.get?_push_of_some _ (Heap.get?_push_of_some _ x)⟩
def iEnumS (K : PySem.W.Frag) (k : Bool) (ta : TA) : TI := fun σ H R => ta σ H fun vs H1 => ∃ a xs, vs = [.ref a] ∧ Sq K k H1 a xs ∧ R (IteS K k a) H1
theorem pi_enumS {X : Cx} {k : Bool} {e : Expr} {ta : TA} {p pos tpos : Pos} {elts : List Expr} {kk : Nat} (hg : Gl X "enumerate") (hm : X.mg "enumerate" = none) (ha : PA X [e] ta) (hs : starEach [e] X.env = [(false, eval e X.env)] := by rfl) :
    PI X (.Tuple elts kk tpos) (.Call (.Name "enumerate" p) [e] [] pos) (iEnumS X.K k ta) := by
  refine ⟨fun pins s σ H R I h => ?_⟩
  refine Call_ (ld_blt I hg hm boot_enumerate (PyProof.Rows.callWith_type1 (thn (ha.run pos pins s σ H _ I h) fun us s1 ⟨vs, H1, I1, r1, q1⟩ => ?_) hs rfl))
  obtain ⟨a, xs, ex, hq, q⟩ := q1
  subst ex
  cases r1 with
  | cons r rr =>
    cases rr
    cases r
    obtain ⟨its, rv, p'⟩ := hq.items I1
    have hal := p'.lt
    have fin : ∀ h', IsEnum h' (s1.heap.objs.size + 1) s1.heap.objs.size 0 .none → ItS k h' s1.heap.objs.size a 0 → (∀ b o, s1.heap.get? b = some o → h'.get? b = some o) →
        wpAny (model X.prog X.w) X.A (pyIter (.ref (s1.heap.objs.size + 1))) (PIE X pins σ (.Tuple elts kk tpos) R) X.xe { s1 with heap := h' } := fun h' he hit hk => by
      refine wpAny_pyIter_enum he ?_
      have I2 : Inv X pins σ H1 { s1 with heap := h' } := I1.kept (t' := s1.toks) hk
      refine ⟨s1.heap.objs.size + 1, [s1.heap.objs.size + 1, s1.heap.objs.size], _, _, H1, rfl, I2, turn_enumS (k := k) a (s1.heap.objs.size + 1) s1.heap.objs.size (Nat.ne_of_gt (Nat.lt_succ_of_lt hal)) (Nat.ne_of_gt hal), ⟨⟨.none, he⟩, hit, Nat.succ_ne_self _⟩, fun b hb => ?_, q⟩
      have e' : b = s1.heap.objs.size + 1 ∨ b = s1.heap.objs.size := by simpa using hb
      have hle : s1.heap.objs.size ≤ b := by
        rcases e' with z | z
        · rw [z]; exact Nat.le_add_right _ _
        · rw [z]; exact Nat.le_refl _
      exact I1.fpOk hle (I1.hok.fresh hle)
    obtain ⟨ob, B, hB⟩ := begins_S (k := k) a its.toArray
    exact call_enum1 B p' fun h' he hit hk => fin h' he (hB h' _ hit) hk

/-! ### zip of two, each a list or a tuple -/
def ItzS (K : PySem.W.Frag) (k l : Bool) (a b : Addr) : It :=
  ⟨fun i H => ∃ (xs ys : List V) (x y : V), Sq K k H a xs ∧ Sq K l H b ys ∧ xs[i]? = some x ∧ ys[i]? = some y,
    fun i H v H' => ∃ T x y, v = .ref T ∧ H T = none ∧ H' = upd H T (.tup [x, y]) ∧ (∀ xs, Sq K k H a xs → xs[i]? = some x) ∧ ∀ ys, Sq K l H b ys → ys[i]? = some y,
    fun i H => ∃ xs ys : List V, Sq K k H a xs ∧ Sq K l H b ys ∧ i ≤ xs.length ∧ i ≤ ys.length ∧ (i = xs.length ∨ i = ys.length)⟩
structure ZAp (z TI TO i1 i2 a b : Addr) : Prop where
  q1 : TI ≠ z
  q2 : TO ≠ z
  q3 : TI ≠ TO
  q4 : TI ≠ i1
  q5 : TI ≠ i2
  q6 : i1 ≠ i2
  q7 : z ≠ i1
  q8 : z ≠ i2
  q9 : TO ≠ i1
  q10 : TO ≠ i2
  a1 : z ≠ a
  a2 : TO ≠ a
  a3 : i1 ≠ a
  a4 : i2 ≠ a
  b1 : z ≠ b
  b2 : TO ≠ b
  b3 : i1 ≠ b
  b4 : i2 ≠ b
theorem ZAp.sep {z TI TO i1 i2 a b : Addr} (D : ZAp z TI TO i1 i2 a b) : ZipSep2 z TI TO i1 i2 [i1, a] [i2, b] :=
  ⟨D.q1, D.q2, D.q3, D.q4, by simp, by simp [D.q7, D.a1], by simp [D.q9, D.a2], D.q5, by simp, by simp [D.q8, D.b1], by simp [D.q10, D.b2], by simp [D.q6, D.b3], by simp [Ne.symm D.q6, D.a4]⟩
theorem turn_zipS {P : Program} {w : World} {K : PySem.W.Frag} {elts : List Expr} {kk : Nat} {tpos : Pos} {k l : Bool} {a b z TI TO i1 i2 : Addr} (D : ZAp z TI TO i1 i2 a b) :
    Turn P w K (.Tuple elts kk tpos) (ItzS K k l a b) [z, TI, TO, i1, i2] z (fun i h => IsZip h z TI TO .none ∧ IsTupOf2 h TI (.ref i1) (.ref i2) ∧ (∃ x y, IsTupOf2 h TO x y) ∧ ItS k h i1 a i ∧ ItS l h i2 b i) where
  mem := by simp
  obj := fun i h st c hc => by
    obtain ⟨hz, hTI, ⟨x, y, hTO⟩, h1, h2⟩ := st
    have five : c = z ∨ c = TI ∨ c = TO ∨ c = i1 ∨ c = i2 := by simpa using hc
    rcases five with q | q | q | q | q
    · subst q; exact ⟨_, hz, fun v q => nomatch q⟩
    · subst q; exact ⟨_, hTI, fun v q => nomatch q⟩
    · subst q; exact ⟨_, hTO, fun v q => nomatch q⟩
    · subst q; exact h1.obj
    · subst q; exact h2.obj
  keep := fun i h h' st kp => by
    obtain ⟨hz, hTI, ⟨x, y, hTO⟩, h1, h2⟩ := st
    exact ⟨kp z (by simp) _ hz, kp TI (by simp) _ hTI, ⟨x, y, kp TO (by simp) _ hTO⟩, h1.at fun o q => kp i1 (by simp) o q, h2.at fun o q => kp i2 (by simp) o q⟩
  item := by
    intro X hP hw hK hc i pins s σ H E I hf st hg
    subst hP hw hK
    obtain ⟨hz, hTI, ⟨x0, y0, hTO⟩, h1, h2⟩ := st
    obtain ⟨xs, ys, x, y, hqx, hqy, hx, hy⟩ := hg
    obtain ⟨its, rv, pl1⟩ := hqx.items I
    obtain ⟨its2, rv2, pl2⟩ := hqy.items I
    obtain ⟨u, hu, ru⟩ := rv.get hx
    obtain ⟨u2, hu2, ru2⟩ := rv2.get hy
    have zlt : z < s.heap.objs.size := Heap.lt_size hz
    have l1 : i < its.toArray.size := by
      have := (List.getElem?_eq_some_iff.mp hu).1
      simpa using this
    have l2 : i < its2.toArray.size := by
      have := (List.getElem?_eq_some_iff.mp hu2).1
      simpa using this
    refine wpAny_pyNext_zipD2_item D.sep (draws_S (A := X.A.in1) (k := k) (I.ok.hd hc) (Ne.symm D.a3) its.toArray) (draws_S (A := X.A.in1) (k := l) (I.ok.hd hc) (Ne.symm D.b4) its2.toArray) hz hTI hTO ⟨h1, pl1⟩ ⟨h2, pl2⟩ l1 l2
      fun v1 v2 h' tk e1 e2 z' TO' st1 st2 hT hsz hk => ?_
    have f1 : v1 = u := by
      have q : its.toArray[i]? = some u := by simpa using hu
      rw [q] at e1
      exact (Option.some.inj e1).symm
    have f2 : v2 = u2 := by
      have q : its2.toArray[i]? = some u2 := by simpa using hu2
      rw [q] at e2
      exact (Option.some.inj e2).symm
    subst f1 f2
    refine ⟨_, rfl, wpAny_letOwnedTupleGo_zip (s := { s with heap := h', toks := tk }) z' fun h3 z3 sb => ?_⟩
    have hT2 : h3.get? s.heap.objs.size = some { cls := .type "tuple", data := .seq #[v1, v2] } := (sb.2 _ (Nat.ne_of_gt zlt)).trans hT
    have newT : ObjOk X.prog X.w (upd H s.heap.objs.size (.tup [x, y])) h3 s.heap.objs.size (.tup [x, y]) :=
      ⟨by show 2 ≤ sizeLine; decide, [v1, v2], .cons ru (.cons ru2 .nil), ⟨_, hT2, rfl, _, rfl⟩⟩
    have J1 : Inv X pins σ (upd H s.heap.objs.size (.tup [x, y])) { s with heap := h3, toks := tk } :=
      I.turnedNew (t' := tk) (ch := [z, TI, TO, i1, i2]) (fun c o hb q => (sb.2 c (fun q2 => hb (by simp [q2]))).trans (hk c o (fun q2 => hb (by simp [q2])) (fun q2 => hb (by simp [q2])) (fun q2 => hb (by simp [q2])) (fun q2 => hb (by simp [q2])) q)) hf (Nat.le_refl _) newT
    refine ⟨.ref s.heap.objs.size, _, J1, rfl, ⟨_, x, y, rfl, I.hok.fresh (Nat.le_refl _), rfl, fun m hm => by rw [Sq.inj I hm hqx]; exact hx, fun m hm => by rw [Sq.inj I hm hqy]; exact hy⟩, ⟨z3, ?_, ⟨v1, v2, ?_⟩, ?_, ?_⟩, fun c hcm => ?_⟩
    · exact (sb.2 _ D.q1).trans (hk _ _ D.q1 D.q3 D.q4 D.q5 hTI)
    · exact (sb.2 _ D.q2).trans TO'
    · exact st1.1.at fun o q => (sb.2 _ (Ne.symm D.q7)).trans q
    · exact st2.1.at fun o q => (sb.2 _ (Ne.symm D.q8)).trans q
    · have clt : c < s.heap.objs.size := by
        have five : c = z ∨ c = TI ∨ c = TO ∨ c = i1 ∨ c = i2 := by simpa using hcm
        rcases five with q | q | q | q | q
        · subst q; exact zlt
        · subst q; exact Heap.lt_size hTI
        · subst q; exact Heap.lt_size hTO
        · subst q; obtain ⟨_, q, _⟩ := h1.obj; exact Heap.lt_size q
        · subst q; obtain ⟨_, q, _⟩ := h2.obj; exact Heap.lt_size q
      rw [upd_ne (Nat.ne_of_lt clt)]
      exact (hf c hcm).1
  done := by
    intro X hP hw hK hc i pins s σ H E I hf st hg
    subst hP hw hK
    obtain ⟨hz, hTI, ⟨x0, y0, hTO⟩, h1, h2⟩ := st
    obtain ⟨xs, ys, hqx, hqy, le1, le2, hend⟩ := hg
    obtain ⟨its, rv, pl1⟩ := hqx.items I
    obtain ⟨its2, rv2, pl2⟩ := hqy.items I
    have m1 : xs.length = its.toArray.size := by rw [rv.length]; simp
    have m2 : ys.length = its2.toArray.size := by rw [rv2.length]; simp
    rw [m1] at le1 hend
    rw [m2] at le2 hend
    exact wpAny_pyNext_zipD2_end D.sep (draws_S (A := X.A.in1) (k := k) (I.ok.hd hc) (Ne.symm D.a3) its.toArray) (draws_S (A := X.A.in1) (k := l) (I.ok.hd hc) (Ne.symm D.b4) its2.toArray) hz hTI hTO ⟨h1, pl1⟩ ⟨h2, pl2⟩ le1 le2 hend
      fun h' tk hk => ⟨rfl, I.turnedL (t' := tk) (ch := [z, TI, TO, i1, i2]) (fun c o hb q => hk c o (fun q2 => hb (by simp [q2])) (fun q2 => hb (by simp [q2])) (fun q2 => hb (by simp [q2])) (fun q2 => hb (by simp [q2])) q) hf⟩
  self := fun A i s Q E st h => wpAny_pyIter_zip st.1 h
def iZipS (K : PySem.W.Frag) (k l : Bool) (ta : TA) : TI := fun σ H R => ta σ H fun vs H1 => ∃ a b xs ys, vs = [.ref a, .ref b] ∧ Sq K k H1 a xs ∧ Sq K l H1 b ys ∧ R (ItzS K k l a b) H1
theorem pi_zipS {X : Cx} {k l : Bool} {e e2 : Expr} {ta : TA} {p pos tpos : Pos} {elts : List Expr} {kk : Nat} (hg : Gl X "zip") (hm : X.mg "zip" = none) (ha : PA X [e, e2] ta)
    (hs : starEach [e, e2] X.env = (false, eval e X.env) :: starEach [e2] X.env := by rfl) (hpl : (backTo pos (starEach [e2] X.env)).any (·.1) = false := by rfl) :
    PI X (.Tuple elts kk tpos) (.Call (.Name "zip" p) [e, e2] [] pos) (iZipS X.K k l ta) := by
  refine ⟨fun pins s σ H R I h => ?_⟩
  refine Call_ (ld_blt I hg hm PyProof.Rows.boot_zip (PyProof.Rows.callWith_type1 (thn (ha.run pos pins s σ H _ I h) fun us s1 ⟨vs, H1, I1, r1, q1⟩ => ?_) hs hpl))
  obtain ⟨a, b, xs, ys, ex, hqx, hqy, q⟩ := q1
  subst ex
  cases r1 with
  | cons r rr =>
    cases rr with
    | cons r' rr =>
      cases rr
      cases r
      cases r'
      obtain ⟨its, rv, pl1⟩ := hqx.items I1
      obtain ⟨its2, rv2, pl2⟩ := hqy.items I1
      have alt := pl1.lt
      have blt := pl2.lt
      obtain ⟨o1, B1, hB1⟩ := begins_S (k := k) a its.toArray
      obtain ⟨o2, B2, hB2⟩ := begins_S (k := l) b its2.toArray
      refine zip_begins2 B1 B2 pl1 pl2 fun h' hz hTI hTO g1 g2 hsz hk => wpAny_pyIter_zip hz ?_
      have J2 : Inv X pins σ H1 { s1 with heap := h' } := I1.kept (t' := s1.toks) hk
      have D : ZAp (s1.heap.objs.size + 4) (s1.heap.objs.size + 2) (s1.heap.objs.size + 3) s1.heap.objs.size (s1.heap.objs.size + 1) a b := by
        have h0 : ∀ n : Nat, (s1.heap.objs.size + n : Nat) ≠ a := fun n z => by
          have : s1.heap.objs.size + n ≤ a := Nat.le_of_eq z
          exact absurd (Nat.lt_of_lt_of_le alt (Nat.le_trans (Nat.le_add_right _ _) this)) (Nat.lt_irrefl _)
        have k0 : ∀ n : Nat, (s1.heap.objs.size + n : Nat) ≠ b := fun n z => by
          have : s1.heap.objs.size + n ≤ b := Nat.le_of_eq z
          exact absurd (Nat.lt_of_lt_of_le blt (Nat.le_trans (Nat.le_add_right _ _) this)) (Nat.lt_irrefl _)
        have ne : ∀ m n : Nat, m ≠ n → (s1.heap.objs.size + m : Nat) ≠ s1.heap.objs.size + n := fun m n hmn z => hmn (Nat.add_left_cancel z)
        exact ⟨ne 2 4 (by decide), ne 3 4 (by decide), ne 2 3 (by decide), ne 2 0 (by decide), ne 2 1 (by decide), ne 0 1 (by decide), ne 4 0 (by decide), ne 4 1 (by decide), ne 3 0 (by decide), ne 3 1 (by decide),
          h0 4, h0 3, h0 0, h0 1, k0 4, k0 3, k0 0, k0 1⟩
      refine ⟨s1.heap.objs.size + 4, [s1.heap.objs.size + 4, s1.heap.objs.size + 2, s1.heap.objs.size + 3, s1.heap.objs.size, s1.heap.objs.size + 1], _, _, H1, rfl, J2, turn_zipS (k := k) (l := l) D, ⟨hz, hTI, ⟨_, _, hTO⟩, hB1 h' _ g1, hB2 h' _ g2⟩, fun c hcm => ?_, q⟩
      have five : c = s1.heap.objs.size + 4 ∨ c = s1.heap.objs.size + 2 ∨ c = s1.heap.objs.size + 3 ∨ c = s1.heap.objs.size ∨ c = s1.heap.objs.size + 1 := by simpa using hcm
      have cle : s1.heap.objs.size ≤ c := by
        rcases five with q | q | q | q | q
        · rw [q]; exact Nat.le_add_right _ _
        · rw [q]; exact Nat.le_add_right _ _
        · rw [q]; exact Nat.le_add_right _ _
        · rw [q]; exact Nat.le_refl _
        · rw [q]; exact Nat.le_add_right _ _
      exact I1.fpOk cle (I1.hok.fresh cle)
end Cr
namespace Cr
open PySem L2
def enumD : Nat → List D → List D
  | _, [] => []
  | n, d :: ds => .tup [.int (n : Nat), d] :: enumD (n + 1) ds
def zipD : List D → List D → List D
  | x :: xs, y :: ys => .tup [x, y] :: zipD xs ys
  | _, _ => []
theorem enumD_len : ∀ (n : Nat) (ds : List D), (enumD n ds).length = ds.length
  | _, [] => rfl
  | n, d :: ds => congrArg (· + 1) (enumD_len (n + 1) ds)
theorem enumD_get : ∀ (n : Nat) (ds : List D) (i : Nat) (d : D), ds[i]? = some d → (enumD n ds)[i]? = some (.tup [.int ((n + i : Nat) : Int), d])
  | _, [], i, d, h => by simp at h
  | n, x :: ds, 0, d, h => by
    simp at h
    subst h
    rfl
  | n, x :: ds, i + 1, d, h => by
    rw [List.getElem?_cons_succ] at h
    have q := enumD_get (n + 1) ds i d h
    have e : n + 1 + i = n + (i + 1) := by omega
    rw [e] at q
    exact q
theorem zipD_len : ∀ (xs ys : List D), (zipD xs ys).length = min xs.length ys.length
  | [], _ => by simp [zipD]
  | _ :: _, [] => by simp [zipD]
  | x :: xs, y :: ys => by
    show (zipD xs ys).length + 1 = min (xs.length + 1) (ys.length + 1)
    rw [zipD_len xs ys]
    omega
theorem zipD_get : ∀ (xs ys : List D) (i : Nat) (x y : D), xs[i]? = some x → ys[i]? = some y → (zipD xs ys)[i]? = some (.tup [x, y])
  | [], _, i, _, _, h, _ => by simp at h
  | _ :: _, [], i, _, _, _, h => by simp at h
  | a :: xs, b :: ys, 0, x, y, h, k => by
    simp at h k
    subst h k
    rfl
  | a :: xs, b :: ys, i + 1, x, y, h, k => by
    rw [List.getElem?_cons_succ] at h k
    exact zipD_get xs ys i x y h k
section
variable {X : Cx} {G : Gm} {W : Wd} {H : Hp} {env : Env} {σ : St} {p : PenSt} {e a b : Expr} {fa fb : FV D} {pos tpos : Pos} {elts : List Expr} {kk : Nat}
/-- a sequence that may be walked while all but A stays -/
structure SeqA (G : Gm) (W : Wd) (A : Addr → Prop) (k : Bool) (H : Hp) (x : Addr) (ds : List D) : Prop where
  ex : ∃ xs, Reps G W H xs ds ∧ ((k = true ∧ H x = some (.tup xs)) ∨ (k = false ∧ H x = some (.lst xs) ∧ ¬ A x))
theorem SeqA.sq {K : PySem.W.Frag} {A : Addr → Prop} {k : Bool} {x : Addr} {ds : List D} {W2 : Wd} {H2 : Hp} (h : SeqA G W A k H x ds) (t : Tr A W H W2 H2) (hA : ∀ a, A a → ¬ W.S a ∧ ∃ o, H a = some o ∧ ∀ xs, o ≠ .tup xs) : ∃ xs, Sq K k H2 x xs ∧ Reps G W2 H2 xs ds := by
  obtain ⟨xs, r, ⟨rfl, e⟩ | ⟨rfl, e, n⟩⟩ := h.ex
  · exact ⟨xs, SqT.of (t.kp x _ (fun z => by
      obtain ⟨o, e', n⟩ := (hA x z).2
      rw [e] at e'
      cases e'
      exact n xs rfl) (fun _ z => by cases z) e), r.tr t hA⟩
  · exact ⟨xs, SqL.of (t.kp x _ n (fun _ z => by cases z) e), r.tr t hA⟩
theorem io_enum {K : PySem.W.Frag} {A : Addr → Prop} {k : Bool} {x : Addr} {ds : List D} (h : SeqA G W A k H x ds) (hA : ∀ a, A a → ¬ W.S a ∧ ∃ o, H a = some o ∧ ∀ xs, o ≠ .tup xs) : IterOk G (IteS K k x) W A H (enumD 0 ds) := fun W2 H2 t => by
  obtain ⟨xs, q, r⟩ := h.sq (K := K) t hA
  rw [enumD_len]
  refine ⟨fun i hi => ?_, ⟨xs, q, r.len⟩, fun i v H3 hi hy => ?_⟩
  · obtain ⟨v, ev, _⟩ := r.get (List.getElem?_eq_getElem hi)
    exact ⟨xs, v, q, ev⟩
  · obtain ⟨T, v', rfl, hT, rfl, hx⟩ := hy
    obtain ⟨d, ed, rd⟩ := r.getV (hx xs q)
    refine ⟨fun _ => Tr.new hT, fun p w => w.upd hT, _, enumD_get 0 ds i d ed, ?_⟩
    have k2 : ∀ {u : V} {d : D}, Rep G W2 H2 u d → Rep G W2 (upd H2 T (.tup [.int (i : Nat), v'])) u d := fun h => h.tr (Tr.new (A := fun _ => False) hT) fun _ z => z.elim
    rw [Nat.zero_add]
    exact .tup upd_same (.cons (.int _) (.cons (k2 rd) .nil))
theorem io_zip {K : PySem.W.Frag} {A : Addr → Prop} {k l : Bool} {x y : Addr} {ds es : List D} (h : SeqA G W A k H x ds) (h' : SeqA G W A l H y es) (hA : ∀ a, A a → ¬ W.S a ∧ ∃ o, H a = some o ∧ ∀ xs, o ≠ .tup xs) : IterOk G (ItzS K k l x y) W A H (zipD ds es) := fun W2 H2 t => by
  obtain ⟨xs, q, r⟩ := h.sq (K := K) t hA
  obtain ⟨ys, q', r'⟩ := h'.sq (K := K) t hA
  have l1 := r.len
  have l2 := r'.len
  rw [zipD_len]
  refine ⟨fun i hi => ?_, ⟨xs, ys, q, q', by omega, by omega, by omega⟩, fun i v H3 hi hy => ?_⟩
  · obtain ⟨v, ev, _⟩ := r.get (List.getElem?_eq_getElem (show i < ds.length by omega))
    obtain ⟨u, eu, _⟩ := r'.get (List.getElem?_eq_getElem (show i < es.length by omega))
    exact ⟨xs, ys, v, u, q, q', ev, eu⟩
  · obtain ⟨T, v1, v2, rfl, hT, rfl, hx, hy⟩ := hy
    obtain ⟨d, ed, rd⟩ := r.getV (hx xs q)
    obtain ⟨d', ed', rd'⟩ := r'.getV (hy ys q')
    refine ⟨fun _ => Tr.new hT, fun p w => w.upd hT, _, zipD_get ds es i d d' ed ed', ?_⟩
    have k2 : ∀ {u : V} {d : D}, Rep G W2 H2 u d → Rep G W2 (upd H2 T (.tup [v1, v2])) u d := fun h => h.tr (Tr.new (A := fun _ => False) hT) fun _ z => z.elim
    exact .tup upd_same (.cons (k2 rd) (.cons (k2 rd') .nil))
def fEnum (f : FV D) : FV (List D) := fun env p => match f env p with
  | some (.lst ds, p) => some (enumD 0 ds, p)
  | some (.tup ds, p) => some (enumD 0 ds, p)
  | _ => none
def seqOf : D → Option (Bool × List D)
  | .lst ds => some (false, ds)
  | .tup ds => some (true, ds)
  | _ => none
def fZip (f g : FV D) : FV (List D) := fun env p => match f env p with
  | some (d, p) => (match g env p with
    | some (e, p) => (match seqOf d, seqOf e with
      | some x, some y => some (zipD x.2 y.2, p)
      | _, _ => none)
    | none => none)
  | none => none
theorem seqA_S {d : D} {k : Bool} {ds : List D} {v : V} (hR : R G W env p σ H) (h : Rep G W H v d) (hs : seqOf d = some (k, ds)) : ∃ x, v = .ref x ∧ SeqA G W (ownA G W env σ) k H x ds := by
  cases d <;> first | (cases hs; done) | skip
  · cases hs
    cases h with
    | tup e r => exact ⟨_, rfl, ⟨_, r, .inl ⟨rfl, e⟩⟩⟩
  · cases hs
    cases h with
    | lst s e r => exact ⟨_, rfl, ⟨_, r, .inr ⟨rfl, e, fun z => hR.ownA_notS z s⟩⟩⟩
theorem seqA_B {d : D} {k : Bool} {ds : List D} {v : V} (hR : R G W env p σ H) (h : RepB G W env σ H v d) (hs : seqOf d = some (k, ds)) : ∃ x, v = .ref x ∧ SeqA G W (penA G W) k H x ds := by
  cases d <;> first | (cases hs; done) | skip
  · cases hs
    obtain ⟨x, xs, rfl, e, r, _⟩ := h.tup
    exact ⟨_, rfl, ⟨_, r, .inl ⟨rfl, e⟩⟩⟩
  · cases hs
    obtain ⟨x, xs, rfl, e, r, np⟩ := h.lstN hR
    exact ⟨_, rfl, ⟨_, r, .inr ⟨rfl, e, np⟩⟩⟩
theorem fEnum_some {p' : PenSt} {r : List D} (h : fEnum fa env p = some (r, p')) : ∃ d k ds, fa env p = some (d, p') ∧ seqOf d = some (k, ds) ∧ r = enumD 0 ds := by
  unfold fEnum at h
  split at h
  · rename_i ds p1 q
    cases h
    exact ⟨_, _, ds, q, rfl, rfl⟩
  · rename_i ds p1 q
    cases h
    exact ⟨_, _, ds, q, rfl, rfl⟩
  · cases h
theorem is_enum {p0 : Pos} (hg : Gl X "enumerate") (hm : X.mg "enumerate" = none) (ha : PE X a (tE G fa)) (hs : starEach [a] X.env = (false, eval a X.env) :: starEach [] X.env := by rfl) : PI X (.Tuple elts kk tpos) (.Call (.Name "enumerate" p0) [a] [] pos) (tIs G (fEnum fa)) :=
  piI (piOr (pi_enumS (k := true) hg hm (pa_cons ha pa_nil hs) hs) (pi_enumS (k := false) hg hm (pa_cons ha pa_nil hs) hs)) fun σ H Rr ⟨W, env, p, r, p', hR, hf, kk⟩ => by
    obtain ⟨d, k, ds, q, hd, rfl⟩ := fEnum_some hf
    have go : iEnumS X.K k (tCons (tE G fa) tNil) σ H Rr := ⟨W, env, p, d, p', hR, q, fun W1 H1 v t R1 rv => by
      obtain ⟨x, rfl, sa⟩ := seqA_S R1 rv hd
      obtain ⟨xs, sq, _⟩ := sa.sq (K := X.K) (W2 := W1) (H2 := H1) Tr.refl R1.ownA_ok
      exact ⟨x, xs, rfl, sq, kk W1 H1 _ t R1 (io_enum sa R1.ownA_ok)⟩⟩
    cases k with
    | true => exact .inl go
    | false => exact .inr go
theorem i_enum {p0 : Pos} (hg : Gl X "enumerate") (hm : X.mg "enumerate" = none) (ha : PE X a (tB G fa)) (hs : starEach [a] X.env = (false, eval a X.env) :: starEach [] X.env := by rfl) : PI X (.Tuple elts kk tpos) (.Call (.Name "enumerate" p0) [a] [] pos) (tI G (fEnum fa)) :=
  piI (piOr (pi_enumS (k := true) hg hm (pa_cons ha pa_nil hs) hs) (pi_enumS (k := false) hg hm (pa_cons ha pa_nil hs) hs)) fun σ H Rr ⟨W, env, p, r, p', hR, hf, kk⟩ => by
    obtain ⟨d, k, ds, q, hd, rfl⟩ := fEnum_some hf
    have go : iEnumS X.K k (tCons (tB G fa) tNil) σ H Rr := ⟨W, env, p, d, p', hR, q, fun W1 H1 v t R1 rv => by
      obtain ⟨x, rfl, sa⟩ := seqA_B R1 rv hd
      obtain ⟨xs, sq, _⟩ := sa.sq (K := X.K) (W2 := W1) (H2 := H1) Tr.refl R1.ok.penA_ok
      exact ⟨x, xs, rfl, sq, kk W1 H1 _ t R1 (io_enum sa R1.ok.penA_ok)⟩⟩
    cases k with
    | true => exact .inl go
    | false => exact .inr go
theorem fZip_some {p' : PenSt} {r : List D} (h : fZip fa fb env p = some (r, p')) : ∃ d p1 e k l ds es, fa env p = some (d, p1) ∧ fb env p1 = some (e, p') ∧ seqOf d = some (k, ds) ∧ seqOf e = some (l, es) ∧ r = zipD ds es := by
  unfold fZip at h
  split at h
  · rename_i d p1 q
    split at h
    · rename_i e p2 q2
      split at h
      · rename_i x y hx hy
        cases h
        exact ⟨d, p1, e, x.1, y.1, x.2, y.2, q, q2, hx, hy, rfl⟩
      · cases h
    · cases h
  · cases h
def tor4 {α : Type} (f : Bool → Bool → α → Prop) : α → Prop := fun x => (f true true x ∨ f true false x) ∨ (f false true x ∨ f false false x)
theorem is_zip {p0 : Pos} (hg : Gl X "zip") (hm : X.mg "zip" = none) (ha : PE X a (tE G fa)) (hb : PE X b (tE G fb)) (hs1 : starEach [b] X.env = (false, eval b X.env) :: starEach [] X.env := by rfl) (hs : starEach [a, b] X.env = (false, eval a X.env) :: starEach [b] X.env := by rfl) (hpl : (backTo pos (starEach [b] X.env)).any (·.1) = false := by rfl) :
    PI X (.Tuple elts kk tpos) (.Call (.Name "zip" p0) [a, b] [] pos) (tIs G (fZip fa fb)) :=
  have h : ∀ k l, PI X (.Tuple elts kk tpos) (.Call (.Name "zip" p0) [a, b] [] pos) (iZipS X.K k l (tCons (tE G fa) (tCons (tE G fb) tNil))) := fun k l => pi_zipS hg hm (pa_cons ha (pa_cons hb pa_nil hs1) hs) hs hpl
  piI (piOr (piOr (h true true) (h true false)) (piOr (h false true) (h false false))) fun σ H Rr ⟨W, env, p, r, p', hR, hf, kk⟩ => by
    obtain ⟨d, p1, e, k, l, ds, es, q, q2, hd, he, rfl⟩ := fZip_some hf
    have go : iZipS X.K k l (tCons (tE G fa) (tCons (tE G fb) tNil)) σ H Rr := ⟨W, env, p, d, p1, hR, q, fun W1 H1 v t R1 rv => ⟨W1, env, p1, e, p', R1, q2, fun W2 H2 u t2 R2 ru => by
      obtain ⟨x, rfl, sa⟩ := seqA_S R2 (rv.te t2 R1.ok) hd
      obtain ⟨y, rfl, sb⟩ := seqA_S R2 ru he
      obtain ⟨xs, sq, _⟩ := sa.sq (K := X.K) (W2 := W2) (H2 := H2) Tr.refl R2.ownA_ok
      obtain ⟨ys, sq', _⟩ := sb.sq (K := X.K) (W2 := W2) (H2 := H2) Tr.refl R2.ownA_ok
      exact ⟨x, y, xs, ys, rfl, sq, sq', kk W2 H2 _ (t.then t2) R2 (io_zip sa sb R2.ownA_ok)⟩⟩⟩
    cases k <;> cases l
    · exact .inr (.inr go)
    · exact .inr (.inl go)
    · exact .inl (.inr go)
    · exact .inl (.inl go)
theorem i_zip {p0 : Pos} (hg : Gl X "zip") (hm : X.mg "zip" = none) (ha : PE X a (tB G fa)) (hb : PE X b (tB G fb)) (hs1 : starEach [b] X.env = (false, eval b X.env) :: starEach [] X.env := by rfl) (hs : starEach [a, b] X.env = (false, eval a X.env) :: starEach [b] X.env := by rfl) (hpl : (backTo pos (starEach [b] X.env)).any (·.1) = false := by rfl) :
    PI X (.Tuple elts kk tpos) (.Call (.Name "zip" p0) [a, b] [] pos) (tI G (fZip fa fb)) :=
  have h : ∀ k l, PI X (.Tuple elts kk tpos) (.Call (.Name "zip" p0) [a, b] [] pos) (iZipS X.K k l (tCons (tB G fa) (tCons (tB G fb) tNil))) := fun k l => pi_zipS hg hm (pa_cons ha (pa_cons hb pa_nil hs1) hs) hs hpl
  piI (piOr (piOr (h true true) (h true false)) (piOr (h false true) (h false false))) fun σ H Rr ⟨W, env, p, r, p', hR, hf, kk⟩ => by
    obtain ⟨d, p1, e, k, l, ds, es, q, q2, hd, he, rfl⟩ := fZip_some hf
    have go : iZipS X.K k l (tCons (tB G fa) (tCons (tB G fb) tNil)) σ H Rr := ⟨W, env, p, d, p1, hR, q, fun W1 H1 v t R1 rv => ⟨W1, env, p1, e, p', R1, q2, fun W2 H2 u t2 R2 ru => by
      obtain ⟨x, rfl, sa⟩ := seqA_B R2 (rv.te t2 R1) hd
      obtain ⟨y, rfl, sb⟩ := seqA_B R2 ru he
      obtain ⟨xs, sq, _⟩ := sa.sq (K := X.K) (W2 := W2) (H2 := H2) Tr.refl R2.ok.penA_ok
      obtain ⟨ys, sq', _⟩ := sb.sq (K := X.K) (W2 := W2) (H2 := H2) Tr.refl R2.ok.penA_ok
      exact ⟨x, y, xs, ys, rfl, sq, sq', kk W2 H2 _ (t.then t2) R2 (io_zip sa sb R2.ok.penA_ok)⟩⟩⟩
    cases k <;> cases l
    · exact .inr (.inr go)
    · exact .inr (.inl go)
    · exact .inl (.inr go)
    · exact .inl (.inl go)
end
end Cr
/-! ## more rules -/
namespace Cr
open PySem L2
theorem boot_list_ : bootBuiltins "list" = some (.type "list") := by decide +kernel
theorem boot_tuple_ : bootBuiltins "tuple" = some (.type "tuple") := by decide +kernel
theorem boot_int_ : bootBuiltins "int" = some (.type "int") := by decide +kernel
theorem boot_bool_ : bootBuiltins "bool" = some (.type "bool") := by decide +kernel
theorem boot_str_ : bootBuiltins "str" = some (.type "str") := by decide +kernel
theorem boot_dict_ : bootBuiltins "dict" = some (.type "dict") := by decide +kernel
theorem boot_sum_ : bootBuiltins "sum" = some (.builtin "sum") := by decide +kernel
theorem boot_max_ : bootBuiltins "max" = some (.builtin "max") := by decide +kernel
theorem boot_min_ : bootBuiltins "min" = some (.builtin "min") := by decide +kernel
theorem boot_all_ : bootBuiltins "all" = some (.builtin "all") := by decide +kernel
theorem boot_any_ : bootBuiltins "any" = some (.builtin "any") := by decide +kernel
theorem boot_abs_ : bootBuiltins "abs" = some (.builtin "abs") := by decide +kernel
theorem boot_sorted_ : bootBuiltins "sorted" = some (.builtin "sorted") := by decide +kernel
/-- a slice by -1 of a tuple -/
theorem adj_rev (n : Nat) : Builtin.Slice.sliceAdjust none none (-1) (n : Int) = ((n : Int) - 1, -1) := rfl
theorem places_rev (n : Nat) : Builtin.Slice.slicePlaces ((n : Int) - 1) (-1) (-1) = n := by
  unfold Builtin.Slice.slicePlaces
  have h1 : ¬ ((-1 : Int) > 0) := by decide
  by_cases h : (n : Int) - 1 > -1
  · simp only [h1, h, if_false, if_true]
    rw [show (- -1 : Int) = 1 by decide, Int.ediv_one]
    omega
  · simp only [h1, h, if_false]
    have : n = 0 := by omega
    subst this
    rfl
theorem fm_congr {α β : Type} {f g : α → Option β} : ∀ {l : List α}, (∀ m ∈ l, f m = g m) → l.filterMap f = l.filterMap g
  | [], _ => rfl
  | a :: l, h => by rw [List.filterMap_cons, List.filterMap_cons, h a List.mem_cons_self, fm_congr fun m hm => h m (List.mem_cons_of_mem _ hm)]
theorem pick_back (xs : Array Value) : ((List.range xs.size).filterMap fun (m : Nat) => xs[((((xs.size : Nat) : Int) - 1) + (m : Int) * (-1)).toNat]?).toArray = xs.toList.reverse.toArray := by
  have e : ((List.range xs.size).filterMap fun (m : Nat) => xs[((((xs.size : Nat) : Int) - 1) + (m : Int) * (-1)).toNat]?) = ((List.range xs.size).map fun k => xs.size - 1 - k).filterMap (xs[·]?) := by
    rw [List.filterMap_map]
    refine fm_congr fun m hm => ?_
    have hm := List.mem_range.mp hm
    show xs[_]? = xs[xs.size - 1 - m]?
    congr 1
    omega
  rw [e, PySem.W.krv_range, List.filterMap_reverse, PySem.W.krv_all]
section
open PyProof.Rows
variable {prog : Program} {w : World} {A : Around} {E : Value → Shared → Prop} {s : Shared}
theorem item_back {t sl : Addr} {items : Array Value} {vs : Value} {Q : Value → Shared → Prop} (ht : IsTup s.heap t items) (hs : s.heap.IsSliceOf sl .none .none vs) (ps : IsPart vs (some (-1)))
    (h : Q (.ref s.heap.objs.size) { s with heap := s.heap.push { cls := .type "tuple", data := .seq items.toList.reverse.toArray } }) (hsz : items.size ≤ sizeLine) : wpAny (model prog w) A (getItem (.ref t) (.ref sl)) Q E s := by
  have htake : sizeOk (.seq items.toList.reverse.toArray) := by
    show items.toList.reverse.toArray.size ≤ sizeLine
    rw [List.size_toArray, List.length_reverse, Array.length_toList]
    exact hsz
  obtain ⟨os, hos, hcs, hds⟩ := id hs
  have hTs : s.TypeIs (.ref sl) "slice" := ⟨os, hos, hcs⟩
  unfold getItem
  try with_reducible refine wpAny_holding ?_
  first | refine wpAny_bind (wpAny_pure ?_) | skip
  refine wpAny_bind (wpAny_sequenceKey ht.typeIs (by decide) ?_)
  refine wpAny_bind (wpAny_callSpecial?_slot (name := Str.ofString "__getitem__") ht.typeIs PyProof.Rows.slot_tuple_getitem
    (wpAny_call_entry PyProof.Rows.slot_tuple_getitem ht.typeIs entry_tuple_getitem ?_ (args_tuple_getitem _ _)))
  show wpAny _ _ (Builtin.Tuple.tupleItemsOf (.ref t) >>= _) _ _ s
  refine wpAny_bind (tupleItemsOf_ ht ?_)
  refine wpAny_bind (wpAny_typeOf hTs ?_)
  rw [if_pos (by decide)]
  refine wpAny_bind ?_
  unfold Builtin.Slice.sliceApplied Builtin.Slice.sliceFields
  refine wpAny_bind (wpAny_bind (wpAny_field hos hds (x := .none) rfl (wpAny_bind (wpAny_field hos hds (x := .none) rfl (wpAny_bind (wpAny_field hos hds (x := vs) rfl (wpAny_pure ?_)))))))
  refine wpAny_bind (HT.slicePart_ ps ?_)
  show wpAny _ _ (if ((-1 : Int) == 0) = true then _ else _) _ _ s
  rw [if_neg (by decide)]
  refine wpAny_bind (HT.slicePart_ .none (wpAny_bind (HT.slicePart_ .none (wpAny_bind (wpAny_pure ?_)))))
  show wpAny _ _ (match Builtin.Slice.sliceAdjust none none (-1) (items.size : Int) with | (lo, hi) => pure (lo, (-1 : Int), Builtin.Slice.slicePlaces lo hi (-1))) _ _ s
  rw [adj_rev]
  show wpAny _ _ (pure (((items.size : Nat) : Int) - 1, (-1 : Int), Builtin.Slice.slicePlaces (((items.size : Nat) : Int) - 1) (-1) (-1))) _ _ s
  rw [places_rev]
  refine wpAny_pure ?_
  have hno : ¬ ((((((items.size : Nat) : Int) - 1)) == 0 && (-1 : Int) == 1 && items.size == items.size) = true) := by
    intro q
    rw [Bool.and_eq_true, Bool.and_eq_true] at q
    exact absurd q.1.2 (by decide)
  show wpAny _ _ (if ((((items.size : Nat) : Int) - 1) == 0 && (-1 : Int) == 1 && items.size == items.size) = true then _ else _) _ _ s
  rw [if_neg hno, pick_back]
  first
    | exact wpAny_bind (m := Builtin.Tuple.tupleExact _) (wpAny_newObj_type (wpAny_pure ⟨_, rfl, wpAny_pure h⟩) htake)
    | exact wpAny_bind (m := Builtin.Tuple.tupleExact _) (wpAny_newObj_type (wpAny_bind (wpAny_pure (wpAny_pure ⟨_, rfl, wpAny_pure h⟩))) htake)
    | exact wpAny_bind (wpAny_bind (m := Builtin.Tuple.tupleExact _) (wpAny_newObj_type (wpAny_pure (wpAny_pure ⟨_, rfl, wpAny_pure h⟩)) htake))
    | exact wpAny_bind (wpAny_bind (m := Builtin.Tuple.tupleExact _) (wpAny_newObj_type (wpAny_pure ⟨_, rfl, wpAny_pure h⟩) htake))
end
def tBack (K : PySem.W.Frag) (te : TE) : TE := fun σ H Q => te σ H fun x H1 => (∃ a xs, x = .ref a ∧ SqL K H1 a xs ∧ ∀ p, H1 p = none → Q (.ref p) (upd H1 p (.lst xs.reverse))) ∨ ∃ a xs, x = .ref a ∧ SqT K H1 a xs ∧ ∀ p, H1 p = none → Q (.ref p) (upd H1 p (.tup xs.reverse))
section
open PySem.Spec PyProof.Rows
variable {X : Cx}
theorem pe_back {e : Expr} {te : TE} {k : Nat} {p1 p2 p3 pos : Pos} (he : PE X e te) : PE X (.Subscript e (.Slice none none (some (.UnaryOp .USub (.Constant (.int 1) k p1) p2)) p3) pos) (tBack X.K te) := by
  refine ⟨fun pins s σ H Q I h => ?_⟩
  refine Subscript_ (thn (he.run pins s σ H _ I h) fun v s1 ⟨x, H1, I1, r1, q1⟩ => ?_)
  have hst : PO X (some (.UnaryOp .USub (.Constant (.int 1) k p1) p2)) (tPart (tUn (rU fun i => .int (-i)) (tC (.int 1)))) := po_some (pe_un un_neg pe_int)
  refine wpAny_Slice (thn (po_none.run pins s1 σ H1 (fun o H2 => o = none ∧ H2 = H1) I1 ⟨rfl, rfl⟩) fun vl s2 ⟨l, H2, I2, pl, el, e2⟩ => ?_)
  subst el e2
  refine thn (po_none.run pins s2 σ H2 (fun o H3 => o = none ∧ H3 = H2) I2 ⟨rfl, rfl⟩) fun vu s3 ⟨u, H3, I3, pu, eu, e3⟩ => ?_
  subst eu e3
  refine thn (hst.run pins s3 σ H3 (fun o H4 => o = some (-1) ∧ H4 = H3) I3 ⟨1, rfl, -1, rfl, rfl, rfl⟩) fun vs s4 ⟨o, H4, I4, ps, eo, e4⟩ => ?_
  subst eo e4
  cases pl
  cases pu
  have I5 : Inv X pins σ H4 { s4 with heap := s4.heap.push { cls := .type "slice", data := .fields #[.none, .none, vs] } } := I4.kept (t' := s4.toks) fun b ob q => Heap.get?_push_of_some _ q
  rcases q1 with ⟨a, xs, ex, hx, q⟩ | ⟨a, xs, ex, hx, q⟩
  · subst ex
    cases r1
    obtain ⟨its, r, ht, hz⟩ := I5.list hx
    have hlen := r.length
    show wpAny (model X.prog X.w) X.A (subscriptTail e (.Slice none none (some (.UnaryOp .USub (.Constant (.int 1) k p1) p2)) p3) (.ref a) (.ref s4.heap.objs.size)) (EP X pins σ Q) X.xe { s4 with heap := s4.heap.push { cls := .type "slice", data := .fields #[.none, .none, vs] } }
    refine tail_any (ops := [.ref a, .ref s4.heap.objs.size]) ht.isList.typeIs (PySem.slot_list_getitem.lookup) ?_ (by with_unfolding_all rfl)
    refine wpAny_getItem_list_slice ht.isList (Heap.IsSliceOf.new _ .none .none vs) .none .none ps (by decide) ?_ (by rw [List.size_toArray]; omega)
    rw [PySem.W.krv_pick]
    refine ⟨.ref _, _, I5.laid (t' := s4.toks) (o := .lst xs.reverse) (fun b ob q => Heap.get?_push_of_some _ q) (Nat.le_refl _) ?_, rfl, q _ (I5.hok.fresh (Nat.le_refl _))⟩
    exact ⟨by rw [List.length_reverse]; exact hz, _, 0, r.reverse, Heap.get?_push_size _ rfl⟩
  · subst ex
    cases r1
    obtain ⟨its, r, ht, hz⟩ := I5.tuple hx
    have hlen := r.length
    show wpAny (model X.prog X.w) X.A (subscriptTail e (.Slice none none (some (.UnaryOp .USub (.Constant (.int 1) k p1) p2)) p3) (.ref a) (.ref s4.heap.objs.size)) (EP X pins σ Q) X.xe { s4 with heap := s4.heap.push { cls := .type "slice", data := .fields #[.none, .none, vs] } }
    refine tail_any (ops := [.ref a, .ref s4.heap.objs.size]) ht.typeIs (PyProof.Rows.slot_tuple_getitem.lookup) ?_ (by with_unfolding_all rfl)
    refine item_back ht (Heap.IsSliceOf.new _ .none .none vs) ps ?_ (by rw [List.size_toArray]; omega)
    refine ⟨.ref _, _, I5.laid (t' := s4.toks) (o := .tup xs.reverse) (fun b ob q => Heap.get?_push_of_some _ q) (Nat.le_refl _) ?_, rfl, q _ (I5.hok.fresh (Nat.le_refl _))⟩
    exact ⟨by rw [List.length_reverse]; exact hz, _, r.reverse, IsTup.new _ _⟩
end
section
variable {X : Cx} {G : Gm} {W W1 : Wd} {H H1 : Hp} {env env1 : Env} {σ σ1 : St} {p p1 : PenSt} {r : D} {Q : VK} {e a b c tg iter : Expr} {f fa fb fc fe fk : FV D} {ft : FV Bool} {fx : FV Slot} {pos : Pos} {es : List Expr} {st : Stmt} {rest sts : List Stmt} {g g1 g2 : FS} {Dn : Ends} {o : Out}
theorem e_glob {i : Int} {x : Str} (hg : Gl X x) (hm : ∃ u, X.mg x = some u ∧ RelV (.int i) u) (hd : (x == ("__debug__" : Str)) = false := by decide) : PE X (.Name x pos) (tE G (fC (.int i))) := by
  obtain ⟨u, h1, h2⟩ := hm
  exact e_c (pe_glob hg h1 h2 hd) fun _ _ => .int i
theorem e_isiG {c : String} {y : Str} {p0 p : Pos} (CF : ClsF X.K G) (h : ∃ C, G c = some C ∧ X.mg y = some (.ref C)) (hy : Gl X y) (hg : Gl X "isinstance") (hm : X.mg "isinstance" = none) (ha : PE X a (tB G fa)) (hd : (y == ("__debug__" : Str)) = false := by decide)
    (hs : starEach [.Name y p0] X.env = (false, eval (.Name y p0) X.env) :: starEach [] X.env := by rfl) (hs2 : starEach [a, .Name y p0] X.env = (false, eval a X.env) :: starEach [.Name y p0] X.env := by rfl) (hpl : (backTo pos (starEach [.Name y p0] X.env)).any (·.1) = false := by rfl) : PE X (.Call (.Name "isinstance" p) [a, .Name y p0] [] pos) (tE G (f1 (gIsiC c) fa)) := by
  obtain ⟨C, h1, h2⟩ := h
  exact e_isiC CF h1 hg hm ha (pe_glob hy h2 rfl hd) hs hs2 hpl
def gRev : D → Option D
  | .tup xs => some (.tup xs.reverse)
  | .lst xs => some (.lst xs.reverse)
  | _ => none
theorem n_rev {k : Nat} {p1 p2 p3 : Pos} (ha : PE X a (tB G fa)) : PE X (.Subscript a (.Slice none none (some (.UnaryOp .USub (.Constant (.int 1) k p1) p2)) p3) pos) (tN G (f1 gRev fa)) :=
  peI (pe_back ha) fun σ H Q h => oneN (rr := fun x H1 Q => (∃ a xs, x = .ref a ∧ SqL X.K H1 a xs ∧ ∀ p, H1 p = none → Q (.ref p) (upd H1 p (.lst xs.reverse))) ∨ ∃ a xs, x = .ref a ∧ SqT X.K H1 a xs ∧ ∀ p, H1 p = none → Q (.ref p) (upd H1 p (.tup xs.reverse)))
    (fun W env p σ H x d r Q hR hx hg k => by
      cases d with
      | tup ds =>
        cases hg
        obtain ⟨a, xs, rfl, ea, q, _⟩ := hx.tup
        exact .inr ⟨a, xs, rfl, SqT.of ea, fun p hp => k.newT hR hp rfl q.rev⟩
      | lst ds =>
        cases hg
        obtain ⟨a, xs, rfl, ea, q⟩ := hx.lst
        exact .inl ⟨a, xs, rfl, SqL.of ea, fun p hp => k.newL hR hp rfl q.rev⟩
      | _ => cases hg) h
theorem trX {x : Addr} {u : HO} : Tr (fun a => a = x) W H W (upd H x u) := ⟨fun y o hy _ ey => by rw [upd_ne hy]; exact ey, fun y ey => by
  by_cases z : y = x
  · rw [z, upd_same]; exact fun z => by cases z
  · rw [upd_ne z]; exact ey, rfl, fun _ _ z => z, fun _ z => .inl z, fun _ z => z, fun _ z => .inl z⟩
theorem okX {x : Addr} (hR : R G W env p σ H) (ox : Own env σ x) : ∀ a, a = x → ¬ W.S a ∧ ∃ o, H a = some o ∧ ∀ xs, o ≠ .tup xs := fun a z => by subst z; exact ⟨(hR.own _ ox).1, hR.own_obj ox⟩
/-- an own list's slot is written anew -/
theorem R.mutL (hR : R G W env p σ H) {i : Nat} {ds es : List D} {x : Addr} {ys : List V} (he : env[i]? = some (.ow ds)) (hx : σ[i]? = some (some (.ref x))) (hy : Reps G W H ys es) :
    R G W (env.set i (.ow es)) p σ (upd H x (.lst ys)) ∧ Tr (ownA G W env σ) W H W (upd H x (.lst ys)) ∧ ∀ a, Own (env.set i (.ow es)) σ a → Own env σ a :=
  hR.mut (u := .lst ys) he rfl hx (s' := .ow es) rfl ⟨x, ys, rfl, upd_same, hy.tr trX (okX hR ⟨i, _, he, rfl, hx⟩)⟩
theorem R.ow (hR : R G W env p σ H) {i : Nat} {ds : List D} (he : env[i]? = some (.ow ds)) : ∃ x xs, σ[i]? = some (some (.ref x)) ∧ H x = some (.lst xs) ∧ Reps G W H xs ds := by
  obtain ⟨v, ev, x, xs, exv, hx, rx⟩ := hR.slot i _ he (fun z => by cases z)
  subst exv
  exact ⟨x, xs, ev, hx, rx⟩
theorem ref_eq {i : Nat} {x y : Addr} (h : σ[i]? = some (some (.ref x))) (k : σ[i]? = some (some (.ref y))) : x = y := by
  rw [h] at k
  cases k
  rfl
/-- x.extend(e), e a list -/
def sExt (i : Nat) (f : FV D) : FS := fun env p => match f env p with
  | some (.lst es, p) => (match env[i]? with
    | some (.ow ds) => if ds.length + es.length ≤ 16777216 then some (.nx (env.set i (.ow (ds ++ es))) p) else none
    | _ => none)
  | _ => none
theorem s_ext {i : Nat} {apos cpos ppos : Pos} {o : Expr} (ho : PE X o (tVar i)) (ha : PE X a (tB G fe)) (hs : swapsWith (.Call (.Attribute o "extend" apos) [a] [] cpos) none ppos.line X.env = pure false := by rfl)
    (hbase : attributeBase o "extend" X.env (eval o X.env) = eval o X.env := by rfl)
    (hs1 : starEach [a] X.env = (false, eval a X.env) :: starEach [] X.env := by rfl) (hline : (apos.endLine == cpos.line) = true := by rfl)
    (hfew : ((backTo cpos (starEach [a] X.env)).all (fun x => !x.1) && (backToKw cpos (keywordEach [] X.env)).all (fun x => x.1.isSome)
      && decide ([a].length + ([] : List Keyword).length + (if ([] : List Keyword).isEmpty then 0 else 1) < 30)) = true := by rfl) :
    PS X (.Expr (.Call (.Attribute o "extend" apos) [a] [] cpos) ppos) (tS G (sExt i fe)) :=
  psI (ps_expr (pe_bm PySem.F.plainAttrs_list PySem.F.slot_list_extend PySem.F.type_list_extend mt_extend ho (pa_cons ha pa_nil hs1) hbase hfew hline hs1 rfl) hs) fun Dn σ H ⟨W, env, p, o, hR, hf, k⟩ => by
    unfold sExt at hf
    split at hf
    · rename_i es p1 q
      split at hf
      · rename_i ds he
        split at hf
        · rename_i hz
          cases hf
          obtain ⟨x, xs, ev, hx, rx⟩ := hR.ow he
          refine ⟨.ref x, ev, .inl ⟨rfl, xs, SqL.of hx⟩, W, env, p, _, p1, hR, q, fun W1 H1 v t1 R1 rv => ?_⟩
          obtain ⟨x1, xs1, ev1, hx1, rx1⟩ := R1.ow he
          have := ref_eq ev ev1
          subst this
          obtain ⟨y, ys, rfl, hy, ry⟩ := rv.lst
          refine ⟨x, y, xs1, ys, rfl, rfl, hx1, hy, by rw [sizeLine_eq, rx1.len, ry.len]; exact hz, ?_⟩
          obtain ⟨R2, t2, o2⟩ := R1.mutL he ev1 (rx1.app ry)
          exact k W1 σ _ ((t1.mono fun a z => .inl z).trans t2 fun a z => z.elim (fun z => (t1.pa a z).imp_left .inl) fun z => .inl (.inr z)) R2 fun a z => .inl (o2 a z)
        · cases hf
      · cases hf
    · cases hf
/-- x.append(y.pop(e)) -/
def sAppPop (i j : Nat) (f : FV D) : FS := fun env p => match f env p with
  | some (.int k, p) => (match env[i]?, env[j]? with
    | some (.ow ds), some (.ow es) => if 0 ≤ k ∧ ds.length < 16777216 ∧ es.length ≤ 16777216 then (match es[k.toNat]? with
      | some d => some (.nx ((env.set j (.ow (es.eraseIdx k.toNat))).set i (.ow (ds ++ [d]))) p)
      | none => none) else none
    | _, _ => none)
  | _ => none
theorem s_appPop {i j : Nat} {apos cpos ppos apos2 cpos2 : Pos} {o o2 : Expr} (hij : i ≠ j) (ho : PE X o (tVar i)) (ho2 : PE X o2 (tVar j)) (ha : PE X a (tE G fe)) (hs : swapsWith (.Call (.Attribute o "append" apos) [.Call (.Attribute o2 "pop" apos2) [a] [] cpos2] [] cpos) none ppos.line X.env = pure false := by rfl)
    (hbase : attributeBase o "append" X.env (eval o X.env) = eval o X.env := by rfl) (hbase2 : attributeBase o2 "pop" X.env (eval o2 X.env) = eval o2 X.env := by rfl)
    (hs1 : starEach [.Call (.Attribute o2 "pop" apos2) [a] [] cpos2] X.env = (false, eval (.Call (.Attribute o2 "pop" apos2) [a] [] cpos2) X.env) :: starEach [] X.env := by rfl) (hline : (apos.endLine == cpos.line) = true := by rfl)
    (hfew : ((backTo cpos (starEach [.Call (.Attribute o2 "pop" apos2) [a] [] cpos2] X.env)).all (fun x => !x.1) && (backToKw cpos (keywordEach [] X.env)).all (fun x => x.1.isSome)
      && decide ([Expr.Call (.Attribute o2 "pop" apos2) [a] [] cpos2].length + ([] : List Keyword).length + (if ([] : List Keyword).isEmpty then 0 else 1) < 30)) = true := by rfl)
    (hs2 : starEach [a] X.env = (false, eval a X.env) :: starEach [] X.env := by rfl) (hline2 : (apos2.endLine == cpos2.line) = true := by rfl)
    (hfew2 : ((backTo cpos2 (starEach [a] X.env)).all (fun x => !x.1) && (backToKw cpos2 (keywordEach [] X.env)).all (fun x => x.1.isSome)
      && decide ([a].length + ([] : List Keyword).length + (if ([] : List Keyword).isEmpty then 0 else 1) < 30)) = true := by rfl) :
    PS X (.Expr (.Call (.Attribute o "append" apos) [.Call (.Attribute o2 "pop" apos2) [a] [] cpos2] [] cpos) ppos) (tS G (sAppPop i j fe)) :=
  psI (ps_expr (pe_bm PySem.F.plainAttrs_list PySem.F.slot_list_append PySem.F.type_list_append mt_append ho
    (pa_cons (pe_bm PySem.F.plainAttrs_list PySem.F.slot_list_pop PySem.F.type_list_pop mt_popAt ho2 (pa_cons ha pa_nil hs2) hbase2 hfew2 hline2 hs2 rfl) pa_nil hs1) hbase hfew hline hs1 rfl) hs) fun Dn σ H ⟨W, env, p, o, hR, hf, k⟩ => by
    unfold sAppPop at hf
    split at hf
    · rename_i kk p1 q
      split at hf
      · rename_i ds es he hj
        split at hf
        · rename_i hz
          split at hf
          · rename_i d hd
            cases hf
            obtain ⟨x, xs, ev, hx, rx⟩ := hR.ow he
            obtain ⟨y, ys, ew, hy, ry⟩ := hR.ow hj
            refine ⟨.ref x, ev, .inl ⟨rfl, xs, SqL.of hx⟩, .ref y, ew, .inl ⟨rfl, ys, SqL.of hy⟩, W, env, p, _, p1, hR, q, fun W1 H1 v t1 R1 rv => ?_⟩
            cases rv
            obtain ⟨x1, xs1, ev1, hx1, rx1⟩ := R1.ow he
            obtain ⟨y1, ys1, ew1, hy1, ry1⟩ := R1.ow hj
            have := ref_eq ev ev1
            subst this
            have := ref_eq ew ew1
            subst this
            obtain ⟨u, hu, ru⟩ := ry1.get hd
            have hlt : kk.toNat < ys1.length := (List.getElem?_eq_some_iff.mp hu).1
            have hlz : ys1.length ≤ 16777216 := by rw [ry1.len]; exact hz.2.2
            refine ⟨y, ys1, kk, kk.toNat, u, rfl, rfl, hy1, by omega, by omega, seqIndex_of (by omega) (by omega), hu, ?_⟩
            obtain ⟨R2, t2, o2⟩ := R1.mutL hj ew1 (ry1.erase kk.toNat)
            have he2 : (env.set j (.ow (es.eraseIdx kk.toNat)))[i]? = some (.ow ds) := by rw [List.getElem?_set_ne (Ne.symm hij)]; exact he
            obtain ⟨x2, xs2, ev2, hx2, rx2⟩ := R2.ow he2
            have := ref_eq ev ev2
            subst this
            refine ⟨x, xs2, u, rfl, rfl, hx2, by rw [sizeLine_eq, rx2.len]; exact hz.2.1, ?_⟩
            have ru2 := ru.tr (trX (u := .lst (ys1.eraseIdx kk.toNat))) (okX R1 ⟨j, _, hj, rfl, ew1⟩)
            obtain ⟨R3, t3, o3⟩ := R2.mutL he2 ev2 (rx2.app (.cons ru2 .nil))
            have t4 : Tr (ownA G W env σ) W H W1 _ := (t1.mono fun a z => .inl z).trans t2 fun a z => z.elim (fun z => (t1.pa a z).imp_left .inl) fun z => .inl (.inr z)
            exact k W1 σ _ (t4.trans t3 fun a z => z.elim (fun z => (t1.pa a z).imp_left .inl) fun z => .inl (.inr (o2 a z))) R3 fun a z => .inl (o2 a (o3 a z))
          · cases hf
        · cases hf
      · cases hf
    · cases hf
/-- x[e] = v -/
def sSetIx (i : Nat) (fk fv : FV D) : FS := fun env p => match fv env p with
  | some (d, p) => (match fk env p with
    | some (.int k, p) => (match env[i]? with
      | some (.ow ds) => (ixN ds.length k).map fun j => .nx (env.set i (.ow (ds.set j d))) p
      | _ => none)
    | _ => none)
  | none => none
theorem set1_core {i : Nat} {ds : List D} {d : D} {j : Nat} {v : V} {kk : Int} {K : Hp → Prop} (hR : R G W env p σ H) (he : env[i]? = some (.ow ds)) (hj : ixN ds.length kk = some j) (rv : Rep G W H v d)
    (h : ∀ H', R G W (env.set i (.ow (ds.set j d))) p σ H' → Tr (ownA G W env σ) W H W H' → (∀ a, Own (env.set i (.ow (ds.set j d))) σ a → Own env σ a) → (∀ w dd, Rep G W H w dd → Rep G W H' w dd) → K H') : ∃ x, σ[i]? = some (some (.ref x)) ∧ rSetL (.ref x) (.int kk) v H K := by
  obtain ⟨x, xs, ev, hx, rx⟩ := hR.ow he
  obtain ⟨R2, t2, o2⟩ := hR.mutL he ev (rx.set rv j)
  exact ⟨x, ev, x, xs, kk, j, rfl, rfl, hx, by rw [rx.len]; exact hj, h _ R2 t2 o2 fun w dd r => r.tr trX (okX hR ⟨i, _, he, rfl, ev⟩)⟩
theorem s_setIx {i : Nat} {o : Expr} {pos' : Pos} (ho : PE X o (tVar i)) (hk : PE X b (tE G fk)) (hv : PE X a (tE G fe)) (hs : swapsWithSole [.Subscript o b pos'] a pos.line X.env = pure false := by rfl) (hw : swappedStores [.Subscript o b pos'] a X.env = pure none := by rfl)
    (h1 : (assignEach [.Subscript o b pos'] X.env).map (·.2) = [assign (.Subscript o b pos') X.env] := by rfl) (hsub : ∀ v, assign (.Subscript o b pos') X.env v = (do
      let ov ← holding [v] (eval o X.env)
      let iv ← holding [v, ov] (eval b X.env)
      standAt pos'
      holding [v, ov, iv] (setItem ov iv v)
      release [v, ov, iv] []) := by intro _; rfl) : PS X (.Assign [.Subscript o b pos'] a pos) (tS G (sSetIx i fk fe)) :=
  psI (ps_asg hv (pg_sub ho hk set_list hsub) hs hw h1) fun Dn σ H ⟨W, env, p, o, hR, hf, k⟩ => by
    unfold sSetIx at hf
    split at hf
    · rename_i d p1 q
      split at hf
      · rename_i kk p2 q2
        split at hf
        · rename_i ds he
          cases hj : ixN ds.length kk with
          | none => rw [hj] at hf; cases hf
          | some j =>
            rw [hj] at hf
            cases hf
            refine ⟨W, env, p, d, p1, hR, q, fun W1 H1 v t1 R1 rv => ?_⟩
            obtain ⟨x, xs, ev, hx, rx⟩ := R1.ow he
            refine ⟨.ref x, ev, W1, env, p1, _, p2, R1, q2, fun W2 H2 v2 t2 R2 rv2 => ?_⟩
            cases rv2
            obtain ⟨x2, ev2, hh⟩ := set1_core (K := fun H' => Dn.nx σ H') R2 he hj (rv.te t2 R1.ok) fun H3 R3 t3 o3 _ => k W2 σ H3 (((t1.then t2).mono fun a z => .inl z).trans t3 fun a z => z.elim (fun z => ((t1.then t2).pa a z).imp_left .inl) fun z => .inl (.inr z)) R3 fun a z => .inl (o3 a z)
            have := ref_eq ev ev2
            subst this
            exact hh
        · cases hf
      · cases hf
    · cases hf
/-- x[e], x[f] = v, w -/
def sSetIx2 (i : Nat) (fk fl fv fw : FV D) : FS := fun env p => match fv env p with
  | some (d, p) => (match fw env p with
    | some (d2, p) => (match fk env p with
      | some (.int k, p) => (match env[i]? with
        | some (.ow ds) => (match ixN ds.length k with
          | some j => (match fl (env.set i (.ow (ds.set j d))) p with
            | some (.int l, p) => (ixN (ds.set j d).length l).map fun j2 => .nx ((env.set i (.ow (ds.set j d))).set i (.ow ((ds.set j d).set j2 d2))) p
            | _ => none)
          | none => none)
        | _ => none)
      | _ => none)
    | none => none)
  | none => none
theorem s_setIx2 {i : Nat} {o o' k1 k2 a1 a2 : Expr} {p1 p2 pt pt2 : Pos} {kt kt2 : Nat} {fk fl fv fw : FV D} (hc : X.calm = true) (ho : PE X o (tVar i)) (ho' : PE X o' (tVar i)) (hk : PE X k1 (tE G fk)) (hl : PE X k2 (tE G fl)) (hv : PE X a1 (tE G fv)) (hw' : PE X a2 (tE G fw))
    (hs1 : starEach [a2] X.env = (false, eval a2 X.env) :: starEach [] X.env := by rfl) (hs0 : starEach [a1, a2] X.env = (false, eval a1 X.env) :: starEach [a2] X.env := by rfl)
    (hgs : PGs X [.Subscript o k1 p1, .Subscript o' k2 p2] (gCons (L2.gSub (tVar i) (tE G fk) rSetL) (gCons (L2.gSub (tVar i) (tE G fl) rSetL) gNil)))
    (hn : (assignEach [.Subscript o k1 p1, .Subscript o' k2 p2] X.env).length = 2 := by rfl) (hst : (assignEach [.Subscript o k1 p1, .Subscript o' k2 p2] X.env).findIdx? (·.1) = none := by rfl)
    (hs : swapsWithSole [.Tuple [.Subscript o k1 p1, .Subscript o' k2 p2] kt pt] (.Tuple [a1, a2] kt2 pt2) pos.line X.env = pure false := by rfl) (hw : swappedStores [.Tuple [.Subscript o k1 p1, .Subscript o' k2 p2] kt pt] (.Tuple [a1, a2] kt2 pt2) X.env = pure none := by rfl)
    (h1 : (assignEach [.Tuple [.Subscript o k1 p1, .Subscript o' k2 p2] kt pt] X.env).map (·.2) = [assign (.Tuple [.Subscript o k1 p1, .Subscript o' k2 p2] kt pt) X.env] := by rfl) :
    PS X (.Assign [.Tuple [.Subscript o k1 p1, .Subscript o' k2 p2] kt pt] (.Tuple [a1, a2] kt2 pt2) pos) (tS G (sSetIx2 i fk fl fv fw)) :=
  psI (ps_asg (pe_tup (pa_cons hv (pa_cons hw' pa_nil hs1) hs0)) (pg_tup hc hgs hn hst) hs hw h1) fun Dn σ H ⟨W, env, p, o, hR, hf, k⟩ => by
    unfold sSetIx2 at hf
    split at hf
    · rename_i d p1 q
      split at hf
      · rename_i d2 p2 q2
        split at hf
        · rename_i kk p3 q3
          split at hf
          · rename_i ds he
            split at hf
            · rename_i j hj
              split at hf
              · rename_i ll p4 q4
                cases hj2 : ixN (ds.set j d).length ll with
                | none => rw [hj2] at hf; cases hf
                | some j2 =>
                  rw [hj2] at hf
                  cases hf
                  refine ⟨W, env, p, d, p1, hR, q, fun W1 H1 v t1 R1 rv => ⟨W1, env, p1, d2, p2, R1, q2, fun W2 H2 v2 t2 R2 rv2 => ⟨by rw [sizeLine_eq]; exact (show 2 ≤ 16777216 by decide), fun z hz => ?_⟩⟩⟩
                  have R3 := R2.new (o := .tup [v, v2]) hz
                  have tz : Tr (penA G W2) W2 H2 W2 (upd H2 z (.tup [v, v2])) := Tr.new hz
                  have rv3 := (rv.te t2 R1.ok).te tz R2.ok
                  have rv4 := rv2.te tz R2.ok
                  refine ⟨z, [v, v2], rfl, SqT.of upd_same, rfl, v, [v2], rfl, ?_⟩
                  obtain ⟨x, xs, ev, hx, rx⟩ := R3.ow he
                  refine ⟨.ref x, ev, W2, env, p2, _, p3, R3, q3, fun W4 H4 u4 t4 R4 ru4 => ?_⟩
                  cases ru4
                  have T4 : Tr (penA G W) W H W4 H4 := ((t1.then t2).then tz).then t4
                  have rvA := rv3.te t4 R3.ok
                  have rvB := rv4.te t4 R3.ok
                  obtain ⟨x2, ev2, hh⟩ := set1_core (K := fun H' => gCons (L2.gSub (tVar i) (tE G fl) rSetL) gNil [v2] σ H' Dn.nx) R4 he hj rvA fun H5 R5 t5 o5 keep => by
                    have he5 : (env.set i (.ow (ds.set j d)))[i]? = some (.ow (ds.set j d)) := List.getElem?_set_self (List.getElem?_eq_some_iff.mp he).1
                    obtain ⟨y, ys, ew, hy, ry⟩ := R5.ow he5
                    refine ⟨v2, [], rfl, .ref y, ew, W4, _, p3, _, p4, R5, q4, fun W6 H6 u6 t6 R6 ru6 => ?_⟩
                    cases ru6
                    obtain ⟨y2, ew2, hh2⟩ := set1_core (K := fun H' => gNil [] σ H' Dn.nx) R6 he5 hj2 ((keep _ _ rvB).te t6 R5.ok) fun H7 R7 t7 o7 _ => ⟨rfl, by
                      have T5 : Tr (ownA G W env σ) W H W4 H5 := (T4.mono fun a z => .inl z).trans t5 fun a z => z.elim (fun z => (T4.pa a z).imp_left .inl) fun z => .inl (.inr z)
                      have T6 : Tr (ownA G W env σ) W H W6 H6 := T5.trans t6 fun x z => (T5.pa x z).imp_left .inl
                      exact k W6 σ H7 (T6.trans t7 fun a z => z.elim (fun z => (T6.pa a z).imp_left .inl) fun z => .inl (.inr (o5 a z))) R7 fun a z => .inl (o5 a (o7 a z))⟩
                    have := ref_eq ew ew2
                    subst this
                    exact hh2
                  have := ref_eq ev ev2
                  subst this
                  exact hh
              · cases hf
            · cases hf
          · cases hf
        · cases hf
      · cases hf
    · cases hf
end
end Cr
/-! ## == and != by an own def; a name that a comprehension is stored to; the end of a law -/
namespace Cr
open PySem L2
/-- an own class's operator -/
structure Opr (P : Program) (w : World) (K : PySem.W.Frag) (mg : Str → Option Value) (base : Heap) (G : Gm) (k : Nat) (c : String) (nm : Str) (m : MF) : Prop where
  ex : ∃ C f fd ps, G c = some C ∧ FnOk P w K mg base CX0 k f fd ps (spM G 2 m) ∧ PySem.W.findIn K (.ref C) nm = some (some (.ref f)) ∧ PySem.W.isFn K (.ref f) = true ∧ Binds K fd ps [] ∧
    PySem.W.subIn K (.type "tuple") (.ref C) = some false ∧ ∀ c' C', G c' = some C' → PySem.W.notFirst K C (.ref C') = true
def rOpr (G : Gm) (c : String) (m : MF) : R2 := fun x y H Q => ∃ a b C dx fs, x = .ref a ∧ y = .ref b ∧ G c = some C ∧ H a = some (.ins C dx fs) ∧ ((∃ xs, H b = some (.tup xs)) ∨ ∃ c' C' dy gs, G c' = some C' ∧ H b = some (.ins C' dy gs)) ∧
  spM G 2 m [x, y] H (fun v H' => (∃ k, v = .bl k) ∧ Q v H') E0
section
open PySem.Spec PyProof.Rows
variable {X : Cx} {G : Gm} {k : Nat} {c : String} {nm : Str} {m : MF}
theorem op_own {op : CmpOp} (F : Opr X.prog X.w X.K X.mg X.base G k c nm m) (hop : (cmpInfo op).2.1 = nm) (hrc : ∀ a b, compareOp op a b = richCompare op a b) (hr : Room k X.A) : OpR X (compareOp op) (rOpr G c m) := by
  obtain ⟨C0, f, fd, ps, hC0, F, hs, hf, hb, st, sc⟩ := F.ex
  intro pins s σ H x y v u Q I rx ry h
  obtain ⟨a, b, C, dx, fs, rfl, rfl, hC, ha, hy, hsp⟩ := h
  rw [hC0] at hC
  cases hC
  cases rx
  cases ry
  rw [hrc]
  obtain ⟨mA, J, _⟩ := ins_get I.hok ha
  obtain ⟨od, J, _⟩ := J.look
  obtain ⟨mm, hF⟩ := I.fr
  have main : ∀ {tb : Value}, PySem.W.Looks (model X.prog X.w) s.heap (typeOf (.ref b)) tb → PySem.W.notFirst X.K C0 tb = true → wpAny (model X.prog X.w) X.A (richCompare op (.ref a) (.ref b)) (EP X pins σ Q) X.xe s := fun {tb} lk nf => by
    refine PySem.W.cmp_K (op := op) (tb := tb) hr.units0 hF I.ok.mod.kin J lk nf (by rw [hop]; exact hs) hf ?_
    have hl := F.len _ _ _ _ hsp
    have r2 : Vals [V.ref a, V.ref b] [Value.ref a, Value.ref b] := .cons rfl (.cons rfl .nil)
    refine wpAny_call (codeAny_mono (F.run X.A X.stack s H ⟨[.ref a, .ref b], []⟩ [.ref a, .ref b] [.ref a, .ref b] _ _ hr I.env0 (by
      have := hb s [.ref a, .ref b] I.kIn (by simpa using hl)
      simpa using this) r2 hsp) fun r s' hq => ?_)
    cases r with
    | error e => exact pass0 pins σ H s e s' I hq
    | ok fl =>
      cases fl with
      | ret w =>
        obtain ⟨z, H', I', rz, ⟨kk, ez⟩, q⟩ := I.after hq
        subst ez
        cases rz
        exact ⟨.bl kk, H', I', rfl, q⟩
      | next => exact False.elim hq
      | brk => exact False.elim hq
      | cont => exact False.elim hq
  rcases hy with ⟨xs, hx⟩ | ⟨c', C', dy, gs, hc', hx⟩
  · obtain ⟨its, r, ⟨o, ho, hc, n, hd⟩, _⟩ := I.tuple (SqT.of hx)
    refine main (tb := .type "tuple") (hc ▸ (PySem.W.Looks.ld ho).andThen .now) ?_
    unfold PySem.W.notFirst
    rw [st]
    simp
  · obtain ⟨mB, J', _⟩ := ins_get I.hok hx
    obtain ⟨od', J', _⟩ := J'.look
    exact main J'.type (sc c' C' hc')
end
def isTO : D → Bool
  | .tup _ => true
  | .obj _ _ => true
  | _ => false
def fOwn (c : String) (m : MF) (fa fb : FV D) : FV D := fun env p => match fa env p with
  | some (.obj c' fs, p) => (match fb env p with
    | some (y, p) => if c' = c ∧ isTO y = true then (match m [.obj c' fs, y] p with
      | some (.bl k, p) => some (.bl k, p)
      | _ => none) else none
    | none => none)
  | _ => none
section
variable {X : Cx} {G : Gm} {W W1 : Wd} {H H1 : Hp} {env env1 : Env} {σ σ1 : St} {p p1 : PenSt} {r : D} {Q : VK} {e a b c tg iter : Expr} {f fa fb fc fe fk : FV D} {ft : FV Bool} {fx : FV Slot} {pos : Pos} {es : List Expr} {st : Stmt} {rest sts : List Stmt} {g g1 g2 : FS} {Dn : Ends} {o : Out}
theorem e_own {op : CmpOp} {k : Nat} {c : String} {nm : Str} {m : MF} (F : Opr X.prog X.w X.K X.mg X.base G k c nm m) (hr : Room k X.A) (ha : PE X a (tE G fa)) (hb : PE X b (tE G fb)) (hop : (cmpInfo op).2.1 = nm := by rfl) (hrc : ∀ a b, compareOp op a b = richCompare op a b := by intro _ _; rfl) (hm : behindInMarks op b = false := by rfl) :
    PE X (.Compare a [op] [b] pos) (tE G (fOwn c m fa fb)) :=
  peI (pe_cmpR (op_own F hop hrc hr) ha hb hm) fun σ H Q ⟨W, env, p, r, p', hR, hf, kk⟩ => by
    unfold fOwn at hf
    split at hf
    · rename_i c' fs p1 q
      split at hf
      · rename_i y p2 q2
        split at hf
        · rename_i hc
          obtain ⟨rfl, hy⟩ := hc
          split at hf
          · rename_i bb p3 q3
            cases hf
            refine ⟨W, env, p, _, p1, hR, q, fun W1 H1 v t1 R1 r1 => ⟨W1, env, p1, _, p2, R1, q2, fun W2 H2 u t2 R2 r2 => ?_⟩⟩
            have r1' := r1.te t2 R1.ok
            cases id r1' with
            | @obj a C dx _ gs _ sa ka ea na ra =>
              have fin : ∀ {b : Addr}, u = .ref b → ((∃ xs, H2 b = some (.tup xs)) ∨ ∃ c' C' dy gs, G c' = some C' ∧ H2 b = some (.ins C' dy gs)) → rOpr G c' m (.ref a) u H2 Q := fun {b} e h => by
                subst e
                refine ⟨a, b, C, dx, gs, rfl, rfl, ka, ea, h, W2, p2, _, _, _, R2.ok, .cons r1' (.cons r2 .nil), rfl, q3, fun W3 H3 v3 t3 w3 r3 => ?_⟩
                cases r3
                exact ⟨⟨bb, rfl⟩, kk W3 H3 _ ((t1.then t2).then t3) (R2.step t3 w3) (.bl bb)⟩
              cases y with
              | tup ds =>
                cases id r2 with
                | tup e r => exact fin rfl (.inl ⟨_, e⟩)
              | obj c2 gs2 =>
                cases id r2 with
                | obj s k e n r => exact fin rfl (.inr ⟨_, _, _, _, k, e⟩)
              | _ => cases hy
          · cases hf
        · cases hf
      · cases hf
    · cases hf
/-- name = [.. for ..], name a local of the function: not stored by way of the stack -/
theorem s_lc {i : Nat} {y : Str} {py : Pos} {elt iter : Expr} {ifs : List Expr} {scope : Scope} {own : List (Str × Nat)} {ts : List Nat} {spos : Pos} {fi : FV (List D)} {bd : BF} (hk : X.env.scope.kind = .function) (hc : X.calm = true) (hN : X.N.Nodup) (hy : X.N[i]? = some y) (hyl : X.env.scope.names.lookup y = some .local)
    (hl : (py.line == pos.line) = true) (han : (scope.names.any fun (n, k) => n == y && (k == .local || k == .cell)) = false) (hts : ∀ j ∈ ts, j ∈ own.map (·.2)) (hi : PI X tg iter (tI G fi)) (ok : BlkOk X.N X.env.scope scope own)
    (hg : ∀ (s : Shared) (H : Hp) (C : Addr) (cl : List (Str × Addr)) (fp : List Addr), PG (X.blk s H scope (compEnvC scope cl C X.env) fp) tg (tG G bd ts)) (ht : ∀ (s : Shared) (H : Hp) (C : Addr) (cl : List (Str × Addr)) (fp : List Addr), PTs (X.blk s H scope (compEnvC scope cl C X.env) fp) ifs (tT G ft))
    (he : ∀ (s : Shared) (H : Hp) (C : Addr) (cl : List (Str × Addr)) (fp : List Addr), PE (X.blk s H scope (compEnvC scope cl C X.env) fp) elt (tE G fe)) (hs : ∀ x, foldedSetIterable iter X.env x = pure x := by intro _; rfl) :
    PS X (.Assign [.Name y py] (.ListComp elt [⟨tg, iter, ifs, 0⟩] scope pos) spos) (tS G (sSet i (fX (fComp (own.map (·.2)) fi bd ft fe)))) :=
  s_setLc hc hN hy hyl (sw_true hk hyl hl han) hts hi ok hg ht he hs
/-- an own list given where a value is wanted: the same by the shared kind -/
def sShr (i : Nat) (fx : FV Slot) : FS := fun env p => match sSet i fx env p with
  | some (.nx e p) => (match e[i]? with
    | some (.ow ds) => some (.nx (e.set i (.sh (.lst ds))) p)
    | _ => none)
  | _ => none
end
end Cr
/-! ## sorted of tuples of ints, of any lengths -/
namespace Cr
open PySem PyProof.Rows Srt SrtO
/-! ### the order -/
theorem lx_asym : ∀ a b : List Int, HT.lexLt a b = true → HT.lexLt b a = false
  | [], [], _ => rfl
  | [], _ :: _, _ => rfl
  | _ :: _, [], h => by cases h
  | x :: a, y :: b, h => by
    rw [HT.lexLt_cons] at h ⊢
    by_cases e : x = y
    · rw [if_pos e] at h
      rw [if_pos e.symm]
      exact lx_asym a b h
    · rw [if_neg e] at h
      rw [if_neg (Ne.symm e)]
      have := of_decide_eq_true h
      exact decide_eq_false (by omega)
theorem lx_tr : ∀ x y z : List Int, HT.lexLt y x = false → HT.lexLt z y = false → HT.lexLt z x = false
  | x, y, [], h1, h2 => by
    cases y with
    | nil => exact h1
    | cons b y => cases h2
  | [], y, c :: z, _, _ => rfl
  | a :: x, [], c :: z, h1, _ => by cases h1
  | a :: x, b :: y, c :: z, h1, h2 => by
    rw [HT.lexLt_cons] at h1 h2 ⊢
    by_cases e : b = a
    · rw [if_pos e] at h1
      by_cases e2 : c = b
      · rw [if_pos e2] at h2
        rw [if_pos (e2.trans e)]
        exact lx_tr x y z h1 h2
      · rw [if_neg e2] at h2
        rw [if_neg (by omega), ← e]
        exact h2
    · rw [if_neg e] at h1
      have q1 := of_decide_eq_false h1
      by_cases e2 : c = b
      · rw [if_neg (by omega)]
        exact decide_eq_false (by omega)
      · rw [if_neg e2] at h2
        have q2 := of_decide_eq_false h2
        rw [if_neg (by omega)]
        exact decide_eq_false (by omega)
theorem lx_eq : ∀ a b : List Int, HT.lexLt a b = false → HT.lexLt b a = false → a = b
  | [], [], _, _ => rfl
  | [], _ :: _, h, _ => by cases h
  | _ :: _, [], _, h => by cases h
  | x :: a, y :: b, h1, h2 => by
    rw [HT.lexLt_cons] at h1 h2
    by_cases e : x = y
    · rw [if_pos e] at h1
      rw [if_pos e.symm] at h2
      rw [e, lx_eq a b h1 h2]
    · rw [if_neg e] at h1
      rw [if_neg (Ne.symm e)] at h2
      have q1 := of_decide_eq_false h1
      have q2 := of_decide_eq_false h2
      omega
theorem lx_irr : ∀ x : List Int, HT.lexLt x x = false
  | [] => rfl
  | n :: x => by rw [HT.lexLt_cons, if_pos rfl]; exact lx_irr x
theorem swo_lx (k : Value → List Int) : Swo fun v u => HT.lexLt (k v) (k u) := ⟨fun x y => lx_asym _ _, fun x y z => lx_tr _ _ _⟩
/-- a value is the tuple of these ints -/
def IT (h : Heap) (v : Value) (ns : List Int) : Prop := ∃ a o xs n, v = .ref a ∧ h.get? a = some o ∧ o.cls = .type "tuple" ∧ o.data = .seq xs n ∧ IntsAre xs.toList ns
theorem IT.keep {h h' : Heap} {v : Value} {ns : List Int} (t : IT h v ns) (k : ∀ b o, h.get? b = some o → o.cls = .type "tuple" → h'.get? b = some o) : IT h' v ns := by
  obtain ⟨a, o, xs, n, e, ho, hc, hd, hi⟩ := t
  exact ⟨a, o, xs, n, e, k a o ho hc, hc, hd, hi⟩
section
variable {prog : Program} {w : World} {A : Around} {E : Value → Shared → Prop} {s : Shared}
theorem katL : ∀ {us vs : List Value} {i : Nat} {b fin : Bool} {ns ms : List Int}, IntsAre us ns → IntsAre vs ms → (fin = decide (ns.length < ms.length)) →
    PySem.W.KatLex prog w A b fin (fun r s' => s' = s ∧ r = HT.lexLt ns ms) (us.zip vs) i s
  | _, _, i, b, fin, _, _, .nil, .nil, hf => PySem.W.kat_nil ⟨rfl, hf.trans rfl⟩
  | _, _, i, b, fin, _, _, .nil, .cons m t r, hf => PySem.W.kat_nil ⟨rfl, hf.trans (decide_eq_true (by simp))⟩
  | _, _, i, b, fin, _, _, .cons n t r, .nil, hf => PySem.W.kat_nil ⟨rfl, hf.trans (decide_eq_false (by simp))⟩
  | _, _, i, b, fin, _, _, .cons n t r, .cons m u q, hf => by
    refine PySem.W.kat_cons (SeqAt.EqAt.int_int n t m u prog w _ _ ?_)
    refine PySem.W.kat_go (fun e1 => ?_) (fun e1 => ?_)
    · have ex : n = m := by simpa using e1
      refine PySem.W.kat_yes ?_
      rw [HT.lexLt_cons, if_pos ex]
      exact katL r q (hf.trans (by rw [List.length_cons, List.length_cons]; exact decide_eq_decide.mpr (by omega)))
    · have ex : ¬ n = m := by simpa using e1
      refine PySem.W.kat_no ?_
      rw [HT.lexLt_cons, if_neg ex]
      cases hb : (b && i == 0) with
      | true => exact oneLt_int ⟨rfl, rfl⟩
      | false => exact PySem.W.kat_one _ _ (PyProof.Rows.lt_int (show s = s ∧ decide (n < m) = decide (n < m) from ⟨rfl, rfl⟩))
theorem tup_cmp {vs : List Value} {k : Value → List Int} {κ : SortKind} (hκ : κ = tuples' true ∨ κ = general' ∨ κ = oneType') (hu : A.units < cLine) (hp : ∀ v ∈ vs, IT s.heap v (k v)) : Cmp prog w A s κ (fun p => p.1 ∈ vs) (lt2 fun v u => HT.lexLt (k v) (k u)) := by
  intro p q hm hm'
  show wpAny (model prog w) A (keyLt' κ p.1 q.1) (fun r s' => s' = s ∧ r = HT.lexLt (k p.1) (k q.1)) (fun _ _ => False) s
  obtain ⟨a, o, xs, n, e, ho, hc, hd, hi⟩ := hp _ hm
  obtain ⟨a', o', xs', n', e', ho', hc', hd', hi'⟩ := hp _ hm'
  generalize k p.1 = ns at hi ⊢
  generalize k q.1 = ms at hi' ⊢
  rw [e, e']
  have l1 : xs.size = ns.length := by rw [← Array.length_toList]; exact hi.length
  have l2 : xs'.size = ms.length := by rw [← Array.length_toList]; exact hi'.length
  have t1 : IsTup s.heap a xs := ⟨o, ho, hc, n, hd⟩
  have t2 : IsTup s.heap a' xs' := ⟨o', ho', hc', n', hd'⟩
  rcases hκ with rfl | rfl | rfl
  · exact PySem.W.kat_lt ho hd ho' hd' (katL hi hi' (by rw [l1, l2]))
  · show wpAny (model prog w) A (oneLt' false (.ref a) (.ref a')) _ _ s
    exact PySem.W.kat_one _ _ (HT.lt_tupInts t1 t2 hi hi' hu (show s = s ∧ HT.lexLt ns ms = HT.lexLt ns ms from ⟨rfl, rfl⟩))
  · rw [keyLt'_oneType, oneLt'_eq]
    simp only [if_true]
    refine wpAny_bind (wpAny_cRoomFor hu ?_)
    obtain ⟨cls, dd, data, sl⟩ := o
    obtain ⟨cls', dd', data', sl'⟩ := o'
    simp only at hc hd hc' hd'
    subst hc hd hc' hd'
    refine wpAny_bind (wpAny_callSpecialIfBound?_slot (T := "tuple") ⟨_, ho, rfl⟩ PySem.F.slot_tuple_lt (call_meets PySem.F.slot_tuple_lt ⟨_, ho, rfl⟩ PySem.F.entry_tuple_lt (PySem.F.args_tuple_lt_2 _ _) (HT.tuple_lt_ints a a' xs xs' n n' dd dd' sl sl' ns ms hi hi') ⟨ho, ho', ?_⟩))
    exact wpAny_truthy_bool ⟨rfl, rfl⟩
/-! ### which kind -/
inductive Fs (k : Value → List Int) : List Value → List (Option Value) → Prop
  | nil : Fs k [] []
  | none {v vs fs} (h : (k v).isEmpty = true) (r : Fs k vs fs) : Fs k (v :: vs) (none :: fs)
  | some {v vs fs} (i : Int) (t : Tok) (h : (k v).isEmpty = false) (r : Fs k vs fs) : Fs k (v :: vs) (some (.int i t) :: fs)
theorem firsts_of {k : Value → List Int} : ∀ (vs : List Value) {Q : List (Option Value) → Shared → Prop}, (∀ v ∈ vs, IT s.heap v (k v)) → (∀ fs, Fs k vs fs → Q fs s) → wpAny (model prog w) A (vs.mapM firstOfTuple') Q E s
  | [], _, _, h => by rw [List.mapM_nil]; exact wpAny_pure (h [] .nil)
  | v :: vs, Q, hp, h => by
    obtain ⟨a, o, xs, n, e, ho, hc, hd, hi⟩ := hp v List.mem_cons_self
    subst e
    rw [List.mapM_cons]
    refine wpAny_bind ?_
    rw [PySem.W.kas_first_eq]
    refine wpAny_bind (PySem.W.Looks.here (show PySem.W.Looks (model prog w) s.heap (typeOf (.ref a)) o.cls from (PySem.W.Looks.ld ho).andThen .now) ?_)
    rw [hc, if_neg (by first | decide | simp)]
    refine wpAny_bind (listItems_at ho hd (wpAny_pure ?_))
    refine wpAny_bind (firsts_of vs (fun v hv => hp v (List.mem_cons_of_mem _ hv)) fun fs hf => wpAny_pure ?_)
    rw [← Array.getElem?_toList]
    generalize hk : k (Value.ref a) = ns at hi
    generalize xs.toList = us at hi
    cases hi with
    | nil => exact h _ (.none (by rw [hk]; rfl) hf)
    | cons i t r => exact h _ (.some i t (by rw [hk]; rfl) hf)
theorem Fs.ints {k : Value → List Int} : ∀ {vs : List Value} {fs : List (Option Value)}, Fs k vs fs → ∃ ns, IntsAre (fs.filterMap id) ns
  | _, _, .nil => ⟨[], .nil⟩
  | _, _, .none h r => r.ints
  | _, _, .some i t h r => let ⟨ns, h⟩ := r.ints; ⟨i :: ns, .cons i t h⟩
theorem Fs.all {k : Value → List Int} : ∀ {vs : List Value} {fs : List (Option Value)}, Fs k vs fs → (fs.all fun x => x.isSome) = vs.all fun v => !(k v).isEmpty
  | _, _, .nil => rfl
  | _, _, .none h r => by rw [List.all_cons, List.all_cons, h]; rfl
  | _, _, .some i t h r => by rw [List.all_cons, List.all_cons, h, r.all]; rfl
theorem Fs.head {k : Value → List Int} : ∀ {vs : List Value} {fs : List (Option Value)}, Fs k vs fs → (fs.toArray[0]?.bind id).isSome = vs.head?.any fun v => !(k v).isEmpty
  | _, _, .nil => rfl
  | _, _, .none h r => by simp [h]
  | _, _, .some i t h r => by simp [h]
def tkind (k : Value → List Int) (vs : List Value) : SortKind := if (vs.all fun v => !(k v).isEmpty) = true then tuples' true else if (vs.head?.any fun v => !(k v).isEmpty) = true then general' else oneType'
theorem tkind_is (k : Value → List Int) (vs : List Value) : tkind k vs = tuples' true ∨ tkind k vs = general' ∨ tkind k vs = oneType' := by
  unfold tkind
  split
  · exact .inl rfl
  · split
    · exact .inr (.inl rfl)
    · exact .inr (.inr rfl)
theorem tup_kind {k : Value → List Int} {vs : List Value} {Q : SortKind → Shared → Prop} (h0 : 0 < vs.length) (hp : ∀ v ∈ vs, IT s.heap v (k v)) (h : Q (tkind k vs) s) : wpAny (model prog w) A (keyKind' vs.toArray) Q E s := by
  rw [keyKind'_eq, List.mapM_toArray, map_eq_pure_bind]
  refine wpAny_bind (wpAny_bind (firsts_of vs hp fun fs hf => wpAny_pure ?_))
  have ea : (fs.toArray.all fun x => x.isSome) = vs.all fun v => !(k v).isEmpty := by rw [← hf.all]; simp
  unfold tkind at h
  rw [← ea, ← hf.head] at h
  by_cases hall : (fs.toArray.all fun x => x.isSome) = true
  · rw [if_pos hall]
    rw [if_pos hall] at h
    refine wpAny_bind (wpAny_rule ?_)
    have hfm : (fs.toArray.filterMap id) = (fs.filterMap id).toArray := by simp
    obtain ⟨ns, hi⟩ := hf.ints
    rw [hfm, oneTypeOnly'_eq, List.mapM_toArray, mapM_typeOf_ints hi]
    simp only [map_pure, pure_bind]
    have hne : ∃ f r, fs.filterMap id = f :: r := by
      cases hf with
      | nil => exact absurd h0 (by simp)
      | none _ _ => simp at hall
      | some i t _ r => exact ⟨_, _, rfl⟩
    obtain ⟨f, r, e⟩ := hne
    rw [e]
    have ha : ((List.map (fun _ => Value.type "int") (f :: r)).toArray.all fun x => x == Value.type "int") = true := by
      simp only [List.all_toArray, List.all_map, List.all_eq_true]
      intro _ _
      rfl
    have hz : (List.map (fun _ => Value.type "int") (f :: r)).toArray[0]? = some (Value.type "int") := by simp
    rw [hz]
    simp only [ha, if_true, pure_bind]
    exact wpAny_pure h
  · rw [if_neg hall]
    rw [if_neg hall] at h
    by_cases hb : (fs.toArray[0]?.bind id).isSome = true
    · rw [if_pos hb]
      rw [if_pos hb] at h
      exact wpAny_pure h
    · rw [if_neg hb]
      rw [if_neg hb] at h
      rw [oneTypeOnly'_eq, List.mapM_toArray, map_eq_pure_bind]
      refine wpAny_bind (wpAny_bind (wpAny_bind (PySem.W.kas_mapM (r := Value.type "tuple") _ (fun v hv Q' hq => ?_) (wpAny_pure ?_))))
      · obtain ⟨a, o, xs, n, e, ho, hc, hd, hi⟩ := hp v hv
        rw [e]
        exact PySem.W.Looks.here (show PySem.W.Looks (model prog w) s.heap (typeOf (.ref a)) (.type "tuple") from hc ▸ (PySem.W.Looks.ld ho).andThen .now) hq
      · obtain ⟨v, r, e⟩ : ∃ v r, vs = v :: r := by
          match vs, h0 with
          | v :: r, _ => exact ⟨v, r, rfl⟩
        rw [e]
        have ha : ((List.map (fun _ => Value.type "tuple") (v :: r)).toArray.all fun x => x == Value.type "tuple") = true := by
          simp only [List.all_toArray, List.all_map, List.all_eq_true]
          intro _ _
          rfl
        have hz : (List.map (fun _ => Value.type "tuple") (v :: r)).toArray[0]? = some (Value.type "tuple") := by simp
        rw [hz]
        simp only [ha, if_true]
        refine wpAny_pure ?_
        exact wpAny_pure h
theorem tups_sortable {a : Addr} {vs : List Value} {k : Value → List Int} (h0 : 0 < vs.length) (hu : A.units < cLine) (hp : ∀ v ∈ vs, IT s.heap v (k v)) (ha : ∀ o, s.heap.get? a = some o → o.cls ≠ .type "tuple") : SortableO prog w A s a vs fun v u => HT.lexLt (k v) (k u) := by
  intro h' keep
  have hp' : ∀ v ∈ vs, IT h' v (k v) := fun v hm => (hp v hm).keep fun b o e c => keep b o (fun z => by subst z; exact ha o e c) e
  exact ⟨tkind k vs, fun Q E hq => tup_kind (s := { s with heap := h' }) h0 hp' hq, tup_cmp (s := { s with heap := h' }) (tkind_is k vs) hu hp'⟩
/-- the items of a tuple, collected -/
theorem collect_tup {l : Addr} {vs : List Value} {Q : List Value → Shared → Prop} (hl : IsTup s.heap l vs.toArray)
    (h : Q vs { s with heap := (s.heap.push (seqObj "list" #[] 0)).update s.heap.objs.size (Obj.mapSeq (· ++ vs.toArray)) }) (hsz : vs.length ≤ sizeLine) :
    wpAny (model prog w) A (collect (.ref l)) Q E s := by
  obtain ⟨o, ho, hc, n, hd⟩ := id hl
  unfold collect
  refine wpAny_bind (wpAny_runValue (codeAny_builtin entry_proto_collect' ?_))
  show wpAny _ _ (do again (.builtin "list.__iadd__" ⟨[← newList [], .ref l], []⟩)) _ _ s
  refine wpAny_bind (wpAny_newList (wpAny_pure ⟨Code.quiet_builtin _ (by decide +kernel), codeAny_builtin entry_list_iadd' ?_⟩))
  show wpAny _ _ (Builtin.List.listExtendWith (.ref s.heap.objs.size) (.ref l) (.ref s.heap.objs.size)) _ _ { s with heap := s.heap.push (seqObj "list" #[] 0) }
  unfold Builtin.List.listExtendWith
  have ho' : (s.heap.push (seqObj "list" #[] 0)).get? l = some o := Heap.get?_push_of_some _ ho
  refine wpAny_bind (wpAny_typeOf (T := "tuple") ⟨o, ho', hc⟩ ?_)
  have ht : (Value.type "tuple" == Value.type "tuple") = true := by rfl
  rw [if_pos (by rw [ht]; simp)]
  refine wpAny_bind (listItems_at ho' hd ?_)
  refine wpAny_bind (listItems_at (xs := #[]) (n := 0) (Heap.get?_push_size _ rfl) rfl ?_)
  rw [if_neg (by simp)]
  refine wpAny_bind (listUpdate_at (xs := #[]) (n := 0) (Heap.get?_push_size _ rfl) rfl ?_ (Nat.zero_le _) (by show (#[] ++ vs.toArray).size ≤ sizeLine + 1; simp only [Array.size_append, List.size_toArray, List.length_nil]; omega))
  refine wpAny_pure ?_
  show wpAny (model prog w) A (do
      let o ← load s.heap.objs.size
      match o.data with
      | .seq xs _ => pure xs.toList
      | _ => unsupported "internal:collect") Q E { s with heap := (s.heap.push (seqObj "list" #[] 0)).update s.heap.objs.size (Obj.mapSeq (· ++ vs.toArray)) }
  refine wpAny_bind (wpAny_load (get?_update_seq (Heap.get?_push_size _ rfl) _) ?_)
  show wpAny _ _ (pure ((#[] : Array Value) ++ vs.toArray).toList) Q E _
  rw [show ((#[] : Array Value) ++ vs.toArray).toList = vs by simp]
  exact wpAny_pure h
/-- sorted(x), x a list or a tuple -/
theorem sorted_any {l : Addr} {vs : List Value} {ltv : Value → Value → Bool} {Q : Value → Shared → Prop} (O : Swo ltv) (hl : s.heap.IsList l vs.toArray ∨ IsTup s.heap l vs.toArray) (hz : vs.length ≤ sizeLine)
    (hS : 2 ≤ vs.length → ∀ (h₁ : Heap) (a : Addr), h₁.get? a = some (seqObj "list" vs.toArray 0) → (∀ b o, s.heap.get? b = some o → b ≠ a ∧ h₁.get? b = some o) → SortableO prog w A.in1.in1 { s with heap := h₁ } a vs ltv)
    (h : ∀ out : List Value, Srtd ltv out → Stb ltv out vs → Q (.ref (s.heap.objs.size + 1)) { s with heap := sortedAll s.heap vs out.toArray }) :
    wpAny (model prog w) A (call (.builtin "sorted") [.ref l]) Q E s := by
  refine Calls.call_function_entry kind_sorted plain_sorted entry_sorted (args_sorted1 _) ?_
  unfold Builtin.«sorted»
  refine wpAny_bind (m := checkCount "sorted" 1 1 _) (wpAny_pure ?_)
  have col : ∀ {A : Around} {E : Value → Shared → Prop} {Q : List Value → Shared → Prop}, Q vs { s with heap := (s.heap.push (seqObj "list" #[] 0)).update s.heap.objs.size (Obj.mapSeq (· ++ vs.toArray)) } → wpAny (model prog w) A (collect (.ref l)) Q E s := fun {A E Q} q =>
    hl.elim (fun hl => collect_list hl q hz) fun hl => collect_tup hl q hz
  refine wpAny_bind (col ?_)
  refine wpAny_bind (wpAny_newList ?_ hz)
  have hsz : ((s.heap.push (seqObj "list" #[] 0)).update s.heap.objs.size (Obj.mapSeq (· ++ vs.toArray))).objs.size = s.heap.objs.size + 1 := by
    rw [Heap.size_update, size_push']
  have hoL : (((s.heap.push (seqObj "list" #[] 0)).update s.heap.objs.size (Obj.mapSeq (· ++ vs.toArray))).push (seqObj "list" vs.toArray 0)).get? (s.heap.objs.size + 1) = some (seqObj "list" vs.toArray 0) := by
    rw [← hsz]; exact Heap.get?_push_size _ rfl
  have keep : ∀ b o, s.heap.get? b = some o → b ≠ s.heap.objs.size + 1 ∧ (((s.heap.push (seqObj "list" #[] 0)).update s.heap.objs.size (Obj.mapSeq (· ++ vs.toArray))).push (seqObj "list" vs.toArray 0)).get? b = some o := fun b o q => by
    have hlt : b < s.heap.objs.size := Heap.lt_size q
    refine ⟨Nat.ne_of_lt (Nat.lt_succ_of_lt hlt), Heap.get?_push_of_some _ ?_⟩
    rw [Heap.get?_update_ne _ _ _ _ (Nat.ne_of_lt hlt)]
    exact Heap.get?_push_of_some _ q
  show wpAny _ _ _ _ _ { s with heap := ((s.heap.push (seqObj "list" #[] 0)).update s.heap.objs.size (Obj.mapSeq (· ++ vs.toArray))).push (seqObj "list" vs.toArray 0) }
  rw [hsz]
  refine wpAny_bind (wpAny_holding (wpAny_call_entry slot_list_sort ⟨_, hoL, rfl⟩ entry_list_sort (list_sort_ord O hoL hz (fun h2 => hS h2 _ _ hoL keep) fun out hs hb => ⟨_, rfl, ?_⟩) (args_list_sort _)))
  exact wpAny_pure ⟨_, rfl, h out hs hb⟩
end
end Cr
namespace Cr
open PySem L2 PySem.Spec PyProof.Rows
/-! ### as rules -/
def intV : V → Option Int
  | .int i => some i
  | _ => none
open Classical in
/-- the ints of a tuple -/
noncomputable def tupK (H : Hp) (y : V) : List Int := if h : ∃ (t : Addr) (ns : List Int), y = .ref t ∧ H t = some (.tup (ns.map V.int)) then choose (choose_spec h) else []
theorem map_int_inj : ∀ {ns ms : List Int}, ns.map V.int = ms.map V.int → ns = ms
  | [], [], _ => rfl
  | [], _ :: _, h => by cases h
  | _ :: _, [], h => by cases h
  | n :: ns, m :: ms, h => by
    have h1 := (List.cons.inj h).1
    cases h1
    rw [map_int_inj (List.cons.inj h).2]
theorem tupK_of {H : Hp} {t : Addr} {ns : List Int} (h : H t = some (.tup (ns.map V.int))) : tupK H (.ref t) = ns := by
  have hh : ∃ (t' : Addr) (ms : List Int), V.ref t = .ref t' ∧ H t' = some (.tup (ms.map V.int)) := ⟨t, ns, rfl, h⟩
  unfold tupK
  rw [dif_pos hh]
  obtain ⟨e, q⟩ := Classical.choose_spec (Classical.choose_spec hh)
  generalize Classical.choose (Classical.choose_spec hh) = ms at q
  generalize Classical.choose hh = t' at e q
  cases e
  rw [h] at q
  have q2 : HO.tup (ns.map V.int) = HO.tup (ms.map V.int) := Option.some.inj q
  have q3 : ns.map V.int = ms.map V.int := HO.tup.inj q2
  exact (map_int_inj q3).symm
def rSrt (K : PySem.W.Frag) : List V → Hp → VK → Prop := fun vs H Q => ∃ (a : Addr) (ys : List V), vs = [V.ref a] ∧ (SqL K H a ys ∨ SqT K H a ys) ∧
  ((∃ ns : List Int, ys = ns.map V.int ∧ ∀ (ns' : List Int) (p : Addr), ns'.Perm ns → ns'.Pairwise (· ≤ ·) → H p = none → Q (.ref p) (upd H p (.lst (ns'.map V.int)))) ∨
    ((∀ y ∈ ys, ∃ (t : Addr) (ns : List Int), y = .ref t ∧ H t = some (.tup (ns.map V.int))) ∧
      ∀ (zs : List V) (p : Addr), zs.Perm ys → zs.Pairwise (fun x y => HT.lexLt (tupK H y) (tupK H x) = false) → H p = none → Q (.ref p) (upd H p (.lst zs))))
theorem vals_back {ys : List V} {its out : List Value} (rv : Vals ys its) (hr : ∀ y ∈ ys, ∃ t, y = V.ref t) (hp : out.Perm its) : Vals (out.map backV) out ∧ (out.map backV).Perm ys := by
  obtain ⟨e1, e2⟩ := refs_back rv hr
  refine ⟨?_, by rw [e1]; exact hp.map backV⟩
  have h3 : ∀ u ∈ out, ∃ a, u = Value.ref a := fun u hu => e2 u (hp.mem_iff.mp hu)
  clear hp
  induction out with
  | nil => exact .nil
  | cons u out ih =>
    obtain ⟨a, rfl⟩ := h3 u List.mem_cons_self
    exact .cons rfl (ih fun v hv => h3 v (List.mem_cons_of_mem _ hv))
theorem cr_srt {X : Cx} (hu : X.A.units + 8 < cLine) : CallR X (.builtin "sorted") (rSrt X.K) := by
  intro pins s σ H vs us Q I r h
  obtain ⟨a, ys, rfl, hs, q⟩ := h
  rw [Vals.ref1 r]
  have both : ∃ its, Vals ys its ∧ (s.heap.IsList a its.toArray ∨ IsTup s.heap a its.toArray) ∧ ys.length ≤ sizeLine := by
    rcases hs with hs | hs
    · obtain ⟨its, rv, hl, hz⟩ := I.list hs
      exact ⟨its, rv, .inl hl.isList, hz⟩
    · obtain ⟨its, rv, hl, hz⟩ := I.tuple hs
      exact ⟨its, rv, .inr hl, hz⟩
  obtain ⟨its, rv, hl, hz⟩ := both
  rcases q with ⟨ns, rfl, q⟩ | ⟨hy, q⟩
  · have hi := rv.ints
    refine sorted_any SrtO.swo_int hl (by rw [← rv.length]; exact hz) (fun h2 h₁ a' _ _ => SrtO.ints_sortable hi h2) fun out h1 h2 => ?_
    obtain ⟨k1, k2, k3⟩ := SrtO.ints_out hi h1 h2
    obtain ⟨ep, he'⟩ := PyProof.Rows.sortedAll_at s.heap its out.toArray
    have hlen : ((out.map SrtO.iv).map V.int).length ≤ sizeLine := by
      rw [List.length_map, k2.length_eq]
      rw [List.length_map] at hz
      exact hz
    exact ⟨.ref _, upd H (s.heap.objs.size + 1) (.lst ((out.map SrtO.iv).map V.int)), I.laid (t' := s.toks) (fun _ _ => PyProof.Rows.sortedAll_old) (Nat.le_succ _) ⟨hlen, out, ep, vals_of_ints k1, he'⟩, rfl, q _ _ k2 k3 (I.hok.fresh (Nat.le_succ _))⟩
  · have hr : ∀ y ∈ ys, ∃ t, y = V.ref t := fun y hm => let ⟨t, _, e, _⟩ := hy y hm; ⟨t, e⟩
    obtain ⟨e1, e2⟩ := refs_back rv hr
    have hp : ∀ v ∈ its, IT s.heap v (tupK H (backV v)) := fun v hv => by
      obtain ⟨t, rfl⟩ := e2 v hv
      have hm : V.ref t ∈ ys := by rw [e1]; exact List.mem_map.mpr ⟨_, hv, rfl⟩
      obtain ⟨t', ns, e, ht⟩ := hy _ hm
      cases e
      have hk : tupK H (backV (Value.ref t)) = ns := tupK_of ht
      rw [hk]
      obtain ⟨its2, r2, ⟨o, ho, hc, n, hd⟩, _⟩ := I.tuple (SqT.of ht)
      exact ⟨t, o, _, n, rfl, ho, hc, hd, intsAre_of r2⟩
    refine sorted_any (swo_lx fun v => tupK H (backV v)) hl (by rw [← rv.length]; exact hz) (fun h2 h₁ a' ha kk => ?_) fun out h1 h2 => ?_
    · refine tups_sortable (s := { s with heap := h₁ }) (by omega) (by show X.A.units + 1 + 1 < cLine; omega) (fun v hm => (hp v hm).keep fun b o e _ => (kk b o e).2) fun o e => ?_
      have e' : some o = some (seqObj "list" its.toArray 0) := e.symm.trans ha
      cases e'
      intro c
      exact absurd (Value.type.inj c) (by decide)
    · obtain ⟨k1, k2⟩ := vals_back rv hr h2.perm
      obtain ⟨ep, he'⟩ := PyProof.Rows.sortedAll_at s.heap its out.toArray
      have hlen : (out.map backV).length ≤ sizeLine := by rw [k2.length_eq]; exact hz
      exact ⟨.ref _, upd H (s.heap.objs.size + 1) (.lst (out.map backV)), I.laid (t' := s.toks) (fun _ _ => PyProof.Rows.sortedAll_old) (Nat.le_succ _) ⟨hlen, out, ep, k1, he'⟩, rfl, q _ _ k2 (List.pairwise_map.mpr h1) (I.hok.fresh (Nat.le_succ _))⟩
/-! ### as functions -/
def isort (ns : List Int) : List Int := ns.mergeSort fun x y => decide (x ≤ y)
def tsort (nss : List (List Int)) : List (List Int) := nss.mergeSort fun x y => !HT.lexLt y x
theorem sorted_one {α : Type} {r : α → α → Prop} (hr : ∀ a b, r a b → r b a → a = b) (rf : ∀ a, r a a) : ∀ {a b : List α}, a.Perm b → a.Pairwise r → b.Pairwise r → a = b
  | [], b, h, _, _ => (List.Perm.nil_eq h)
  | x :: l, [], h, _, _ => absurd h.length_eq (by simp)
  | x :: l, y :: t, h, ha, hb => by
    have hx : x ∈ y :: t := h.subset (List.mem_cons_self ..)
    have hy : y ∈ x :: l := h.symm.subset (List.mem_cons_self ..)
    have h1 : r x y := by
      cases List.mem_cons.mp hy with
      | inl e => rw [e]; exact rf x
      | inr m => exact (List.pairwise_cons.mp ha).1 y m
    have h2 : r y x := by
      cases List.mem_cons.mp hx with
      | inl e => rw [e]; exact rf y
      | inr m => exact (List.pairwise_cons.mp hb).1 x m
    have e : x = y := hr _ _ h1 h2
    subst e
    rw [sorted_one hr rf h.cons_inv (List.pairwise_cons.mp ha).2 (List.pairwise_cons.mp hb).2]
theorem isort_of {a b : List Int} (h : a.Perm b) (ha : a.Pairwise (· ≤ ·)) : a = isort b := PySem.W.os_sorted_mergeSort h ha
theorem tsort_of {a b : List (List Int)} (h : a.Perm b) (ha : a.Pairwise fun x y => HT.lexLt y x = false) : a = tsort b := by
  refine sorted_one (r := fun x y => HT.lexLt y x = false) (fun x y h1 h2 => (lx_eq _ _ h1 h2).symm) lx_irr (h.trans (List.mergeSort_perm b _).symm) ha ?_
  have hs := List.pairwise_mergeSort (le := fun x y : List Int => !HT.lexLt y x) (by
    intro x y z hxy hyz
    have h1 : HT.lexLt y x = false := by simpa using hxy
    have h2 : HT.lexLt z y = false := by simpa using hyz
    have := lx_tr _ _ _ h1 h2
    simp [this]) (by
    intro x y
    cases hb : HT.lexLt y x with
    | false => rfl
    | true => rw [lx_asym _ _ hb]; rfl) b
  exact hs.imp fun {x y} h => by simpa using h
def tupsD : List D → Option (List (List Int))
  | [] => some []
  | .tup xs :: r => (match intsD xs, tupsD r with
    | some ns, some nss => some (ns :: nss)
    | _, _ => none)
  | _ :: _ => none
theorem tupsD_some : ∀ {ds : List D} {nss : List (List Int)}, tupsD ds = some nss → ds = nss.map fun ns => D.tup (ns.map D.int)
  | [], nss, h => by cases h; rfl
  | d :: ds, nss, h => by
    cases d <;> first | (cases h; done) | skip
    rename_i xs
    unfold tupsD at h
    split at h
    · rename_i ns nss' h1 h2
      cases h
      rw [List.map_cons, ← tupsD_some h2, ← intsD_some h1]
    · cases h
def sortD (ds : List D) : Option D := match intsD ds with
  | some ns => some (.lst ((isort ns).map D.int))
  | none => (match tupsD ds with
    | some nss => some (.lst ((tsort nss).map fun ns => D.tup (ns.map D.int)))
    | none => none)
def gSorted : D → Option D
  | .lst ds => sortD ds
  | .tup ds => sortD ds
  | _ => none
section
variable {X : Cx} {G : Gm} {W : Wd} {H : Hp} {env : Env} {σ : L2.St} {p : PenSt} {r : D} {Q : VK} {a : Expr} {fa : FV D} {pos : Pos}
theorem Reps.tupsK : ∀ {ys : List V} {nss : List (List Int)}, Reps G W H ys (nss.map fun ns => D.tup (ns.map D.int)) → (∀ y ∈ ys, ∃ (t : Addr) (ns : List Int), y = .ref t ∧ H t = some (.tup (ns.map V.int))) ∧ ys.map (tupK H) = nss
  | _, [], .nil => ⟨fun y h => (by cases h), rfl⟩
  | _, ns :: nss, .cons h t => by
    cases h with
    | @tup b xs _ e r =>
      have ex := Reps.ints r
      subst ex
      obtain ⟨h1, h2⟩ := Reps.tupsK t
      refine ⟨fun y hy => ?_, ?_⟩
      · rcases List.mem_cons.mp hy with z | z
        · exact ⟨b, ns, z, e⟩
        · exact h1 y z
      · rw [List.map_cons, tupK_of e, h2]
theorem Reps.ofK : ∀ {zs : List V}, (∀ y ∈ zs, ∃ (t : Addr) (ns : List Int), y = .ref t ∧ H t = some (.tup (ns.map V.int))) → Reps G W H zs ((zs.map (tupK H)).map fun ns => D.tup (ns.map D.int))
  | [], _ => .nil
  | z :: zs, h => by
    obtain ⟨t, ns, rfl, e⟩ := h z List.mem_cons_self
    rw [List.map_cons, List.map_cons, tupK_of e]
    exact .cons (.tup e (Reps.ofInts ns)) (Reps.ofK fun y hy => h y (List.mem_cons_of_mem _ hy))
theorem srt_core {x : V} {ds : List D} {ys : List V} {b : Addr} (hR : R G W env p σ H) (hs : SqL X.K H b ys ∨ SqT X.K H b ys) (rr : Reps G W H ys ds) (hg : sortD ds = some r) (k : PostV G W env σ H p (NewP G H r) Q) : rSrt X.K [.ref b] H Q := by
  unfold sortD at hg
  refine ⟨b, ys, rfl, hs, ?_⟩
  split at hg
  · rename_i ns hi
    cases hg
    rw [intsD_some hi] at rr
    have ey := Reps.ints rr
    refine .inl ⟨ns, ey, fun ns' q hp hw hq => ?_⟩
    rw [isort_of hp hw]
    exact k.newL hR hq rfl (Reps.ofInts _)
  · split at hg
    · rename_i nss ht
      cases hg
      rw [tupsD_some ht] at rr
      obtain ⟨h1, h2⟩ := Reps.tupsK rr
      refine .inr ⟨h1, fun zs q hp hw hq => ?_⟩
      have e : zs.map (tupK H) = tsort nss := tsort_of (by rw [← h2]; exact hp.map _) (List.pairwise_map.mpr hw)
      refine k.newL hR hq rfl ?_
      rw [← e]
      exact Reps.ofK fun y hy => h1 y (hp.mem_iff.mp hy)
    · cases hg
theorem is_sorted : Is1N G (fun x H Q => rSrt X.K [x] H Q) gSorted := fun W env p σ H x d r Q hR hx hg k => by
  cases d with
  | lst ds =>
    obtain ⟨b, ys, rfl, e, q⟩ := hx.lst
    exact srt_core (x := .ref b) hR (.inl (SqL.of e)) q hg k
  | tup ds =>
    obtain ⟨b, ys, rfl, e, q, _⟩ := hx.tup
    exact srt_core (x := .ref b) hR (.inr (SqT.of e)) q hg k
  | _ => cases hg
theorem n_sorted {p0 : Pos} (hu : X.A.units + 65 < cLine) (hg : Gl X "sorted") (hm : X.mg "sorted" = none) (ha : PE X a (tB G fa)) (hs : starEach [a] X.env = (false, eval a X.env) :: starEach [] X.env := by rfl) : PE X (.Call (.Name "sorted" p0) [a] [] pos) (tN G (f1 gSorted fa)) :=
  n_b1 (cr_srt (by omega)) is_sorted hg hm boot_sorted_ ha (by decide) (by decide) hs
end
end Cr
/-! ## the pen -/
namespace Cr
open PySem L2
/-! ### its places -/
structure PK (k : Key) (get : PenSt → D) : Prop where
  rd : ∀ {G : Gm} {W : Wd} {H : Hp} (c : Addr) (p : PenSt), W.S c → H c = some (.lst (p.cells.map V.int)) → ∃ v, valV (penKvs c p) k = some v ∧ Rep G W H v (get p)
theorem pk_cells : PK kCells fun p => .lst (p.cells.map D.int) := ⟨fun c p s e => ⟨.ref c, rfl, .lst s e (Reps.ofInts _)⟩⟩
theorem pk_at : PK kAt fun p => .int p.at_ := ⟨fun c p s e => ⟨.int p.at_, by rfl, .int _⟩⟩
theorem pk_digits : PK kDigits fun p => .int p.digits := ⟨fun c p s e => ⟨.int p.digits, by rfl, .int _⟩⟩
theorem pk_count : PK kCount fun p => .int p.count := ⟨fun c p s e => ⟨.int p.count, by rfl, .int _⟩⟩
theorem pk_fold : PK kFold fun p => .int p.fold := ⟨fun c p s e => ⟨.int p.fold, by rfl, .int _⟩⟩
structure PU (k : Key) (u : PenSt → D → Option PenSt) : Prop where
  wr : ∀ {G : Gm} {W : Wd} {H : Hp} {v : V} {d : D} (c : Addr) (p p' : PenSt), Rep G W H v d → u p d = some p' → putK (penKvs c p) k v = penKvs c p' ∧ p'.cells = p.cells ∧ p'.rows = p.rows
def uAt (p : PenSt) : D → Option PenSt
  | .int i => if 0 ≤ i then some { p with at_ := i.toNat } else none
  | _ => none
def uDigits (p : PenSt) : D → Option PenSt
  | .int i => some { p with digits := i }
  | _ => none
def uCount (p : PenSt) : D → Option PenSt
  | .int i => some { p with count := i }
  | _ => none
def uFold (p : PenSt) : D → Option PenSt
  | .int i => some { p with fold := i }
  | _ => none
theorem pu_at : PU kAt uAt := ⟨fun {G W H v d} c p p' r h => by
  cases d <;> first | (cases h; done) | skip
  rename_i i
  cases r
  have h : (if 0 ≤ i then some { p with at_ := i.toNat } else none) = some p' := h
  by_cases hi : 0 ≤ i
  · rw [if_pos hi] at h
    cases h
    refine ⟨?_, rfl, rfl⟩
    have e : ((i.toNat : Nat) : Int) = i := Int.toNat_of_nonneg hi
    show _ = [(kCells, V.ref c), (kAt, V.int ((i.toNat : Nat) : Int)), (kDigits, V.int p.digits), (kCount, V.int p.count), (kFold, V.int p.fold)]
    rw [e]
    rfl
  · rw [if_neg hi] at h
    cases h⟩
theorem pu_digits : PU kDigits uDigits := ⟨fun {G W H v d} c p p' r h => by
  cases d <;> first | (cases h; done) | skip
  cases r
  cases h
  exact ⟨rfl, rfl, rfl⟩⟩
theorem pu_count : PU kCount uCount := ⟨fun {G W H v d} c p p' r h => by
  cases d <;> first | (cases h; done) | skip
  cases r
  cases h
  exact ⟨rfl, rfl, rfl⟩⟩
theorem pu_fold : PU kFold uFold := ⟨fun {G W H v d} c p p' r h => by
  cases d <;> first | (cases h; done) | skip
  cases r
  cases h
  exact ⟨rfl, rfl, rfl⟩⟩
def PenSt.okB (p : PenSt) : Bool := decide (p.at_ ≤ p.cells.length) && decide (p.cells.length ≤ 63) && decide (0 ≤ p.digits) && decide (0 ≤ p.fold) && decide (p.fold < 2147483648)
theorem PenSt.ok_of {p : PenSt} (h : p.okB = true) : p.Ok := by
  unfold PenSt.okB at h
  simp only [Bool.and_eq_true, decide_eq_true_eq] at h
  exact ⟨h.1.1.1.1, h.1.1.1.2, h.1.1.2, h.1.2, h.2⟩
theorem PenSt.okB_of {p : PenSt} (h : p.Ok) : p.okB = true := by
  unfold PenSt.okB
  simp only [Bool.and_eq_true, decide_eq_true_eq]
  exact ⟨⟨⟨⟨h.le, h.len⟩, h.dg⟩, h.f0⟩, h.f1⟩
def fPen (i : Nat) (get : PenSt → D) : FV D := fun env p => match env[i]? with
  | some (.sh .pen) => some (get p, p)
  | _ => none
def sPen (i : Nat) (u : PenSt → D → Option PenSt) (fe : FV D) : FS := fun env p => match fe env p with
  | some (d, p) => (match env[i]? with
    | some (.sh .pen) => (match u p d with
      | some p' => if p'.okB = true then some (.nx env p') else none
      | none => none)
    | _ => none)
  | none => none
section
variable {X : Cx} {G : Gm} {W W1 : Wd} {H H1 : Hp} {env env1 : Env} {σ σ1 : St} {p p1 : PenSt} {r : D} {Q : VK} {e a b c tg iter o : Expr} {f fa fb fc fe fk : FV D} {pos pos' : Pos} {Dn : Ends}
theorem R.penAt (hR : R G W env p σ H) {i : Nat} (he : env[i]? = some (.sh .pen)) : ∃ q c, σ[i]? = some (some (.ref q)) ∧ W.pen = some q ∧ ¬ W.S q ∧ W.S c ∧ H c = some (.lst (p.cells.map V.int)) ∧ H q = some (.dK (penKvs c p)) := by
  obtain ⟨v, ev, rv⟩ := hR.slot i _ he (fun z => by cases z)
  cases rv with
  | @pen q eq =>
    obtain ⟨n1, _, c, h3, h4, h5⟩ := hR.ok.pen q eq
    exact ⟨q, c, ev, eq, n1, h3, h4, h5⟩
theorem e_pen {i : Nat} {k : Key} {get : PenSt → D} (K : PK k get) (hu : X.A.units + 1 < cLine) (ho : PE X o (tVar i)) (hk : PE X b (tC (kV k))) (hs : NoSl b) : PE X (.Subscript o b pos) (tE G (fPen i get)) :=
  peI (pe_dget hu ho hk hs) fun σ H Q ⟨W, env, p, r, p', hR, hf, kk⟩ => by
    unfold fPen at hf
    split at hf
    · rename_i he
      cases hf
      obtain ⟨q, c, ev, eq, n1, h3, h4, h5⟩ := hR.penAt he
      obtain ⟨v, hv, rv⟩ := K.rd (G := G) c p h3 h4
      refine ⟨.ref q, ev, q, v, rfl, ?_, kk W H v Tr.refl hR rv⟩
      have := DGet.k (k := k) h5
      rw [hv] at this
      exact this
    · cases hf
theorem s_pen {i : Nat} {k : Key} {u : PenSt → D → Option PenSt} (U : PU k u) (hu : X.A.units + 1 < cLine) (ho : PE X o (tVar i)) (hk : PE X b (tC (kV k))) (hv : PE X a (tE G fe)) (hs : swapsWith a (some (.Subscript o b pos')) pos.line X.env = pure false := by rfl) :
    PS X (.Assign [.Subscript o b pos'] a pos) (tS G (sPen i u fe)) :=
  psI (ps_dput hu ho hk hv hs) fun Dn σ H ⟨W, env, p, o, hR, hf, kk⟩ => by
    unfold sPen at hf
    split at hf
    · rename_i d p1 q
      split at hf
      · rename_i he
        split at hf
        · rename_i p2 hp2
          split at hf
          · rename_i hok
            cases hf
            refine ⟨W, env, p, d, p1, hR, q, fun W1 H1 v t1 R1 rv => ?_⟩
            obtain ⟨q, c, ev, eq, n1, h3, h4, h5⟩ := R1.penAt he
            obtain ⟨hw, hc, hrw⟩ := U.wr c p1 p2 rv hp2
            refine ⟨.ref q, ev, q, _, rfl, DPut.k h5 (by rw [sizeLine_eq]; exact (show 5 < 16777216 by decide)), ?_⟩
            rw [hw]
            have ncq : c ≠ q := fun z => n1 (z ▸ h3)
            have t2 : Tr (penA G W1) W1 H1 W1 (upd H1 q (.dK (penKvs c p2))) := ⟨fun y o hy _ ey => by rw [upd_ne (fun z => hy (.inl (by rw [z]; exact eq)))]; exact ey, fun y ey => by
              by_cases z : y = q
              · rw [z, upd_same]; exact fun z => by cases z
              · rw [upd_ne z]; exact ey, rfl, fun _ _ z => z, fun _ z => .inl z, fun _ z => z, fun _ z => .inl z⟩
            have w2 : WOk G W1 p2 (upd H1 q (.dK (penKvs c p2))) := ⟨R1.ok.tb.upd (noTb_dK h5), fun y s => t2.tk y (R1.ok.trk y s), fun q' hq' => by
              rw [eq] at hq'
              cases hq'
              exact ⟨n1, PenSt.ok_of hok, c, h3, by rw [upd_ne ncq, hc]; exact h4, upd_same⟩, by rw [hrw]; exact R1.ok.rw.len, R1.ok.rw.nd, fun k a ek => by
              obtain ⟨g1, g2, ns, g3, g4⟩ := R1.ok.rw.at_ k a ek
              exact ⟨g1, g2, ns, by rw [hrw]; exact g3, by rw [upd_ne (fun z => g2 (by rw [z]; exact eq))]; exact g4⟩⟩
            exact kk W1 σ _ ((t1.then t2).mono fun a z => .inl z) (R1.step t2 w2) fun a z => .inl z
          · cases hf
        · cases hf
      · cases hf
    · cases hf
end
/-! ### a new pen -/
def foldOf (ns : List Int) : Int := ns.foldl (fun f c => (f * 47 + c) % 1000000007) 0
def pen0 (ns : List Int) : PenSt := ⟨ns, 0, 0, 0, foldOf ns, []⟩
def spPen (K : PySem.W.Frag) : Sp := fun vs H Q _ => ∃ (a : Addr) (ns : List Int), vs = [.ref a] ∧ SqL K H a (ns.map V.int) ∧ ns.length ≤ 63 ∧
  ∀ q c H', H q = none → H c = none → q ≠ c → (∀ T, LamX.Tabs T H → LamX.Tabs T H') → H' c = some (.lst (ns.map V.int)) → H' q = some (.dK (penKvs c (pen0 ns))) → Q (.ref q) H'
theorem foldOf_ok (ns : List Int) : 0 ≤ foldOf ns ∧ foldOf ns < 2147483648 := by
  unfold foldOf
  have : ∀ (l : List Int) (f : Int), 0 ≤ f ∧ f < 1000000007 → 0 ≤ l.foldl (fun f c => (f * 47 + c) % 1000000007) f ∧ l.foldl (fun f c => (f * 47 + c) % 1000000007) f < 1000000007 := by
    intro l
    induction l with
    | nil => intro f h; exact h
    | cons c l ih =>
      intro f h
      exact ih _ ⟨Int.emod_nonneg _ (by decide), Int.emod_lt_of_pos _ (by decide)⟩
  have := this ns 0 (by decide)
  omega
theorem pen0_ok {ns : List Int} (h : ns.length ≤ 63) : (pen0 ns).Ok := ⟨Nat.zero_le _, h, Int.le_refl 0, (foldOf_ok ns).1, (foldOf_ok ns).2⟩
end Cr
namespace L2
theorem Room.un0 {k : Nat} {A : PySem.Around} (r : Room k A) : A.units < PySem.cLine := by have := r.un; omega
theorem Room.un1 {k : Nat} {A : PySem.Around} (r : Room k A) : A.units + 1 < PySem.cLine := by have := r.un; omega
theorem Room.un65 {k : Nat} {A : PySem.Around} (r : Room k A) : A.units + 65 < PySem.cLine := by have := r.un; omega
end L2
namespace Cr
open PySem L2
section
variable {X : Cx} {G : Gm} {W : Wd} {H : Hp} {env : Env} {σ : St} {p : PenSt} {r : D} {Q : VK} {e a b c : Expr} {f fa fb fc : FV D} {pos : Pos}
/-- < of ints, of tuples of ints -/
def gLt (x y : D) : Option D := match x, y with
  | .int i, .int j => some (.bl (decide (i < j)))
  | .tup ds, .tup es => (match intsD ds, intsD es with
    | some ns, some ms => some (.bl (HT.lexLt ns ms))
    | _, _ => none)
  | _, _ => none
def rLtA (K : PySem.W.Frag) : R2 := fun x y H Q => (rI0 fun i j => .bl (decide (i < j))) x y H Q ∨ rLtT K x y H Q
theorem op_ltA (hu : X.A.units < cLine) : OpR X (compareOp .Lt) (rLtA X.K) := op_lt.or (op_ltT hu)
theorem is_lt {K : PySem.W.Frag} : Is2 G (rLtA K) gLt := .scal fun W env p σ H x y d e r Q hR hx hy hg q => by
  unfold gLt at hg
  split at hg
  · cases hg
    rw [hx.int, hy.int]
    exact .inl ⟨_, _, rfl, rfl, q _ (.bl _)⟩
  · split at hg
    · rename_i ds es ns ms h1 h2
      cases hg
      rw [intsD_some h1] at hx
      rw [intsD_some h2] at hy
      obtain ⟨a, xs, rfl, ea, r1, _⟩ := hx.tup
      obtain ⟨b, ys, rfl, eb, r2, _⟩ := hy.tup
      have e1 := Reps.ints r1
      have e2 := Reps.ints r2
      subst e1 e2
      exact .inr ⟨a, b, ns, ms, rfl, rfl, SqT.of ea, SqT.of eb, q _ (.bl _)⟩
    · cases hg
  · cases hg
def gInS (x y : D) : Option D := match y with | .dct _ => none | _ => gIn false x y
def gNotInS (x y : D) : Option D := match y with | .dct _ => none | _ => gIn true x y
theorem is_inS {K : PySem.W.Frag} : Is2 G (rInA K) gInS := is_in
theorem is_notInS {K : PySem.W.Frag} : Is2 G (rNotInA K) gNotInS := is_notIn
/-- a test that is a value of truth -/
def tBl (f : FV D) : FV Bool := fBl f
end
/-! ### classes by name -/
def gmOf (l : List (String × Addr)) (tb : List (Addr × Str)) : Gm := ⟨fun c => l.lookup c, tb⟩
theorem gm_all {P : String → Addr → Prop} {tb : List (Addr × Str)} : ∀ {l : List (String × Addr)}, (∀ q ∈ l, P q.1 q.2) → ∀ c C, gmOf l tb c = some C → P c C
  | [], _, c, C, h => by cases h
  | (d, A) :: l, k, c, C, h => by
    have h : List.lookup c ((d, A) :: l) = some C := h
    rw [List.lookup_cons] at h
    cases hb : c == d with
    | true =>
      rw [hb] at h
      cases h
      have e : c = d := by simpa using hb
      subst e
      exact k _ List.mem_cons_self
    | false =>
      rw [hb] at h
      exact gm_all (tb := tb) (l := l) (fun q hq => k q (List.mem_cons_of_mem _ hq)) c C h
theorem all_nil {P : String × Addr → Prop} : ∀ q ∈ ([] : List (String × Addr)), P q := fun q h => by cases h
theorem all_cons {P : String × Addr → Prop} {a : String × Addr} {l : List (String × Addr)} (h : P a) (k : ∀ q ∈ l, P q) : ∀ q ∈ a :: l, P q := fun q m => (List.mem_cons.mp m).elim (fun z => z ▸ h) (k q)
theorem gm_all2 {P : String → Addr → String → Addr → Prop} {l : List (String × Addr)} {tb : List (Addr × Str)} (k : ∀ q ∈ l, ∀ q' ∈ l, P q.1 q.2 q'.1 q'.2) : ∀ c C c' C', gmOf l tb c = some C → gmOf l tb c' = some C' → P c C c' C' :=
  fun c C c' C' h h' => gm_all (P := fun c C => ∀ c' C', gmOf l tb c' = some C' → P c C c' C') (fun q hq => gm_all (P := fun c' C' => P q.1 q.2 c' C') (k q hq)) c C h c' C' h'
/-! ### the law's end -/
theorem loose_int {lv : List (Str × PySem.W.WData)} {mg : Str → Option Value} {h : Heap} (L : PySem.W.LooseAre lv mg h) {x : Str} {i : Int} (m : (x, PySem.W.WData.int i) ∈ lv) : ∃ u, mg x = some u ∧ RelV (.int i) u := by
  obtain ⟨v, h1, h2⟩ := L.val _ m
  cases h2
  exact ⟨_, h1, _, rfl⟩
def spLaw (K : PySem.W.Frag) (T : List (Addr × Str)) : Sp := fun vs H Q _ => ∃ (a : Addr) (ns : List Int), vs = [.ref a] ∧ LamX.Tabs T H ∧ SqL K H a (ns.map V.int) ∧ ns.length ≤ 63 ∧ (∀ z ∈ ns, Builtin.Int.intBits z ≤ 1048576) ∧ ∀ H', Q (.bl true) H'
end Cr
/-! ## the text's defs and classes as they stand behind the top -/
namespace Cr
open PySem L2
variable {P : Program} {w : World} {K : PySem.W.Frag} {mg : Str → Option Value} {base : Heap} {G : Gm} {k n : Nat} {x qual : Str} {st : Stmt} {ps : List Str} {m : MF} {mi : MI} {c : String} {nm : Str}
structure DefF (K : PySem.W.Frag) (mg : Str → Option Value) (x : Str) (st : Stmt) (ps : List Str) : Prop where
  ex : ∃ f fd, Fun K x x st f fd ∧ mg x = some (.ref f) ∧ Binds K fd ps []
theorem cal_of (d : DefF K mg x st ps) (hn : ps.length = n) (ok : ∀ f fd, Fun K x x st f fd → FnOk P w K mg base CX0 k f fd ps (spM G n m)) : Cal P w K mg base G k x n m := by
  obtain ⟨f, fd, F, h1, h2⟩ := d.ex
  exact ⟨f, fd, ps, ok f fd F, hn, h1, F.kp, h2⟩
/-- a def that calls itself -/
theorem cal_rec {B : Nat} {m : Nat → MF} (d : DefF K mg x st ps) (hn : ps.length = n) (h0 : m 0 = fun _ _ => none) (ok : ∀ i f fd, Fun K x x st f fd → Cal P w K mg base G (B + i) x n (m i) → FnOk P w K mg base CX0 (B + i + 1) f fd ps (spM G n (m (i + 1)))) : ∀ i, Cal P w K mg base G (B + i) x n (m i)
  | 0 => cal_of d hn fun f fd F => by rw [h0]; exact fn_none
  | i + 1 => cal_of d hn fun f fd F => ok i f fd F (cal_rec d hn h0 ok i)
structure MethF (K : PySem.W.Frag) (G : Gm) (c : String) (nm qual : Str) (st : Stmt) (ps : List Str) : Prop where
  ex : ∃ C f fd, G c = some C ∧ PySem.W.findIn K (.ref C) nm = some (some (.ref f)) ∧ PySem.W.isFn K (.ref f) = true ∧ Fun K nm qual st f fd ∧ Binds K fd ps []
structure ClsX (K : PySem.W.Frag) (mg : Str → Option Value) (G : Gm) (c : String) (x : Str) : Prop where
  at_ : ∀ C, G c = some C → PySem.W.makesIn K C = true ∧ PySem.W.keepIn K (.ref C) = true ∧ mg x = some (.ref C) ∧ PySem.W.subIn K (.type "tuple") (.ref C) = some false ∧ ∀ c' C', G c' = some C' → PySem.W.notFirst K C (.ref C') = true
theorem mak_of (d : MethF K G c "__init__" qual st ps) (X : ClsX K mg G c x) (ok : ∀ f fd, Fun K "__init__" qual st f fd → FnOk P w K mg base CX0 k f fd ps (spI G c n mi)) : Mak P w K mg base G k x c n mi := by
  obtain ⟨C, f, fd, h1, h2, h3, F, h4⟩ := d.ex
  obtain ⟨x1, x2, x3, _⟩ := X.at_ C h1
  exact ⟨C, f, fd, ps, ⟨x1, h2, h3, x2⟩, h1, ok f fd F, x3, h4⟩
theorem opr_of (d : MethF K G c nm qual st ps) (X : ClsX K mg G c x) (ok : ∀ f fd, Fun K nm qual st f fd → FnOk P w K mg base CX0 k f fd ps (spM G 2 m)) : Opr P w K mg base G k c nm m := by
  obtain ⟨C, f, fd, h1, h2, h3, F, h4⟩ := d.ex
  obtain ⟨_, _, _, x4, x5⟩ := X.at_ C h1
  exact ⟨C, f, fd, ps, h1, ok f fd F, h2, h3, h4, x4, x5⟩
/-- one own class: what is asked of it -/
structure ClsA (K : PySem.W.Frag) (C : Addr) (fs : List Str) : Prop where
  cl : Cls K C
  ha : PySem.W.findIn K (.ref C) "__class__" = some (some (.builtin "object.__class__"))
  hm : PySem.W.mroIn K C (.type "object") = some true
  kb : ∀ T ∈ ["int", "bool", "tuple", "list", "str", "dict"], PySem.W.kitOne K (.ref C) (.type T) = some false
  bk : ∀ T ∈ ["NoneType", "int", "bool", "tuple", "list", "str", "dict"], PySem.W.kitOne K (.type T) (.ref C) = some false
  na : ∀ f ∈ fs, NoAttr K C f
theorem clsF_of {l : List (String × Addr)} {tb : List (Addr × Str)} {fs : List Str} (h : ∀ q ∈ l, ClsA K q.2 fs) (hn : PySem.W.specialIn K (.builtin "object.__class__") "__get__" = some (some (.builtin "getset_descriptor.__get__"))) (ht : PySem.W.takesIn K (.builtin "object.__class__") = some true)
    (kk : ∀ q ∈ l, ∀ q' ∈ l, PySem.W.kitOne K (.ref q.2) (.ref q'.2) = some (decide (q.1 = q'.1))) : ClsF K (gmOf l tb) where
  cl := gm_all fun q hq => (h q hq).cl
  ha := gm_all fun q hq => (h q hq).ha
  hn := hn
  ht := ht
  hm := gm_all fun q hq => (h q hq).hm
  kk := gm_all2 (P := fun c C c' C' => PySem.W.kitOne K (.ref C) (.ref C') = some (decide (c = c'))) kk
  kb := fun c C T hc hT => gm_all (P := fun c C => ∀ T ∈ ["int", "bool", "tuple", "list", "str", "dict"], PySem.W.kitOne K (.ref C) (.type T) = some false) (fun q hq => (h q hq).kb) c C hc T hT
  bk := fun c C T hc hT => gm_all (P := fun c C => ∀ T ∈ ["NoneType", "int", "bool", "tuple", "list", "str", "dict"], PySem.W.kitOne K (.type T) (.ref C) = some false) (fun q hq => (h q hq).bk) c C hc T hT
theorem na_of {l : List (String × Addr)} {tb : List (Addr × Str)} {fs : List Str} {f : Str} (h : ∀ q ∈ l, ClsA K q.2 fs) (hf : f ∈ fs) : ∀ c C, gmOf l tb c = some C → NoAttr K C f := gm_all fun q hq => (h q hq).na f hf
theorem mem6 {Q : String → Prop} (h1 : Q "int") (h2 : Q "bool") (h3 : Q "tuple") (h4 : Q "list") (h5 : Q "str") (h6 : Q "dict") : ∀ T ∈ ["int", "bool", "tuple", "list", "str", "dict"], Q T := fun T h => by
  simp only [List.mem_cons, List.not_mem_nil, or_false] at h
  rcases h with h | h | h | h | h | h <;> (rw [h]; assumption)
theorem mem7 {Q : String → Prop} (h0 : Q "NoneType") (h1 : Q "int") (h2 : Q "bool") (h3 : Q "tuple") (h4 : Q "list") (h5 : Q "str") (h6 : Q "dict") : ∀ T ∈ ["NoneType", "int", "bool", "tuple", "list", "str", "dict"], Q T := fun T h => by
  simp only [List.mem_cons, List.not_mem_nil, or_false] at h
  rcases h with h | h | h | h | h | h | h <;> (rw [h]; assumption)
/-! ### the start of the law -/
theorem law_R {q cc : Addr} {p : PenSt} {H : Hp} {v0 : Option V} {rest : List (Option V)} {m : Nat} (ht : LamX.Tabs G.tb H) (hp : p.Ok) (hpr : p.rows = []) (nq : q ≠ cc) (hc : H cc = some (.lst (p.cells.map V.int))) (hq : H q = some (.dK (penKvs cc p))) (hl : rest.length = m) :
    R G ⟨some q, fun a => a = cc, []⟩ (.no :: .sh .pen :: List.replicate m Slot.no) p (v0 :: some (.ref q) :: rest) H := by
  have at_ : ∀ {i : Nat} {s : Slot}, (Slot.no :: .sh .pen :: List.replicate m Slot.no)[i]? = some s → s ≠ .no → i = 1 ∧ s = .sh .pen := fun {i s} e n => by
    match i with
    | 0 =>
      simp at e
      exact absurd e.symm n
    | 1 =>
      simp at e
      exact ⟨rfl, e.symm⟩
    | i + 2 =>
      simp only [List.getElem?_cons_succ, List.getElem?_replicate] at e
      split at e
      · cases e
        exact absurd rfl n
      · cases e
  have no : ∀ {i : Nat} {s : Slot}, (Slot.no :: .sh .pen :: List.replicate m Slot.no)[i]? = some s → s.isOwn = true → False := fun {i s} e ho => by
    obtain ⟨_, e2⟩ := at_ e (by rintro rfl; cases ho)
    subst e2
    cases ho
  refine ⟨by simp [hl], ⟨⟨ht, fun a ⟨x, hx⟩ => ?_⟩, fun a e => ?_, fun q' e => ?_, by rw [hpr]; rfl, .nil, fun k a ek => by cases ek⟩, fun i s e n => ?_, fun a ⟨i, s, e, ho, _⟩ => (no e ho).elim, fun i j s t a e ho _ _ _ _ => (no e ho).elim⟩
  · obtain ⟨ps, e, _⟩ := ht _ hx
    have e : H a = some (.tbl ps) := e
    refine ⟨fun z => ?_, fun z => ?_, fun z => by cases z⟩
    · have z : a = cc := z
      rw [z, hc] at e
      cases e
    · have z : q = a := Option.some.inj z
      rw [← z, hq] at e
      cases e
  · have e : a = cc := e
    rw [e, hc]
    exact fun z => by cases z
  · have e : some q = some q' := e
    cases e
    exact ⟨fun z => nq z, hp, cc, rfl, hc, hq⟩
  · obtain ⟨rfl, rfl⟩ := at_ e n
    exact ⟨.ref q, rfl, .pen rfl⟩
end Cr
/-! ## rows that are changed in place -/
namespace Cr
open PySem L2
def Wd.addRow (W : Wd) (q : Addr) : Wd := ⟨W.pen, W.S, W.rows ++ [q]⟩
section
variable {X : Cx} {G : Gm} {W W1 : Wd} {H H1 : Hp} {env env1 : Env} {σ σ1 : St} {p p1 : PenSt} {r : D} {Q : VK} {e a b c o : Expr} {f fa fb fc fe fk fo : FV D} {pos pos' : Pos} {st : Stmt} {g : FS} {Dn : Ends}
theorem addRow_get {q : Addr} {k : Nat} {a : Addr} (h : W.rows[k]? = some a) : (W.addRow q).rows[k]? = some a := by
  show (W.rows ++ [q])[k]? = some a
  rw [List.getElem?_append_left (List.getElem?_eq_some_iff.mp h).1]
  exact h
theorem Rep.addRow {q : Addr} {v : V} {d : D} (h : Rep G W1 H1 v d) : Rep G (W1.addRow q) H1 v d := h.mono (W := W1) (W' := W1.addRow q) rfl (fun _ _ e => addRow_get e) (fun _ s => s) (fun _ _ _ _ e => e) (fun _ _ e => e)
theorem Reps.addRow {q : Addr} {v : List V} {d : List D} (h : Reps G W1 H1 v d) : Reps G (W1.addRow q) H1 v d := h.mono (W := W1) (W' := W1.addRow q) rfl (fun _ _ e => addRow_get e) (fun _ s => s) (fun _ _ _ _ e => e) (fun _ _ e => e)
theorem addRow_at {q : Addr} {k : Nat} {a : Addr} (h : (W.addRow q).rows[k]? = some a) : W.rows[k]? = some a ∨ (k = W.rows.length ∧ a = q) := by
  have h : (W.rows ++ [q])[k]? = some a := h
  by_cases hk : k < W.rows.length
  · rw [List.getElem?_append_left hk] at h
    exact .inl h
  · rw [List.getElem?_append_right (by omega)] at h
    have : k - W.rows.length = 0 := by
      have := (List.getElem?_eq_some_iff.mp h).1
      simp at this
      omega
    rw [this] at h
    simp at h
    exact .inr ⟨by omega, h.symm⟩
/-- a new list of ints becomes a row -/
theorem R.toRow (r : R G W1 env p σ H1) {q : Addr} {ns : List Int} (h1 : ¬ penA G W1 q) (h2 : H1 q = some (.lst (ns.map V.int))) (h3 : ¬ Own env σ q) (h4 : ¬ W1.S q) : R G (W1.addRow q) env { p with rows := p.rows ++ [ns] } σ H1 := by
  refine ⟨r.len, ⟨⟨r.ok.tb.1, fun a ta => ⟨(r.ok.tb.2 a ta).1, (r.ok.tb.2 a ta).2.1, fun z => ?_⟩⟩, r.ok.trk, fun b e => ?_, ?_, ?_, fun k a e => ?_⟩, fun i s e n => ?_, fun a h => ⟨(r.own a h).1, fun z => ?_⟩, r.dis⟩
  · have z : a ∈ W1.rows ++ [q] := z
    rcases List.mem_append.mp z with z | z
    · exact (r.ok.tb.2 a ta).2.2 z
    · rw [List.mem_singleton] at z
      exact h1 (.inr (.inr (z ▸ ta)))
  · obtain ⟨g1, g2, c, g3, g4, g5⟩ := r.ok.pen b e
    exact ⟨g1, ⟨g2.1, g2.2, g2.3, g2.4, g2.5⟩, c, g3, g4, g5⟩
  · show (W1.rows ++ [q]).length = (p.rows ++ [ns]).length
    rw [List.length_append, List.length_append, r.ok.rw.len]
    rfl
  · show (W1.rows ++ [q]).Nodup
    rw [List.nodup_append]
    refine ⟨r.ok.rw.nd, by simp, fun a ha b hb => ?_⟩
    rw [List.mem_singleton] at hb
    rintro rfl
    exact h1 (.inr (.inl (hb ▸ ha)))
  · rcases addRow_at e with e | ⟨rfl, rfl⟩
    · obtain ⟨g1, g2, ms, g3, g4⟩ := r.ok.rw.at_ k a e
      exact ⟨g1, g2, ms, by show (p.rows ++ [ns])[k]? = _; rw [List.getElem?_append_left (List.getElem?_eq_some_iff.mp g3).1]; exact g3, g4⟩
    · exact ⟨h4, fun z => h1 (.inl z), ns, by show (p.rows ++ [ns])[_]? = _; rw [r.ok.rw.len, List.getElem?_append_right (Nat.le_refl _), Nat.sub_self]; rfl, h2⟩
  · obtain ⟨v, e2, q2⟩ := r.slot i s e n
    refine ⟨v, e2, ?_⟩
    cases s with
    | no => exact True.intro
    | sh d => exact Rep.addRow q2
    | ow d => obtain ⟨a, xs, h1, h2, h3⟩ := q2; exact ⟨a, xs, h1, h2, Reps.addRow h3⟩
    | od d => obtain ⟨a, xs, h1, h2, h4, h3⟩ := q2; exact ⟨a, xs, h1, h2, h4, Reps.addRow h3⟩
    | oo x0 c d => obtain ⟨a, C, dx, xs, h1, h2, h4, h5, h3⟩ := q2; exact ⟨a, C, dx, xs, h1, h2, h4, h5, Reps.addRow h3⟩
  · rcases z with z | z | z
    · exact (r.own a h).2 (.inl z)
    · have z : a ∈ W1.rows ++ [q] := z
      rcases List.mem_append.mp z with z | z
      · exact (r.own a h).2 (.inr (.inl z))
      · rw [List.mem_singleton] at z
        exact h3 (z ▸ h)
    · exact (r.own a h).2 (.inr (.inr z))
def fRow (f : FV D) : FV D := fun env p => match f env p with
  | some (.lst ds, p) => (match intsD ds with
    | some ns => some (.row p.rows.length, { p with rows := p.rows ++ [ns] })
    | none => none)
  | _ => none
theorem e_row (h : PE X e (tN G f)) : PE X e (tE G (fRow f)) := peI h fun σ H Q ⟨W, env, p, r, p', hR, hf, k⟩ => by
  unfold fRow at hf
  split at hf
  · rename_i ds p1 q
    split at hf
    · rename_i ns hns
      cases hf
      refine ⟨W, env, p, _, p1, hR, q, fun W1 H1 v t R1 ⟨so, fr⟩ => ?_⟩
      obtain ⟨x, e, h0, h1, h2⟩ := fr rfl
      obtain ⟨x', xs, e', hx, rx⟩ := so
      subst e
      cases e'
      rw [intsD_some hns] at rx
      rw [rx.ints] at hx
      have no : ¬ Own env σ x := fun o => by
        obtain ⟨o', e, _⟩ := hR.own_obj o
        rw [h0] at e
        cases e
      have t2 : Tr (penA G W) W H (W1.addRow x) H1 := ⟨t.kp, t.tk, t.pe, fun k a e => addRow_get (t.re k a e), fun a e => by
        have e : a ∈ W1.rows ++ [x] := e
        rcases List.mem_append.mp e with e | e
        · exact t.rn a e
        · rw [List.mem_singleton] at e
          exact .inr (e ▸ h0), t.sub, t.nw⟩
      exact k _ H1 _ t2 (R1.toRow h2 hx no h1) (.row (by show (W1.rows ++ [x])[_]? = _; rw [← R1.ok.rw.len, List.getElem?_append_right (Nat.le_refl _), Nat.sub_self]; rfl))
    · cases hf
  · cases hf
/-! ### reads -/
def rowD (p : PenSt) : D → Option D
  | .row k => (p.rows[k]?).map fun ns => .lst (ns.map D.int)
  | d => some d
/-- a row as the list that it is -/
theorem rowAt (hR : R G W env p σ H) {v : V} {k : Nat} (h : RepB G W env σ H v (.row k)) : ∃ x ns, v = .ref x ∧ W.rows[k]? = some x ∧ p.rows[k]? = some ns ∧ H x = some (.lst (ns.map V.int)) := by
  rcases h with h | ⟨_, _, _, _, z, _⟩ | ⟨_, _, _, _, z, _⟩
  · cases h with
    | row e =>
      obtain ⟨_, _, ns, h1, h2⟩ := hR.ok.rw.at_ k _ e
      exact ⟨_, ns, rfl, e, h1, h2⟩
  · cases z
  · cases z
def fIxR (fa fb : FV D) : FV D := fun env p => do
  let (x, p) ← fa env p
  let (y, p) ← fb env p
  let x ← rowD p x
  let r ← gIx x y
  pure (r, p)
theorem e_ixR (ha : PE X a (tE G fa)) (hb : PE X b (tB G fb)) (hs : PlainIx b) : PE X (.Subscript a b pos) (tE G (fIxR fa fb)) :=
  peI (pe_ix ix_seq ha hb hs) fun σ H Q ⟨W, env, p, r, p', hR, hf, k⟩ => by
    unfold fIxR at hf
    cases h1 : fa env p with
    | none => rw [h1] at hf; cases hf
    | some z =>
      obtain ⟨x, p1⟩ := z
      rw [h1] at hf
      simp only [Option.bind_eq_bind, Option.bind_some] at hf
      cases h2 : fb env p1 with
      | none => rw [h2] at hf; cases hf
      | some z =>
        obtain ⟨y, p2⟩ := z
        rw [h2] at hf
        simp only [Option.bind_some] at hf
        cases h3 : rowD p2 x with
        | none => rw [h3] at hf; cases hf
        | some x' =>
          rw [h3] at hf
          simp only [Option.bind_some] at hf
          cases h4 : gIx x' y with
          | none => rw [h4] at hf; cases hf
          | some z =>
            rw [h4] at hf
            cases hf
            refine ⟨W, env, p, x, p1, hR, h1, fun W1 H1 v t1 R1 q1 => ⟨W1, env, p1, y, p', R1, h2, fun W2 H2 u t2 R2 q2 => ?_⟩⟩
            have q1' := q1.te t2 R1.ok
            have fin : (∀ k, x ≠ .row k) → rIx X.K v u H2 Q := fun n => by
              have : x' = x := by
                unfold rowD at h3
                split at h3
                · rename_i k; exact absurd rfl (n k)
                · exact (Option.some.inj h3).symm
              subst this
              exact is_ix W2 env p' σ H2 v u _ _ _ Q R2 (.inl q1') q2 h4 fun W3 H3 w t3 R3 q3 => k W3 H3 w ((t1.then t2).then t3) R3 q3
            cases x with
            | row kk =>
              obtain ⟨xa, ns, rfl, e1, e2, e3⟩ := rowAt R2 (.inl q1')
              have h3 : (p'.rows[kk]?).map (fun ns => D.lst (ns.map D.int)) = some x' := h3
              rw [e2] at h3
              cases h3
              cases y <;> first | (cases h4; done) | skip
              obtain ⟨w, hw, rw'⟩ := (Reps.ofInts (G := G) (W := W2) (H := H2) ns).atI h4
              exact .inl ⟨xa, _, _, w, rfl, q2.int, SqL.of e3, hw, k W2 H2 w (t1.then t2) R2 rw'⟩
            | _ => exact fin fun k z => by cases z
def fTupR (fa : FV D) : FV D := fun env p => do
  let (x, p) ← fa env p
  let x ← rowD p x
  let r ← gTuple x
  pure (r, p)
theorem n_tupR {p0 : Pos} (hg : Gl X "tuple") (hm : X.mg "tuple" = none) (hv : bootBuiltins "tuple" = some (.type "tuple")) (ha : PE X a (tB G fa))
    (hs : starEach [a] X.env = (false, eval a X.env) :: starEach [] X.env := by rfl) : PE X (.Call (.Name "tuple" p0) [a] [] pos) (tN G (fTupR fa)) :=
  peI (pe_callTy call_tuple_of hg hm hv (pa_cons ha pa_nil hs) (by decide) (by decide) hs rfl) fun σ H Q ⟨W, env, p, r, p', hR, hf, k⟩ => by
    unfold fTupR at hf
    cases h1 : fa env p with
    | none => rw [h1] at hf; cases hf
    | some z =>
      obtain ⟨x, p1⟩ := z
      rw [h1] at hf
      simp only [Option.bind_eq_bind, Option.bind_some] at hf
      cases h3 : rowD p1 x with
      | none => rw [h3] at hf; cases hf
      | some x' =>
        rw [h3] at hf
        simp only [Option.bind_some] at hf
        cases h4 : gTuple x' with
        | none => rw [h4] at hf; cases hf
        | some z =>
          rw [h4] at hf
          cases hf
          refine ⟨W, env, p, x, p', hR, h1, fun W1 H1 v t1 R1 q1 => ?_⟩
          have k1 : PostV G W1 env σ H1 p' (NewP G H1 r) Q := fun W3 H3 w t3 R3 ⟨s3, f3⟩ => k W3 H3 w (t1.then t3) R3 ⟨s3, fun z => by
            obtain ⟨x, e, h0, h12⟩ := f3 z
            exact ⟨x, e, Classical.byContradiction fun n => t1.tk x n h0, h12⟩⟩
          have fin : (∀ k, x ≠ .row k) → _ := fun n => by
            have : x' = x := by
              unfold rowD at h3
              split at h3
              · rename_i k; exact absurd rfl (n k)
              · exact (Option.some.inj h3).symm
            subst this
            exact is_tuple (K := X.K) W1 env p' σ H1 v _ _ Q R1 q1 h4 k1
          cases x with
          | row kk =>
            obtain ⟨xa, ns, rfl, e1, e2, e3⟩ := rowAt R1 q1
            have h3 : (p'.rows[kk]?).map (fun ns => D.lst (ns.map D.int)) = some x' := h3
            rw [e2] at h3
            cases h3
            cases h4
            exact ⟨_, _, rfl, .inl ⟨SqL.of e3, fun l hl => k1.newT R1 hl rfl (Reps.ofInts ns)⟩⟩
          | _ => exact fin fun k z => by cases z
/-! ### stores -/
theorem row_core {k : Nat} {x : Addr} {ns : List Int} {j : Nat} {kk vv : Int} {K : Hp → Prop} (hR : R G W env p σ H) (hk : W.rows[k]? = some x) (hn : p.rows[k]? = some ns) (hj : ixN ns.length kk = some j)
    (h : ∀ H', R G W env { p with rows := p.rows.set k (ns.set j vv) } σ H' → Tr (penA G W) W H W H' → K H') : rSetL (.ref x) (.int kk) (.int vv) H K := by
  obtain ⟨nS, nP, ms, e1, e2⟩ := hR.ok.rw.at_ k x hk
  rw [hn] at e1
  cases e1
  have mx : x ∈ W.rows := List.mem_of_getElem? hk
  have t : Tr (penA G W) W H W (upd H x (.lst ((ns.set j vv).map V.int))) := ⟨fun y o hy _ ey => by rw [upd_ne (fun z : y = x => hy (.inr (.inl (z.symm ▸ mx))))]; exact ey, fun y ey => by
    by_cases z : y = x
    · rw [z, upd_same]; exact fun z => by cases z
    · rw [upd_ne z]; exact ey, rfl, fun _ _ z => z, fun _ z => .inl z, fun _ z => z, fun _ z => .inl z⟩
  refine ⟨x, ns.map V.int, kk, j, rfl, rfl, e2, by rw [List.length_map]; exact hj, ?_⟩
  rw [← List.map_set]
  refine h _ (hR.step t ⟨hR.ok.tb.upd (noTb_lst e2), fun y s => t.tk y (hR.ok.trk y s), fun q hq => ?_, ?_, hR.ok.rw.nd, fun k' a' e' => ?_⟩) t
  · obtain ⟨g1, g2, c, g3, g4, g5⟩ := hR.ok.pen q hq
    refine ⟨g1, ⟨g2.1, g2.2, g2.3, g2.4, g2.5⟩, c, g3, by rw [upd_ne (fun z : c = x => nS (z ▸ g3))]; exact g4, ?_⟩
    rw [upd_ne (fun z : q = x => nP (z ▸ hq))]
    exact g5
  · show W.rows.length = (p.rows.set k _).length
    rw [List.length_set]
    exact hR.ok.rw.len
  · obtain ⟨g1, g2, ms, g3, g4⟩ := hR.ok.rw.at_ k' a' e'
    refine ⟨g1, g2, ?_⟩
    by_cases hkk : k = k'
    · subst hkk
      rw [hk] at e'
      cases e'
      exact ⟨ns.set j vv, List.getElem?_set_self (List.getElem?_eq_some_iff.mp hn).1, upd_same⟩
    · refine ⟨ms, by show (p.rows.set k _)[k']? = _; rw [List.getElem?_set_ne hkk]; exact g3, ?_⟩
      rw [upd_ne]
      · exact g4
      · rintro rfl
        have l1 := (List.getElem?_eq_some_iff.mp hk).1
        have l2 := (List.getElem?_eq_some_iff.mp e').1
        have q := hR.ok.rw.nd
        have h1 := (List.getElem?_eq_some_iff.mp hk).2
        have h2 := (List.getElem?_eq_some_iff.mp e').2
        rcases Nat.lt_or_gt_of_ne hkk with hl | hl
        · exact List.pairwise_iff_getElem.mp q _ _ l1 l2 hl (h1.trans h2.symm)
        · exact List.pairwise_iff_getElem.mp q _ _ l2 l1 hl (h2.trans h1.symm)
/-- the row that is stored to, and the place -/
def stRow (fo fk : FV D) (d : D) : Env → PenSt → Option PenSt := fun env p => match fo env p with
  | some (.row k, p) => (match fk env p with
    | some (.int kk, p) => (match d with
      | .int vv => (match p.rows[k]? with
        | some ns => (ixN ns.length kk).map fun j => { p with rows := p.rows.set k (ns.set j vv) }
        | none => none)
      | _ => none)
    | _ => none)
  | _ => none
theorem stRow_core {d : D} {p' : PenSt} {v : V} {K : St → Hp → Prop} (hR : R G W env p σ H) (rv : Rep G W H v d) (hf : stRow fo fk d env p = some p') (k : ∀ W' H', Tr (penA G W) W H W' H' → R G W' env p' σ H' → K σ H') :
    L2.gSub (tE G fo) (tE G fk) rSetL v σ H K := by
  unfold stRow at hf
  split at hf
  · rename_i kr p1 q
    split at hf
    · rename_i kk p2 q2
      split at hf
      · rename_i vv
        split at hf
        · rename_i ns hn
          cases hj : ixN ns.length kk with
          | none => rw [hj] at hf; cases hf
          | some j =>
            rw [hj] at hf
            cases hf
            cases rv
            refine ⟨W, env, p, _, p1, hR, q, fun W1 H1 v1 t1 R1 q1 => ⟨W1, env, p1, _, p2, R1, q2, fun W2 H2 v2 t2 R2 q3 => ?_⟩⟩
            cases q3
            cases q1.te t2 R1.ok with
            | row e => exact row_core R2 e hn hj fun H3 R3 t3 => k W2 H3 ((t1.then t2).then t3) R3
        · cases hf
      · cases hf
    · cases hf
  · cases hf
def sRow (fo fk fv : FV D) : FS := fun env p => match fv env p with
  | some (d, p) => (stRow fo fk d env p).map fun p => .nx env p
  | none => none
theorem s_row (ho : PE X o (tE G fo)) (hk : PE X b (tE G fk)) (hv : PE X a (tE G fe)) (hs : swapsWithSole [.Subscript o b pos'] a pos.line X.env = pure false := by rfl) (hw : swappedStores [.Subscript o b pos'] a X.env = pure none := by rfl)
    (h1 : (assignEach [.Subscript o b pos'] X.env).map (·.2) = [assign (.Subscript o b pos') X.env] := by rfl) (hsub : ∀ v, assign (.Subscript o b pos') X.env v = (do
      let ov ← holding [v] (eval o X.env)
      let iv ← holding [v, ov] (eval b X.env)
      standAt pos'
      holding [v, ov, iv] (setItem ov iv v)
      release [v, ov, iv] []) := by intro _; rfl) : PS X (.Assign [.Subscript o b pos'] a pos) (tS G (sRow fo fk fe)) :=
  psI (ps_asg hv (pg_sub ho hk set_list hsub) hs hw h1) fun Dn σ H ⟨W, env, p, o, hR, hf, k⟩ => by
    unfold sRow at hf
    split at hf
    · rename_i d p1 q
      cases h2 : stRow fo fk d env p1 with
      | none => rw [h2] at hf; cases hf
      | some p2 =>
        rw [h2] at hf
        cases hf
        exact ⟨W, env, p, d, p1, hR, q, fun W1 H1 v t1 R1 rv => stRow_core R1 rv h2 fun W2 H2 t2 R2 => k W2 σ H2 ((t1.then t2).mono fun a z => .inl z) R2 fun a z => .inl z⟩
    · cases hf
def sRow2 (fo fk fo2 fk2 fv fw : FV D) : FS := fun env p => match fv env p with
  | some (d, p) => (match fw env p with
    | some (d2, p) => (match stRow fo fk d env p with
      | some p => (stRow fo2 fk2 d2 env p).map fun p => .nx env p
      | none => none)
    | none => none)
  | none => none
theorem s_row2 {o2 k1 k2 a1 a2 : Expr} {p1 p2 pt pt2 : Pos} {kt kt2 : Nat} {fo2 fk2 fv fw : FV D} (hc : X.calm = true) (ho : PE X o (tE G fo)) (ho2 : PE X o2 (tE G fo2)) (hk : PE X k1 (tE G fk)) (hl : PE X k2 (tE G fk2)) (hv : PE X a1 (tE G fv)) (hw' : PE X a2 (tE G fw))
    (hs1 : starEach [a2] X.env = (false, eval a2 X.env) :: starEach [] X.env := by rfl) (hs0 : starEach [a1, a2] X.env = (false, eval a1 X.env) :: starEach [a2] X.env := by rfl)
    (hgs : PGs X [.Subscript o k1 p1, .Subscript o2 k2 p2] (gCons (L2.gSub (tE G fo) (tE G fk) rSetL) (gCons (L2.gSub (tE G fo2) (tE G fk2) rSetL) gNil)))
    (hn : (assignEach [.Subscript o k1 p1, .Subscript o2 k2 p2] X.env).length = 2 := by rfl) (hst : (assignEach [.Subscript o k1 p1, .Subscript o2 k2 p2] X.env).findIdx? (·.1) = none := by rfl)
    (hs : swapsWithSole [.Tuple [.Subscript o k1 p1, .Subscript o2 k2 p2] kt pt] (.Tuple [a1, a2] kt2 pt2) pos.line X.env = pure false := by rfl) (hw : swappedStores [.Tuple [.Subscript o k1 p1, .Subscript o2 k2 p2] kt pt] (.Tuple [a1, a2] kt2 pt2) X.env = pure none := by rfl)
    (h1 : (assignEach [.Tuple [.Subscript o k1 p1, .Subscript o2 k2 p2] kt pt] X.env).map (·.2) = [assign (.Tuple [.Subscript o k1 p1, .Subscript o2 k2 p2] kt pt) X.env] := by rfl) :
    PS X (.Assign [.Tuple [.Subscript o k1 p1, .Subscript o2 k2 p2] kt pt] (.Tuple [a1, a2] kt2 pt2) pos) (tS G (sRow2 fo fk fo2 fk2 fv fw)) :=
  psI (ps_asg (pe_tup (pa_cons hv (pa_cons hw' pa_nil hs1) hs0)) (pg_tup hc hgs hn hst) hs hw h1) fun Dn σ H ⟨W, env, p, o, hR, hf, k⟩ => by
    unfold sRow2 at hf
    split at hf
    · rename_i d p1 q
      split at hf
      · rename_i d2 p2 q2
        split at hf
        · rename_i p3 h3
          cases h4 : stRow fo2 fk2 d2 env p3 with
          | none => rw [h4] at hf; cases hf
          | some p4 =>
            rw [h4] at hf
            cases hf
            refine ⟨W, env, p, d, p1, hR, q, fun W1 H1 v t1 R1 rv => ⟨W1, env, p1, d2, p2, R1, q2, fun W2 H2 v2 t2 R2 rv2 => ⟨by rw [sizeLine_eq]; exact (show 2 ≤ 16777216 by decide), fun z hz => ?_⟩⟩⟩
            have R3 := R2.new (o := .tup [v, v2]) hz
            have tz : Tr (penA G W2) W2 H2 W2 (upd H2 z (.tup [v, v2])) := Tr.new hz
            have rv3 := (rv.te t2 R1.ok).te tz R2.ok
            have rv4 := rv2.te tz R2.ok
            refine ⟨z, [v, v2], rfl, SqT.of upd_same, rfl, v, [v2], rfl, ?_⟩
            refine stRow_core R3 rv3 h3 fun W4 H4 t4 R4 => ⟨v2, [], rfl, ?_⟩
            refine stRow_core R4 (rv4.te t4 R3.ok) h4 fun W5 H5 t5 R5 => ⟨rfl, ?_⟩
            exact k W5 σ H5 (((((t1.then t2).then tz).then t4).then t5).mono fun a z => .inl z) R5 fun a z => .inl z
        · cases hf
      · cases hf
    · cases hf
/-! ### a list that a comprehension has stored becomes a shared one -/
def sAft (i : Nat) (g : FS) : FS := fun env p => match g env p with
  | some (.nx e p) => (match e[i]? with
    | some (.ow ds) => some (.nx (e.set i (.sh (.lst ds))) p)
    | _ => some (.nx e p))
  | x => x
theorem R.fzAt {x : Addr} {s : Slot} {u : HO} {d : D} {i : Nat} (hR : R G W env p σ H) (he : env[i]? = some s) (hs : s.isOwn = true) (ev : σ[i]? = some (some (.ref x))) (hx : H x = some u) (rd : Rep G (W.add x) H (.ref x) d) :
    R G (W.add x) (env.set i (.sh d)) p σ H ∧ Own env σ x ∧ ∀ a, Own (env.set i (.sh d)) σ a → Own env σ a := by
  have hi : i < env.length := (List.getElem?_eq_some_iff.mp he).1
  have ox : Own env σ x := ⟨i, s, he, hs, ev⟩
  obtain ⟨n1, n2⟩ := hR.own x ox
  have own : ∀ {j : Nat} {t : Slot} {a : Addr}, (env.set i (.sh d))[j]? = some t → t.isOwn = true → σ[j]? = some (some (.ref a)) → env[j]? = some t ∧ a ≠ x := fun {j t a} e1 e2 e3 => by
    by_cases hj : i = j
    · subst hj
      rw [List.getElem?_set_self hi] at e1
      cases e1
      cases e2
    · rw [List.getElem?_set_ne hj] at e1
      refine ⟨e1, fun z => ?_⟩
      subst z
      exact hj (hR.dis i j s t a he hs ev e1 e2 e3)
  have ms : ∀ {v : List V} {d : List D}, Reps G W H v d → Reps G (W.add x) H v d := fun h => h.add
  refine ⟨⟨by rw [List.length_set]; exact hR.len, hR.ok.add n2 (by rw [hx]; exact fun z => by cases z), fun j t e n => ?_, fun a ⟨j, t, e1, e2, e3⟩ => ?_, fun j k t u a e1 e2 e3 e4 e5 e6 => ?_⟩, ox, fun a ⟨j, t, e1, e2, e3⟩ => ⟨j, t, (own e1 e2 e3).1, e2, e3⟩⟩
  · by_cases hj : i = j
    · subst hj
      rw [List.getElem?_set_self hi] at e
      cases e
      exact ⟨_, ev, rd⟩
    · rw [List.getElem?_set_ne hj] at e
      obtain ⟨v, e2, q⟩ := hR.slot j t e n
      refine ⟨v, e2, ?_⟩
      cases t with
      | no => exact True.intro
      | sh d => exact Rep.add q
      | ow d => obtain ⟨a, xs, h1, h2, h3⟩ := q; exact ⟨a, xs, h1, h2, ms h3⟩
      | od d => obtain ⟨a, xs, h1, h2, h4, h3⟩ := q; exact ⟨a, xs, h1, h2, h4, ms h3⟩
      | oo x0 c d => obtain ⟨a, C, dx, xs, h1, h2, h4, h5, h3⟩ := q; exact ⟨a, C, dx, xs, h1, h2, h4, h5, ms h3⟩
  · obtain ⟨h1, h2⟩ := own e1 e2 e3
    obtain ⟨k1, k2⟩ := hR.own a ⟨j, t, h1, e2, e3⟩
    exact ⟨fun z => z.elim k1 h2, k2⟩
  · exact hR.dis j k t u a (own e1 e2 e3).1 e2 e3 (own e4 e5 e6).1 e5 e6
theorem s_aft {i : Nat} (h : PS X st (tS G g)) : PS X st (tS G (sAft i g)) := psI h fun Dn σ H ⟨W, env, p, o, hR, hf, k⟩ => by
  unfold sAft at hf
  split at hf
  · rename_i e1 p1 q
    split at hf
    · rename_i ds he
      cases hf
      refine ⟨W, env, p, _, hR, q, fun W1 σ1 H1 t1 R1 o1 => ?_⟩
      obtain ⟨v0, ev, x, xs, exv, hx, rx⟩ := R1.slot i _ he (fun z => by cases z)
      subst exv
      obtain ⟨R2, ox, o2⟩ := R1.fzAt he rfl ev hx (d := .lst ds) (.lst (.inr rfl) hx rx.add)
      refine k (W1.add x) σ1 H1 ⟨t1.kp, t1.tk, t1.pe, t1.re, t1.rn, fun a s => .inl (t1.sub a s), fun a s => s.elim (t1.nw a) fun z => ?_⟩ R2 fun a z => o1 a (o2 a z)
      subst z
      exact (o1 _ ox).elim (fun z => .inr (.inr (.inr z))) fun z => .inr (.inl z)
    · cases hf
      exact ⟨W, env, p, _, hR, q, k⟩
  · exact ⟨W, env, p, _, hR, hf, k⟩
end
end Cr
/-! ## the top by one run: a Hook with one more Bool; what it tells -/
namespace Cr
open PySem L2 He
abbrev AlB : Type := AlD × Bool
def obsB (n : Nat) (fa : List Fa) (fn : List DefD) (tf : List Defn) (ex : PySem.W.Frag → Bool) (g : Addr → Option Obj) : AlB := (fun K => (obsD fa fn K, ex K && tabsB g tf K)) (frT g (asD g n))
def valB (fn : List DefD) : AlB := (valD fn, true)
/-- the makers' tables: empty, not in K -/
structure TabX (tf : List Defn) (K : PySem.W.Frag) (h : Heap) : Prop where
  hd : ∀ p ∈ tf, PySem.W.codeHdIn K (cT K p).1 (cT K p).2 = true
  out : ∀ p ∈ tf, K.lookup (cT K p).2 = none
  empty : ∀ p ∈ tf, h.get? (cT K p).2 = some { cls := .none, data := .fields #[] }
theorem tabX_of {n : Nat} {tf : List Defn} {h : Heap} (e : tabsB h.get? tf (frT h.get? (asD h.get? n)) = true) : TabX tf (frT h.get? (asD h.get? n)) h := by
  have key : ∀ p ∈ tf, PySem.W.codeHdIn (frT h.get? (asD h.get? n)) (cT (frT h.get? (asD h.get? n)) p).1 (cT (frT h.get? (asD h.get? n)) p).2 = true ∧ ∃ o, h.get? (cT (frT h.get? (asD h.get? n)) p).2 = some o ∧ emptyTab o = true := fun p hp => by
    obtain ⟨h3, h4⟩ := ba (List.all_eq_true.mp e p hp)
    refine ⟨h3, ?_⟩
    cases q : h.get? (cT (frT h.get? (asD h.get? n)) p).2 with
    | none =>
      rw [q] at h4
      cases h4
    | some o =>
      rw [q] at h4
      exact ⟨o, rfl, h4⟩
  exact ⟨fun p hp => (key p hp).1, fun p hp => by
    obtain ⟨_, o, q, z⟩ := key p hp
    exact frT_none q z, fun p hp => by
    obtain ⟨_, o, q, z⟩ := key p hp
    rw [q, emptyTab_eq z]⟩
def hookB (n : Nat) (fa : List Fa) (fn : List DefD) (tf : List Defn) (ex : PySem.W.Frag → Bool) : PySem.W.Hook where
  α := AlB
  obs := fun s => obsB n fa fn tf ex s.heap.get?
  val := fun _ => valB fn
  says := fun _ h => ∃ K : PySem.W.Frag, K.In h ∧ SaysD fa fn K ∧ ex K = true ∧ TabX tf K h
  of := fun _ _ e => by
    have e1 := congrArg (fun z : AlB => z.1) e
    obtain ⟨h1, h2⟩ := ba (congrArg (fun z : AlB => z.2) e)
    exact ⟨_, frT_in, e1, h1, tabX_of h2⟩
  keeps := fun _ _ _ ⟨K, hK, c, d, x⟩ k => ⟨K, PySem.W.Frag.In.keeps hK k, c, d, x.hd, x.out, fun p hp => k _ _ (x.empty p hp)⟩
theorem obsB_eq {n : Nat} {fa : List Fa} {fn : List DefD} {tf : List Defn} {ex : PySem.W.Frag → Bool} {g : Addr → Option Obj} {s : Shared} (h : ∀ a, g a = s.heap.get? a) : obsB n fa fn tf ex g = (hookB n fa fn tf ex).obs s := by
  have e : g = s.heap.get? := funext h
  rw [e] <;> rfl
/-! ### the classes -/
def clsB (K : PySem.W.Frag) (C : Addr) (fs : List Str) : Bool :=
  PySem.W.plainGet K C Str.empty && (PySem.W.hasDictIn K C && (PySem.W.plainOver K C && (eqO (PySem.W.findIn K (.ref C) "__setattr__") (some (some (.builtin "object.__setattr__"))) &&
  (eqO (PySem.W.findIn K (.ref C) "__class__") (some (some (.builtin "object.__class__"))) && (decide (PySem.W.mroIn K C (.type "object") = some true) &&
  ((["int", "bool", "tuple", "list", "str", "dict"].all fun T => decide (PySem.W.kitOne K (.ref C) (.type T) = some false)) && ((["NoneType", "int", "bool", "tuple", "list", "str", "dict"].all fun T => decide (PySem.W.kitOne K (.type T) (.ref C) = some false)) &&
  ((fs.all fun f => eqO (PySem.W.findIn K (.ref C) f) (some none)) && (PySem.W.makesIn K C && (PySem.W.keepIn K (.ref C) && decide (PySem.W.subIn K (.type "tuple") (.ref C) = some false)))))))))))
theorem clsB_A {K : PySem.W.Frag} {C : Addr} {fs : List Str} (h : clsB K C fs = true) : ClsA K C fs ∧ PySem.W.makesIn K C = true ∧ PySem.W.keepIn K (.ref C) = true ∧ PySem.W.subIn K (.type "tuple") (.ref C) = some false := by
  obtain ⟨h1, h⟩ := ba h
  obtain ⟨h2, h⟩ := ba h
  obtain ⟨h3, h⟩ := ba h
  obtain ⟨h4, h⟩ := ba h
  obtain ⟨h5, h⟩ := ba h
  obtain ⟨h6, h⟩ := ba h
  obtain ⟨h7, h⟩ := ba h
  obtain ⟨h8, h⟩ := ba h
  obtain ⟨h9, h⟩ := ba h
  obtain ⟨h10, h⟩ := ba h
  obtain ⟨h11, h12⟩ := ba h
  exact ⟨⟨⟨h1, h2, h3, eqO_ok h4⟩, eqO_ok h5, of_decide_eq_true h6, fun T hT => of_decide_eq_true (List.all_eq_true.mp h7 T hT), fun T hT => of_decide_eq_true (List.all_eq_true.mp h8 T hT), fun f hf => eqO_ok (List.all_eq_true.mp h9 f hf)⟩, h10, h11, of_decide_eq_true h12⟩
/-- the classes by name, as they stand -/
def gmK (K : PySem.W.Frag) (cs : List (String × Str)) : List (String × Addr) := cs.map fun q => (q.1, ga K q.2)
def exB (cs : List (String × Str)) (fs : List Str) (K : PySem.W.Frag) : Bool :=
  decide (PySem.W.specialIn K (.builtin "object.__class__") "__get__" = some (some (.builtin "getset_descriptor.__get__"))) && (decide (PySem.W.takesIn K (.builtin "object.__class__") = some true) &&
  ((gmK K cs).all (fun q => clsB K q.2 fs) && (gmK K cs).all fun q => (gmK K cs).all fun q' => decide (PySem.W.kitOne K (.ref q.2) (.ref q'.2) = some (decide (q.1 = q'.1))) && PySem.W.notFirst K q.2 (.ref q'.2)))
section
variable {K : PySem.W.Frag} {cs : List (String × Str)} {fs : List Str} {tb : List (Addr × Str)}
theorem exB_cls (h : exB cs fs K = true) : ∀ q ∈ gmK K cs, ClsA K q.2 fs ∧ PySem.W.makesIn K q.2 = true ∧ PySem.W.keepIn K (.ref q.2) = true ∧ PySem.W.subIn K (.type "tuple") (.ref q.2) = some false := fun q hq => by
  obtain ⟨_, h⟩ := ba h
  obtain ⟨_, h⟩ := ba h
  obtain ⟨h, _⟩ := ba h
  exact clsB_A (List.all_eq_true.mp h q hq)
theorem exB_two (h : exB cs fs K = true) : ∀ q ∈ gmK K cs, ∀ q' ∈ gmK K cs, PySem.W.kitOne K (.ref q.2) (.ref q'.2) = some (decide (q.1 = q'.1)) ∧ PySem.W.notFirst K q.2 (.ref q'.2) = true := fun q hq q' hq' => by
  obtain ⟨_, h⟩ := ba h
  obtain ⟨_, h⟩ := ba h
  obtain ⟨_, h⟩ := ba h
  obtain ⟨h1, h2⟩ := ba (List.all_eq_true.mp (List.all_eq_true.mp h q hq) q' hq')
  exact ⟨of_decide_eq_true h1, h2⟩
theorem exB_cf (h : exB cs fs K = true) : ClsF K (gmOf (gmK K cs) tb) := by
  have h0 := id h
  obtain ⟨h1, h⟩ := ba h
  obtain ⟨h2, _⟩ := ba h
  exact clsF_of (fs := fs) (fun q hq => (exB_cls h0 q hq).1) (of_decide_eq_true h1) (of_decide_eq_true h2) fun q hq q' hq' => (exB_two h0 q hq q' hq').1
theorem exB_na (h : exB cs fs K = true) {f : Str} (hf : f ∈ fs) : ∀ c C, gmOf (gmK K cs) tb c = some C → NoAttr K C f := na_of (fs := fs) (fun q hq => (exB_cls h q hq).1) hf
theorem exB_x {mg : Str → Option Value} {c : String} {x : Str} (h : exB cs fs K = true) (hc : gmOf (gmK K cs) tb c = some (ga K x)) (hm : mg x = some (.ref (ga K x))) : ClsX K mg (gmOf (gmK K cs) tb) c x := ⟨fun C hC => by
  rw [hc] at hC
  cases hC
  have q1 := gm_all (l := gmK K cs) (P := fun c C => PySem.W.makesIn K C = true ∧ PySem.W.keepIn K (.ref C) = true ∧ PySem.W.subIn K (.type "tuple") (.ref C) = some false) (fun q hq => (exB_cls h q hq).2) c _ hc
  exact ⟨q1.1, q1.2.1, hm, q1.2.2, gm_all2 (l := gmK K cs) (P := fun c C c' C' => PySem.W.notFirst K C (.ref C') = true) (fun q hq q' hq' => (exB_two h q hq q' hq').2) c _ |> fun z c' C' h' => z c' C' hc h'⟩⟩
end
/-! ### defs by the Hook -/
/-- a top def without defaults -/
def dTop (x : Str) (st : Stmt) : DefD := ⟨(x, none), x, x, defArgs st, defBody st, defScope st, [], []⟩
def dMeth (c nm qual : Str) (st : Stmt) : DefD := ⟨(c, some nm), nm, qual, defArgs st, defBody st, defScope st, [], []⟩
section
variable {K : PySem.W.Frag} {mg : Str → Option Value} {h : Heap} {fa : List Fa} {fn : List DefD}
theorem fun_of {x qual : Str} {st : Stmt} {f : Addr} {fd : FuncData} (F : FunD K x qual (defArgs st) (defBody st) (defScope st) [] [] f fd) : L2.Fun K x qual st f fd := by
  obtain ⟨oc, od, dV, kV, doc, pm, an, cdv, ct, osl, e, lk, hcd, hD, hK⟩ := F.ex
  rcases hD with ⟨_, rfl⟩ | ⟨z, _⟩
  · exact ⟨⟨oc, od, kV, doc, pm, an, cdv, ct, osl, e, lk, hcd⟩, F.kp⟩
  · exact absurd rfl z
/-- how the arguments of a def bind -/
def BindOk (x qual : Str) (st : Stmt) (ps : List Str) : Prop := ∀ (kV doc pm : Value) (an : Option Addr) (cdv ct : Value) (us : List Value), us.length = ps.length → bindArgs (PySem.W.fnOf x qual (defArgs st) (defBody st) (defScope st) .none kV doc pm an cdv ct) ⟨us, []⟩ = pure (ps.zip us)
theorem defF_of {x : Str} {st : Stmt} {ps : List Str} (X : K.In h) (N : h.Ns mainGlobals mg) (c : SaysD fa fn K) (i j : Nat) (hi : fn[i]? = some (dTop x st)) (hj : fa[j]? = some (.glo x)) (hb : BindOk x x st ps) : DefF K mg x st ps := by
  obtain ⟨fd, F⟩ := c.def_ i hi
  exact ⟨_, fd, fun_of F, glo_ok X N (c.fact j hj), (fun_of F).binds hb⟩
theorem methF_of {G : Gm} {c' : String} {x nm qual : Str} {st : Stmt} {ps : List Str} (c : SaysD fa fn K) (i j : Nat) (hi : fn[i]? = some (dMeth x nm qual st)) (hj : fa[j]? = some (.meth x nm)) (hG : G c' = some (ga K x)) (hb : BindOk nm qual st ps) : MethF K G c' nm qual st ps := by
  obtain ⟨fd, F⟩ := c.def_ i hi
  have m := c.fact j hj
  obtain ⟨m1, m⟩ := ba m
  obtain ⟨m2, m3⟩ := ba m
  exact ⟨_, _, fd, hG, eqO_ok m1, m2, fun_of F, (fun_of F).binds hb⟩
theorem int_of {x : Str} {i : Int} (X : K.In h) (N : h.Ns mainGlobals mg) (c : SaysD fa fn K) (j : Nat) (hj : fa[j]? = some (.int x i)) : ∃ u, mg x = some u ∧ RelV (.int i) u := by
  obtain ⟨t, e⟩ := int_ok X N (c.fact j hj)
  exact ⟨_, e, t, rfl⟩
end
/-! ### the end -/
/-- the makers' tables with the names of what they make -/
def tbK (K : PySem.W.Frag) (tf : List Defn) : List (Addr × Str) := tf.map fun p => ((cT K p).2, (match p.2 with
  | none => p.1
  | some m => p.1 ++ "." ++ m) ++ ".<locals>.<lambda>")
theorem tabs0 {T : List (Addr × Str)} {H : Hp} (h : ∀ p ∈ T, H p.1 = some (.tbl #[])) : LamX.Tabs T H := fun p hp => LamX.TabS.nil (h p hp)
open PySem.Spec PyProof.Rows PySem.W in
theorem walkY {l : PySem.W.OpenLaw} {q : Program} {loose : List Str} {XP : (Str → Option Value) → Heap → Prop} {n : Nat} {fa : List Fa} {fn : List DefD} {tf : List Defn} {ex : PySem.W.Frag → Bool} {d : DefRec} {k : Nat} (hn : l.most = some 63) (hdf : d.params.defaults = []) (hr : Room k callerA)
    (F : ∀ (w : World) (K : PySem.W.Frag) (mg : Str → Option Value) (f : Addr) (h : Heap), K.In h → h.Ns mainGlobals mg → SaysD fa fn K → ex K = true → mg d.name = some (.ref f) →
      ∃ fd : FuncData, (∀ (s : Shared) (u : Value), BindsTo s fd ⟨[u], []⟩ [("script", u)]) ∧ ∀ base : Heap, K.In base → base.Ns mainGlobals mg → (∀ p ∈ tf, LamX.TabB base mg (cT K p).1 (cT K p).2) → FnOk l.prog w K mg base CX0 k f fd ["script"] (spLaw K (tbK K tf))) :
    PySem.W.WalkO q loose XP (hookB n fa fn tf ex).says l.row.toRowW d [] (fun f vs => PySem.call f vs) := by
  refine Att.attach_callB hn hdf fun w s₀ s₁ mg mb f o pm cd doc a vs ns G Y ho hd hcd hmg hobj hints hlen hbits hg => ?_
  obtain ⟨K, KX, c, hex, x⟩ := Y
  obtain ⟨fd, hb, hF⟩ := F w K mg f _ KX G.T.g c hex hmg
  have all : ∀ {Q : Addr × Addr → Prop}, (∀ p ∈ tf, Q (cT K p)) → ∀ p ∈ tf.map (cT K), Q p := fun {Q} h p hp => by
    obtain ⟨d, hd, e⟩ := List.mem_map.mp hp
    exact e ▸ h d hd
  refine LamX.law_callTs (cs := tf.map (cT K)) KX G.T.g G.T.b G.T.builtins G.T.nolimit hg (all x.empty) (all x.out) (all fun p hp => PySem.W.codeHd_of_K KX (x.hd p hp)) G.T.bmain hobj hints (Nat.le_trans hlen (by decide)) hr (fun base kb nb hT => hF base kb nb fun p hp => hT _ (List.mem_map.mpr ⟨p, hp, rfl⟩)) hb (fun H hH hS => ⟨a, ns, rfl, tabs0 fun p hp => ?_, hS, hlen, hbits, fun _ => rfl⟩) fun H e s' z => z
  obtain ⟨d, hd, e⟩ := List.mem_map.mp hp
  rw [← e]
  exact hH _ (List.mem_map.mpr ⟨d, hd, rfl⟩)
end Cr
/-! ## a law's own frame: its pen, then its body as a function -/
namespace Cr
open PySem L2
theorem foldOf_take {ns : List Int} {i : Nat} {n : Int} (h : ns[i]? = some n) : foldOf (ns.take (i + 1)) = (foldOf (ns.take i) * 47 + n) % 1000000007 := by
  unfold foldOf
  rw [List.take_add_one, h, List.foldl_append]
  rfl
theorem sqL_upd {K : PySem.W.Frag} {H : Hp} {a p : Addr} {xs : List V} {o : HO} (h : SqL K H a xs) (hp : H p = none) : SqL K (upd H p o) a xs := by
  rcases h with (h | ⟨u, h⟩) | h
  · exact .inl (.inl (by rw [upd_ne (ne_of_none h hp)]; exact h))
  · exact .inl (.inr ⟨u, by rw [upd_ne (ne_of_none h hp)]; exact h⟩)
  · exact .inr h
theorem pen_tabs {T : List (Addr × Str)} {H : Hp} {p c : Addr} {xs : List V} {kvs : List (Key × V)} (hp : H p = none) (hc : H c = none) (npc : c ≠ p) (h : LamX.Tabs T H) : LamX.Tabs T (upd (upd (upd H p (.dK [])) c (.lst xs)) p (.dK kvs)) :=
  tabs_upd (tabs_upd (tabs_upd h fun o e => by rw [hp] at e; cases e) fun o e => by rw [upd_ne npc, hc] at e; cases e) (noTb_dK (by rw [upd_ne (Ne.symm npc), upd_same]))
/-- the law's body answers True at every script -/
def LawM (n : Nat) (g : FS) : Prop := ∀ ns : List Int, ns.length ≤ 63 → (∀ z ∈ ns, Builtin.Int.intBits z ≤ 1048576) → ∃ p', g (.no :: .sh .pen :: List.replicate n Slot.no) (pen0 ns) = some (.rt (.bl true) p')
section
variable {P : Program} {w : World} {K : PySem.W.Frag} {mg : Str → Option Value} {base : Heap} {G : Gm} {k k' : Nat} {x qual : Str} {st : Stmt} {f : Addr} {fd : FuncData}
theorem pe_callPen {X : Cx} {stp : Stmt} {p0 p1 pos : Pos} (d : DefF X.K X.mg "_law_pen" stp ["script"]) (ok : ∀ f fd, L2.Fun X.K "_law_pen" "_law_pen" stp f fd → FnOk X.prog X.w X.K X.mg X.base CX0 k f fd ["script"] (spPen X.K)) (hr : Room k X.A) (hg : Gl X "_law_pen") (hv : PE X (.Name "script" p1) (tVar 0))
    (he : starEach [.Name "script" p1] X.env = (false, eval (.Name "script" p1) X.env) :: starEach [] X.env := by rfl) (hpl : (backTo pos (starEach [] X.env)).any (·.1) = false := by rfl) :
    PE X (.Call (.Name "_law_pen" p0) [.Name "script" p1] [] pos) (tCall (spPen X.K) [] E0 (tCons (tVar 0) tNil)) := by
  obtain ⟨f, fd, F, h1, h2⟩ := d.ex
  exact pe_call (ok f fd F) hr hg h1 F.kp h2 .nil pass0 (pa_cons hv pa_nil he) (by decide) he hpl
theorem law_ok {g : FS} {N : List Str} {s0 : Stmt} {rest : List Stmt} (F : L2.Fun K x qual st f fd) (S : FnScope ("script" :: "pen" :: N) ["script"] (defScope st)) (hbody : defBody st = s0 :: rest)
    (h0 : ∀ (cdv : Value) (A : Around) (outer : List PySem.Env) (s : Shared) (H : Hp) (E : XK), Room k (A.deeper (PyProof.Rows.envOfC qual (defScope st) s.heap.objs.size f cdv)) → PS (cxOf CX0 P w K mg base ("script" :: "pen" :: N) qual (defScope st) f cdv A outer s H E).nox s0 (tAsg (tCall (spPen K) [] E0 (tCons (tVar 0) tNil)) (gName 1)))
    (hb : ∀ (cdv : Value) (A : Around) (outer : List PySem.Env) (s : Shared) (H : Hp) (E : XK), Room k (A.deeper (PyProof.Rows.envOfC qual (defScope st) s.heap.objs.size f cdv)) → PSs (cxOf CX0 P w K mg base ("script" :: "pen" :: N) qual (defScope st) f cdv A outer s H E).nox rest (tS G g))
    (hm : LawM N.length g) : FnOk P w K mg base CX0 (k + 1) f fd ["script"] (spLaw K G.tb) := by
  refine F.ok S (fun vs H Q E ⟨a, ns, e, _⟩ => by rw [e]; rfl) (fun cdv A outer s H vs Q E hr ⟨a, ns, e, hT, hS, hl, hbits, hQ⟩ => ?_)
  rw [hbody]
  refine ⟨_, pss_cons (h0 cdv A outer s H E hr) (hb cdv A outer s H E hr), ?_⟩
  subst e
  obtain ⟨p', hp⟩ := hm ns hl hbits
  refine ⟨.ref a, rfl, a, ns, rfl, hS, hl, fun q c H' hq hc nqc kT ec eq => ?_⟩
  have e1 : (L2.start ("script" :: "pen" :: N) [V.ref a]).set 1 (some (V.ref q)) = some (V.ref a) :: some (V.ref q) :: List.replicate N.length none := by
    unfold L2.start
    simp [List.replicate_succ]
  show tS G g _ ((L2.start ("script" :: "pen" :: N) [V.ref a]).set 1 (some (V.ref q))) H'
  rw [e1]
  exact ⟨_, _, pen0 ns, _, law_R (G := G) (rest := List.replicate N.length none) (kT _ hT) (pen0_ok hl) rfl nqc ec eq (List.length_replicate ..), hp, fun W' H2 v t w rv => by
    cases rv
    exact hQ H2⟩
end
end Cr
/-! ## dicts by ints and texts: displays, reading, storing, comprehensions; index of a tuple -/
namespace Cr
open PySem L2
/-! ### tables of plain data -/
def valD (kvs : List (Key × D)) (k : Key) : Option D := (kvs.find? fun kv => decide (kv.1 = k)).map (·.2)
def putKD (kvs : List (Key × D)) (k : Key) (d : D) : List (Key × D) :=
  if (kvs.any fun kv => decide (kv.1 = k)) = true then kvs.map (fun kv => if kv.1 = k then (kv.1, d) else kv) else kvs ++ [(k, d)]
def keyD : D → Option Key
  | .int i => some (.inl i)
  | .str x => some (.inr x)
  | _ => none
section
variable {G : Gm} {W : Wd} {H : Hp} {env : Env} {σ : St} {p : PenSt}
theorem keyD_V {v : V} {d : D} {k : Key} (h : Rep G W H v d) (e : keyD d = some k) : v = kV k := by
  cases h <;> cases e <;> rfl
theorem keyB_V {v : V} {d : D} {k : Key} (h : RepB G W env σ H v d) (e : keyD d = some k) : v = kV k := by
  cases d <;> first | (cases e; done) | skip
  · cases e; exact h.int
  · cases e; exact h.str
theorem valD_rep : ∀ {ks : List (Key × V)} {kvs : List (Key × D)} {k : Key} {d : D}, ks.map Prod.fst = kvs.map Prod.fst → Reps G W H (ks.map Prod.snd) (kvs.map Prod.snd) → valD kvs k = some d → ∃ v, valV ks k = some v ∧ Rep G W H v d
  | [], [], _, _, _, _, h => by cases h
  | [], _ :: _, _, _, e, _, _ => by cases e
  | _ :: _, [], _, _, e, _, _ => by cases e
  | (a, v) :: ks, (b, x) :: kvs, k, d, e, r, h => by
    rw [List.map_cons, List.map_cons] at e
    obtain ⟨e1, e2⟩ := List.cons.inj e
    have e1 : a = b := e1
    subst e1
    cases r with
    | cons rv rr =>
      unfold valD at h
      rw [List.find?_cons] at h
      by_cases q : a = k
      · simp only [q, decide_true] at h
        cases h
        exact ⟨v, valV_pos q, rv⟩
      · simp only [q, decide_false] at h
        obtain ⟨w, h1, h2⟩ := valD_rep e2 rr h
        exact ⟨w, (valV_neg q).trans h1, h2⟩
theorem any_key : ∀ {ks : List (Key × V)} {kvs : List (Key × D)} {k : Key}, ks.map Prod.fst = kvs.map Prod.fst → (ks.any fun kv => decide (kv.1 = k)) = (kvs.any fun kv => decide (kv.1 = k))
  | [], [], _, _ => rfl
  | [], _ :: _, _, e => by cases e
  | _ :: _, [], _, e => by cases e
  | (a, v) :: ks, (b, x) :: kvs, k, e => by
    rw [List.map_cons, List.map_cons] at e
    obtain ⟨e1, e2⟩ := List.cons.inj e
    have e1 : a = b := e1
    rw [List.any_cons, List.any_cons, any_key e2, e1]
theorem map_put : ∀ {ks : List (Key × V)} {kvs : List (Key × D)} {k : Key} {v : V} {d : D}, ks.map Prod.fst = kvs.map Prod.fst → Reps G W H (ks.map Prod.snd) (kvs.map Prod.snd) → Rep G W H v d →
    (ks.map fun kv => if kv.1 = k then (kv.1, v) else kv).map Prod.fst = (kvs.map fun kv => if kv.1 = k then (kv.1, d) else kv).map Prod.fst ∧
    Reps G W H ((ks.map fun kv => if kv.1 = k then (kv.1, v) else kv).map Prod.snd) ((kvs.map fun kv => if kv.1 = k then (kv.1, d) else kv).map Prod.snd)
  | [], [], _, _, _, _, _, _ => ⟨rfl, .nil⟩
  | [], _ :: _, _, _, _, e, _, _ => by cases e
  | _ :: _, [], _, _, _, e, _, _ => by cases e
  | (a, w) :: ks, (b, x) :: kvs, k, v, d, e, r, rv => by
    rw [List.map_cons, List.map_cons] at e
    obtain ⟨e1, e2⟩ := List.cons.inj e
    have e1 : a = b := e1
    subst e1
    cases r with
    | cons r1 rr =>
      obtain ⟨h1, h2⟩ := map_put (k := k) e2 rr rv
      simp only [List.map_cons]
      by_cases q : a = k
      · simp only [if_pos q]
        exact ⟨by rw [h1], .cons rv h2⟩
      · simp only [if_neg q]
        exact ⟨by rw [h1], .cons r1 h2⟩
theorem put_rep {ks : List (Key × V)} {kvs : List (Key × D)} {k : Key} {v : V} {d : D} (e : ks.map Prod.fst = kvs.map Prod.fst) (r : Reps G W H (ks.map Prod.snd) (kvs.map Prod.snd)) (rv : Rep G W H v d) :
    (putK ks k v).map Prod.fst = (putKD kvs k d).map Prod.fst ∧ Reps G W H ((putK ks k v).map Prod.snd) ((putKD kvs k d).map Prod.snd) := by
  unfold putK putKD
  rw [any_key e]
  split
  · exact map_put e r rv
  · rw [List.map_append, List.map_append, List.map_append, List.map_append, e]
    exact ⟨rfl, r.app (.cons rv .nil)⟩
theorem keys_len {ks : List (Key × V)} {kvs : List (Key × D)} (e : ks.map Prod.fst = kvs.map Prod.fst) : ks.length = kvs.length := by
  have := congrArg List.length e
  rwa [List.length_map, List.length_map] at this
end
section
variable {X : Cx} {G : Gm} {W : Wd} {H : Hp} {env : Env} {σ : St} {p : PenSt} {r : D} {Q : VK} {e a b c tg o : Expr} {f fa fb fc fe fk fv : FV D} {ft : FV Bool} {pos pos' : Pos} {es : List Expr}
/-- {} -/
def fDct0 : FV D := fun _ p => some (.dct [], p)
theorem n_dict0 : PE X (.Dict [] [] pos) (tN G fDct0) := peI pe_dnewK fun σ H Q ⟨W, env, p, r, p', hR, hf, k⟩ => by
  cases hf
  exact fun q hq => k.newD hR hq rfl
/-- x[k], x a dict -/
def gDGet : D → D → Option D
  | .dct kvs, d => (match keyD d with
    | some k => valD kvs k
    | none => none)
  | _, _ => none
theorem is_dget : Is2 G (fun x y H Q => ∃ a v, x = .ref a ∧ DGet H a y (some v) ∧ Q v H) gDGet := fun W env p σ H x y d e r Q hR hx hy hg k => by
  cases d <;> first | (cases hg; done) | skip
  rename_i kvs
  have hg : (match keyD e with
    | some k => valD kvs k
    | none => none) = some r := hg
  split at hg
  · rename_i kk hk
    obtain ⟨a, ks, rfl, ea, n, q⟩ := hx.dct
    obtain ⟨v, hv, rv⟩ := valD_rep n q hg
    rw [keyB_V hy hk]
    refine ⟨a, v, rfl, ?_, k W H v Tr.refl hR rv⟩
    have := DGet.k (k := kk) ea
    rw [hv] at this
    exact this
  · cases hg
theorem e_dget (hu : X.A.units + 1 < cLine) (ha : PE X a (tB G fa)) (hb : PE X b (tB G fb)) (hs : NoSl b) : PE X (.Subscript a b pos) (tE G (f2 gDGet fa fb)) :=
  peI (pe_dget hu ha hb hs) fun σ H Q h => two is_dget h
/-- len(x), x a dict -/
def gLenD : D → Option D
  | .dct kvs => some (.int kvs.length)
  | _ => none
theorem cr_lenD : CallR X (.builtin "len") (fun xs H Q => ∃ a kvs, xs = [.ref a] ∧ H a = some (.dK kvs) ∧ Q (.int kvs.length) H) := by
  intro pins s σ H vs us Q I r h
  obtain ⟨a, kvs, rfl, ha, q⟩ := h
  rw [Vals.ref1 r]
  exact d_len I (.inl ha) fun t s' I' => ⟨.int _, H, I', ⟨t, rfl⟩, q⟩
theorem is_lenD : Is1 G (fun x H Q => ∃ a kvs, [x] = [.ref a] ∧ H a = some (.dK kvs) ∧ Q (.int kvs.length) H) gLenD := .scal fun W env p σ H x d r Q hR hx hg q => by
  cases d <;> first | (cases hg; done) | skip
  cases hg
  obtain ⟨a, ks, rfl, ea, n, _⟩ := hx.dct
  refine ⟨a, ks, rfl, ea, ?_⟩
  rw [keys_len n]
  exact q _ (.int _)
theorem e_lenD {p0 : Pos} (hg : Gl X "len") (hm : X.mg "len" = none) (ha : PE X a (tB G fa)) (hs : starEach [a] X.env = (false, eval a X.env) :: starEach [] X.env := by rfl) : PE X (.Call (.Name "len" p0) [a] [] pos) (tE G (f1 gLenD fa)) :=
  e_b1 cr_lenD is_lenD hg hm PySem.boot_len ha (by decide) (by decide) hs
/-- x[k] = v, x an own dict -/
def sPutD (i : Nat) (fk fv : FV D) : FS := fun env p => match fv env p with
  | some (d, p) => (match fk env p with
    | some (kd, p) => (match keyD kd, env[i]? with
      | some k, some (.od kvs) => if kvs.length < 16777216 then some (.nx (env.set i (.od (putKD kvs k d))) p) else none
      | _, _ => none)
    | none => none)
  | none => none
theorem R.od (hR : R G W env p σ H) {i : Nat} {kvs : List (Key × D)} (he : env[i]? = some (.od kvs)) : ∃ x ks, σ[i]? = some (some (.ref x)) ∧ H x = some (.dK ks) ∧ ks.map Prod.fst = kvs.map Prod.fst ∧ Reps G W H (ks.map Prod.snd) (kvs.map Prod.snd) := by
  obtain ⟨v, ev, x, ks, exv, hx, n, rx⟩ := hR.slot i _ he (fun z => by cases z)
  subst exv
  exact ⟨x, ks, ev, hx, n, rx⟩
theorem s_putD {i : Nat} (hu : X.A.units + 1 < cLine) (ho : PE X o (tVar i)) (hk : PE X b (tE G fk)) (hv : PE X a (tE G fv)) (hs : swapsWith a (some (.Subscript o b pos')) pos.line X.env = pure false := by rfl) :
    PS X (.Assign [.Subscript o b pos'] a pos) (tS G (sPutD i fk fv)) :=
  psI (ps_dput hu ho hk hv hs) fun Dn σ H ⟨W, env, p, o, hR, hf, kk⟩ => by
    unfold sPutD at hf
    split at hf
    · rename_i d p1 q
      split at hf
      · rename_i kd p2 q2
        split at hf
        · rename_i k kvs hkd he
          split at hf
          · rename_i hz
            cases hf
            refine ⟨W, env, p, d, p1, hR, q, fun W1 H1 v t1 R1 rv => ?_⟩
            obtain ⟨x, ks, ev, hx, n, rx⟩ := R1.od he
            refine ⟨.ref x, ev, W1, env, p1, kd, p2, R1, q2, fun W2 H2 u t2 R2 ru => ?_⟩
            obtain ⟨x2, ks2, ev2, hx2, n2, rx2⟩ := R2.od he
            have := ref_eq ev ev2
            subst this
            rw [keyD_V ru hkd]
            refine ⟨x, _, rfl, DPut.k hx2 (by rw [sizeLine_eq, keys_len n2]; exact hz), ?_⟩
            have rv2 := rv.te t2 R1.ok
            have ok := okX R2 ⟨i, _, he, rfl, ev⟩
            obtain ⟨m1, m2⟩ := put_rep (k := k) n2 rx2 rv2
            obtain ⟨R3, t3, o3⟩ := R2.mut (u := .dK (putK ks2 k v)) he rfl ev (s' := .od (putKD kvs k d)) rfl ⟨x, _, rfl, upd_same, m1, m2.tr trX ok⟩
            exact kk W2 σ _ (((t1.then t2).mono fun a z => .inl z).trans t3 fun a z => z.elim (fun z => ((t1.then t2).pa a z).imp_left .inl) fun z => .inl (.inr z)) R3 fun a z => .inl (o3 a z)
          · cases hf
        · cases hf
      · cases hf
    · cases hf
/-! ### {k: v for .. in ..} -/
def compD (bd : BF) (ft : FV Bool) (fk fv : FV D) (env : Env) : List D → List (Key × D) → PenSt → Option (List (Key × D) × PenSt)
  | [], acc, p => some (acc, p)
  | d :: ds, acc, p => match bd d env with
    | none => none
    | some env1 => match ft env1 p with
      | none => none
      | some (true, p) => (match fk env1 p with
        | none => none
        | some (y, p) => (match keyD y with
          | none => none
          | some k => (match fv env1 p with
            | none => none
            | some (z, p) => if acc.length < 16777216 then compD bd ft fk fv env ds (putKD acc k z) p else none)))
      | some (false, p) => compD bd ft fk fv env ds acc p
def fDComp (vs : List Nat) (fi : FV (List D)) (bd : BF) (ft : FV Bool) (fk fv : FV D) : FV D := fun env p => match fi env p with
  | none => none
  | some (ds, p) => (compD bd ft fk fv (wipeE env vs) ds [] p).map fun z => (.dct z.1, z.2)
theorem compD_core {wi : TI} {ts vs : List Nat} {fi : FV (List D)} {bd : BF} {Qf : VK} (hts : ∀ j ∈ ts, j ∈ vs)
    (h : ∃ W env p r p', R G W env p σ H ∧ fDComp vs fi bd ft fk fv env p = some (r, p') ∧ PostV G W env σ H p' (NewP G H r) Qf) : tDc (tI G fi) (tG G bd ts) (tT G ft) (tE G fk) (tE G fv) vs σ H Qf := by
  obtain ⟨W, env, p, r, p', hR, hf, k⟩ := h
  unfold fDComp at hf
  cases h1 : fi env p with
  | none => rw [h1] at hf; cases hf
  | some z =>
    obtain ⟨ds, p1⟩ := z
    rw [h1] at hf
    simp only at hf
    cases h2 : compD bd ft fk fv (wipeE env vs) ds [] p1 with
    | none => rw [h2] at hf; cases hf
    | some z =>
      obtain ⟨rs, p2⟩ := z
      rw [h2] at hf
      have hf : some (D.dct rs, p2) = some (r, p') := hf
      cases hf
      refine ⟨W, env, p, ds, p1, hR, h1, fun W1 H1 J t1 R1 io => fun D hD => ?_⟩
      have RW := R1.wipe vs
      have pD : ¬ penA G W1 D := R1.ok.pen_ne hD
      refine ⟨fun i m H => m = ds.length - i ∧ i ≤ ds.length ∧ ∃ Wd pc accV acc, Tr (penA G W1) W1 H1 Wd H ∧ WOk G Wd pc H ∧ (¬ Wd.S D ∧ ¬ penA G Wd D) ∧ H D = some (.dK accV) ∧ accV.map Prod.fst = acc.map Prod.fst ∧ Reps G Wd H (accV.map Prod.snd) (acc.map Prod.snd) ∧ compD bd ft fk fv (wipeE env vs) (ds.drop i) acc pc = some (rs, p'),
        ⟨ds.length, by simp, Nat.zero_le _, W1, p1, [], [], Tr.new hD, R1.ok.upd hD, ⟨fun z => R1.ok.trk D z hD, pD⟩, upd_same, rfl, .nil, by rw [List.drop_zero]; exact h2⟩, ?_⟩
      rintro i m H2 ⟨rfl, hi, Wd, pc, accV, acc, td, wd, hS, hDv, nD, rD, hc⟩
      have io2 := io Wd H2 td
      by_cases hlt : i < ds.length
      · refine .inr ⟨io2.1 i hlt, fun H3 => i + 1 ≤ ds.length ∧ ∃ Wd pc accV acc, Tr (penA G W1) W1 H1 Wd H3 ∧ WOk G Wd pc H3 ∧ (¬ Wd.S D ∧ ¬ penA G Wd D) ∧ H3 D = some (.dK accV) ∧ accV.map Prod.fst = acc.map Prod.fst ∧ Reps G Wd H3 (accV.map Prod.snd) (acc.map Prod.snd) ∧ compD bd ft fk fv (wipeE env vs) (ds.drop (i + 1)) acc pc = some (rs, p'),
          fun H3 q => ⟨_, Nat.sub_lt_sub_left (by omega) (Nat.lt_succ_self i), rfl, q.1, q.2⟩, fun x H3 hy => ?_⟩
        obtain ⟨y1, y2, d, hd, rd⟩ := io2.2.2 i x H3 hlt hy
        have t3 : Tr (penA G W1) W1 H1 Wd H3 := td.trans (y1 (penA G Wd)) td.pa
        have w3 := y2 pc wd
        have R3 : R G Wd (wipeE env vs) pc (wipe σ vs) H3 := RW.step t3 w3
        have y1' := y1 fun _ => False
        have d3 : H3 D = some (.dK accV) := y1'.kp D _ (fun z => z) (fun _ z => by cases z) hDv
        have rD3 : Reps G Wd H3 (accV.map Prod.snd) (acc.map Prod.snd) := rD.tr y1' fun _ z => z.elim
        have hdrop : ds.drop i = d :: ds.drop (i + 1) := by
          rw [List.drop_eq_getElem_cons hlt]
          congr 1
          rw [List.getElem?_eq_getElem hlt] at hd
          exact Option.some.inj hd
        rw [hdrop] at hc
        unfold compD at hc
        cases hb : bd d (wipeE env vs) with
        | none => rw [hb] at hc; cases hc
        | some env1 =>
          rw [hb] at hc
          simp only at hc
          refine ⟨Wd, wipeE env vs, pc, d, env1, R3, rd, hb, fun σ2 R4 o4 l4 s4 => ⟨wipe_eq hts l4 s4, ?_⟩⟩
          cases htt : ft env1 pc with
          | none => rw [htt] at hc; cases hc
          | some z =>
            obtain ⟨bb, pt⟩ := z
            rw [htt] at hc
            refine ⟨Wd, env1, pc, bb, pt, R4, htt, fun W5 H5 t5 R5 => ?_⟩
            have keep : ∀ {Wa Wb : Cr.Wd} {Ha Hb : Hp} {av : List (Key × V)}, Tr (penA G Wa) Wa Ha Wb Hb → (¬ Wa.S D ∧ ¬ penA G Wa D) → Ha D = some (.dK av) → (¬ Wb.S D ∧ ¬ penA G Wb D) ∧ Hb D = some (.dK av) := fun {Wa Wb Ha Hb av} t n e =>
              ⟨⟨fun z => (t.nw D z).elim n.1 fun z => z.elim (fun z => by rw [e] at z; cases z) n.2, fun z => (t.pa D z).elim n.2 fun z => by rw [e] at z; cases z⟩, t.kp D _ n.2 (fun _ z => by cases z) e⟩
            have t5' : Tr (penA G W1) W1 H1 W5 H5 := t3.trans t5 td.pa
            obtain ⟨n5, d5⟩ := keep t5 hS d3
            have rD5 := rD3.te t5 R4.ok
            cases bb with
            | false =>
              refine iteF ?_
              exact ⟨by omega, W5, pt, accV, acc, t5', R5.ok, n5, d5, nD, rD5, hc⟩
            | true =>
              refine iteT ?_
              simp only at hc
              cases hfk : fk env1 pt with
              | none => rw [hfk] at hc; cases hc
              | some z =>
                obtain ⟨yk, pk⟩ := z
                rw [hfk] at hc
                simp only at hc
                cases hky : keyD yk with
                | none => rw [hky] at hc; cases hc
                | some kk =>
                  rw [hky] at hc
                  simp only at hc
                  cases hfe : fv env1 pk with
                  | none => rw [hfe] at hc; cases hc
                  | some z =>
                    obtain ⟨rr, pe⟩ := z
                    rw [hfe] at hc
                    simp only at hc
                    split at hc
                    · rename_i hlen
                      refine ⟨W5, env1, pt, yk, pk, R5, hfk, fun W6 H6 u t6 R6 q6 => ?_⟩
                      have t6' : Tr (penA G W1) W1 H1 W6 H6 := t5'.trans t6 t5'.pa
                      obtain ⟨n6, d6⟩ := keep t6 n5 d5
                      have rD6 := rD5.te t6 R5.ok
                      refine ⟨W6, env1, pk, rr, pe, R6, hfe, fun W7 H7 v t7 R7 q7 => ?_⟩
                      have t7' : Tr (penA G W1) W1 H1 W7 H7 := t6'.trans t7 t6'.pa
                      obtain ⟨n7, d7⟩ := keep t7 n6 d6
                      have rD7 := rD6.te t7 R6.ok
                      have tD : Tr (fun x => x = D) W7 H7 W7 (upd H7 D (.dK (putK accV kk v))) := trX
                      have okD : ∀ a, a = D → ¬ W7.S a ∧ ∃ o, H7 a = some o ∧ ∀ xs, o ≠ .tup xs := fun a z => by subst z; exact ⟨n7.1, _, d7, fun _ z => by cases z⟩
                      obtain ⟨m1, m2⟩ := put_rep (k := kk) nD rD7 q7
                      refine ⟨accV, kk, keyD_V q6 hky, d7, by rw [sizeLine_eq, keys_len nD]; exact hlen, by omega, W7, pe, _, putKD acc kk rr, ?_, R7.ok.atX n7 (noTb_dK d7), n7, upd_same, m1, m2.tr tD okD, hc⟩
                      exact ⟨fun x o hx nt ex => by rw [upd_ne (fun z => by rw [z, hD] at ex; cases ex)]; exact t7'.kp x o hx nt ex, fun x ex => by
                        by_cases z : x = D
                        · rw [z, upd_same]; exact fun z => by cases z
                        · rw [upd_ne z]; exact t7'.tk x ex, t7'.pe, t7'.re, t7'.rn, t7'.sub, t7'.nw⟩
                    · cases hc
      · have e : i = ds.length := by omega
        subst e
        rw [List.drop_length] at hc
        cases hc
        have hD0 : H D = none := Classical.byContradiction fun n => t1.tk D n hD
        refine .inl ⟨io2.2.1, ?_⟩
        exact k Wd H2 _ (t1.then td) (R1.step td wd) ⟨⟨D, accV, rfl, hDv, nD, rD⟩, fun _ => ⟨D, rfl, hD0, hS.1, hS.2⟩⟩
theorem n_dc {iter kx vx : Expr} {ifs : List Expr} {scope : Scope} {own : List (Str × Nat)} {ts : List Nat} {fi : FV (List D)} {bd : BF} (hc : X.calm = true) (hN : X.N.Nodup) (hts : ∀ j ∈ ts, j ∈ own.map (·.2)) (hi : PI X tg iter (tI G fi)) (ok : BlkOk X.N X.env.scope scope own)
    (hg : ∀ (s : Shared) (H : Hp) (C : Addr) (cl : List (Str × Addr)) (fp : List Addr), PG (X.blk s H scope (compEnvC scope cl C X.env) fp) tg (tG G bd ts)) (ht : ∀ (s : Shared) (H : Hp) (C : Addr) (cl : List (Str × Addr)) (fp : List Addr), PTs (X.blk s H scope (compEnvC scope cl C X.env) fp) ifs (tT G ft))
    (hk : ∀ (s : Shared) (H : Hp) (C : Addr) (cl : List (Str × Addr)) (fp : List Addr), PE (X.blk s H scope (compEnvC scope cl C X.env) fp) kx (tE G fk))
    (he : ∀ (s : Shared) (H : Hp) (C : Addr) (cl : List (Str × Addr)) (fp : List Addr), PE (X.blk s H scope (compEnvC scope cl C X.env) fp) vx (tE G fv)) (hs : ∀ x, foldedSetIterable iter X.env x = pure x := by intro _; rfl) :
    PE X (.DictComp kx vx [⟨tg, iter, ifs, 0⟩] scope pos) (tN G (fDComp (own.map (·.2)) fi bd ft fk fv)) :=
  peI (pe_dc hc hN hi ok hg ht hk he hs) fun σ H Q ⟨W, env, p, r, p', hR, hf, k⟩ => compD_core (wi := tI G fi) hts ⟨W, env, p, r, p', hR, hf, k⟩
end
end Cr
/-! ## a lambda of one parameter, handed to sorted -/
namespace Cr
open PySem PySem.Spec PyProof.Rows L2
/-! ### its names -/
structure LamS1 (sc scope : Scope) (x : Str) : Prop where
  kind : scope.kind = .function
  co : scope.isCoroutine = false
  gen : scope.isGenerator = false
  par : scope.names.lookup x = some .local
  own : ∀ y ∈ scope.names, y.2 = .local → y.1 = x
  nocell : ∀ y ∈ scope.names, y.2 ≠ .cell
  free : ∀ y ∈ scope.names, y.2 = .free → sc.names.lookup y.1 = some .cell ∨ sc.names.lookup y.1 = some .free
def lamS1B (sc scope : Scope) (x : Str) : Bool :=
  decide (scope.kind = .function) && (!scope.isCoroutine && (!scope.isGenerator && (decide (scope.names.lookup x = some .local) && scope.names.all fun y => (!decide (y.2 = .local) || decide (y.1 = x)) && (!decide (y.2 = .cell) && (!decide (y.2 = .free) || (decide (sc.names.lookup y.1 = some .cell) || decide (sc.names.lookup y.1 = some .free)))))))
theorem lamS1_by {sc scope : Scope} {x : Str} (h : lamS1B sc scope x = true) : LamS1 sc scope x := by
  unfold lamS1B at h
  simp only [Bool.and_eq_true, Bool.or_eq_true, Bool.not_eq_true', decide_eq_true_eq, decide_eq_false_iff_not, List.all_eq_true] at h
  obtain ⟨h1, h2, h3, h4, h5⟩ := h
  exact ⟨h1, h2, h3, h4, fun y hy e => (h5 y hy).1.elim (fun z => absurd e z) id, fun y hy => (h5 y hy).2.1, fun y hy e => (h5 y hy).2.2.elim (fun z => absurd e z) id⟩
theorem LamS1.has {X : Cx} {scope : Scope} {x : Str} (L : LamS1 X.env.scope scope x) (ok : X.Ok) : ∀ y ∈ scope.names, y.2 = .free → ∃ c, X.env.cells.lookup y.1 = some c := fun y hy e => by
  rcases L.free y hy e with k | k
  · exact ok.has _ (.inl k)
  · exact ok.has _ (.inr k)
/-- the context of its body -/
def lamCx1 (X : Cx) (A : Around) (outer : List PySem.Env) (s : Shared) (H : Hp) (scope : Scope) (f c' : Addr) : Cx where
  prog := X.prog
  w := X.w
  K := X.K
  mg := X.mg
  base := X.base
  A := A.deeper (LamX.lamEnv X scope s.heap.objs.size f c')
  N := X.N
  s_0 := s
  H_0 := H
  env := LamX.lamEnv X scope s.heap.objs.size f c'
  outer := outer
  stack := LamX.lamEnv X scope s.heap.objs.size f c' :: outer
  ex := []
  fn := fun _ => false
  calm := true
  pn := []
  xe := fun _ _ => False
section
variable {X : Cx} {pins : List (Addr × Obj)} {σ : L2.St} {H : Hp} {s : Shared}
theorem lam_start3 {A : Around} {outer : List PySem.Env} {scope : Scope} {f c' : Addr} {h₁ : Heap} {tk : Nat} {x : Str} {i : Nat} {v : V} {u : Value} (I : L2.Inv X pins σ H s) (L : LamS1 X.env.scope scope x) (hx : X.N[i]? = some x) (hN : X.N.Nodup) (e0 : Env0 X.prog X.w X.K X.mg X.base A outer s H) (hd : A.handled = none)
    (hns : h₁.Ns s.heap.objs.size fun y => ([(x, u)] : List (Str × Value)).reverse.lookup y) (kp : ∀ b o, s.heap.get? b = some o → h₁.get? b = some o) (r : RelV v u) :
    L2.Inv (lamCx1 X A outer s H scope f c') [] (σ.set i (some v)) H { s with heap := h₁, toks := tk } := by
  have hfree := L.has I.ok
  have cm : ∀ {y c}, (cloFrom X.env.cells scope.names []).lookup y = some c → X.env.cells.lookup y = some c := fun {y c} e => by
    rcases cloFrom_mem (PySem.mem_of_lookup e) with hm | ⟨h1, h2⟩
    · cases hm
    · obtain ⟨c1, hc⟩ := hfree _ h1 rfl
      have hc : X.env.cells.lookup y = some c1 := hc
      have e2 : c = c1 := by
        rw [h2, hc] <;> rfl
      rw [e2]
      exact hc
  have look : ∀ {y}, scope.names.lookup y = some .free → ∃ c, (cloFrom X.env.cells scope.names []).lookup y = some c := fun {y} hl => by
    have hy : (y, NameKind.free) ∈ scope.names := PySem.mem_of_lookup hl
    exact mem_lookup (cloFrom_has (cells := X.env.cells) (acc := []) hy)
  have cellK : ∀ {c : Addr} {v : Option Value}, s.heap.IsCell c v → h₁.IsCell c v := fun {c v} ⟨o, ho, hd⟩ => ⟨_, kp _ _ ho, hd⟩
  have noA : ∀ b : Addr, b ∉ (lamCx1 X A outer s H scope f c').ex := fun b z => absurd (show b ∈ ([] : List Addr) from z) (by simp)
  refine ⟨⟨e0.mod, L.kind, rfl, rfl, Nat.le_refl _, fun y z c e1 e2 => I.ok.inj y z c (cm e1) (cm e2), fun y hy => ?_, fun y c z _ => ?_, fun _ => hd, Around.frames_deeper e0.frames, .inr ⟨rfl, rfl⟩, fun b z => absurd z (noA b), e0.bs, e0.bsz, fun b _ _ => noA b,
      fun b z => absurd z (noA b), e0.funs, e0.frf⟩,
    rfl, e0.bare, Un.kept kp, ⟨_, hns, fun j y w e1 e2 e3 => ?_⟩, fun y c e => ?_, e0.hok.fresh (Nat.le_refl _), fun y c e => ?_, fun q hq => absurd (show q ∈ ([] : List (Addr × Obj)) ++ [] from hq) (by simp), e0.hok.kept kp, by rw [List.length_set]; exact I.len⟩
  · have hy : scope.names.lookup y = some .cell ∨ scope.names.lookup y = some .free := hy
    rcases hy with hy | hy
    · exact absurd rfl (L.nocell _ (PySem.mem_of_lookup hy))
    · exact look hy
  · have z : false = true := z
    cases z
  · have e3 : Vis scope y := e3
    have e1 : X.N[j]? = some y := e1
    rcases e3 with k | k | k
    · have ey : y = x := L.own _ (PySem.mem_of_lookup k) rfl
      subst ey
      have hij : i = j := by
        obtain ⟨l1, q1⟩ := List.getElem?_eq_some_iff.mp hx
        obtain ⟨l2, q2⟩ := List.getElem?_eq_some_iff.mp e1
        rcases Nat.lt_trichotomy i j with h | h | h
        · exact absurd (q1.trans q2.symm) (List.pairwise_iff_getElem.mp hN _ _ l1 l2 h)
        · exact h
        · exact absurd (q2.trans q1.symm) (List.pairwise_iff_getElem.mp hN _ _ l2 l1 h)
      subst hij
      by_cases hlt : i < σ.length
      · rw [List.getElem?_set_self hlt] at e2
        cases e2
        refine ⟨u, r, .inl ⟨k, ?_⟩⟩
        show List.lookup y [(y, u)] = some u
        simp
      · rw [List.getElem?_eq_none (by rw [List.length_set]; omega)] at e2
        cases e2
    · exact absurd rfl (L.nocell _ (PySem.mem_of_lookup k))
    · have hne : i ≠ j := fun z => by
        subst z
        rw [hx] at e1
        cases e1
        rw [L.par] at k
        cases k
      rw [List.getElem?_set_ne hne] at e2
      obtain ⟨m, hn, hl⟩ := I.loc
      have hvis : Vis X.env.scope y := (L.free _ (PySem.mem_of_lookup k) rfl).elim (fun k => .inr (.inl k)) (fun k => .inr (.inr k))
      obtain ⟨w', r', q⟩ := hl j y w e1 e2 hvis
      obtain ⟨c2, h2⟩ := look k
      refine ⟨w', r', .inr ⟨.inr k, c2, h2, ?_⟩⟩
      have c1 := cm h2
      rcases q with ⟨k', _⟩ | ⟨_, c3, e', z⟩
      · have k' : X.env.scope.names.lookup y = some .local := k'
        rcases L.free _ (PySem.mem_of_lookup k) rfl with k2 | k2 <;> rw [show X.env.scope.names.lookup y = _ from k2] at k' <;> cases k'
      · rw [c1] at e'
        cases e'
        exact cellK z
  · obtain ⟨w', z⟩ := I.cell y c (cm e)
    exact ⟨w', cellK z⟩
  · exact I.freeC y c (cm e)
theorem lam_call {A : Around} {scope : Scope} {f c' : Addr} {x : Str} {i k : Nat} {v : V} {u pm ctv : Value} {params : Arguments} {body : Expr} {tb : TE} {Q : VK} (I : L2.Inv X pins σ H s) (L : LamS1 X.env.scope scope x) (hx : X.N[i]? = some x) (hN : X.N.Nodup) (hf : s.heap.get? f = some (PySem.W.kla_obj "<lambda>" (X.env.qual ++ "<lambda>") params body scope (cloFrom X.env.cells scope.names []) pm c' ctv))
    (hc : H c' = some (LamX.CodeO c' (X.env.qual ++ "<lambda>"))) (hA : A.frames = X.A.frames) (hr : Room (k + 1) A)
    (hbind : bindArgs (PySem.W.kla_fn "<lambda>" (X.env.qual ++ "<lambda>") params body scope (cloFrom X.env.cells scope.names []) pm (.ref c') ctv) ⟨[u], []⟩ = pure [(x, u)])
    (hbody : Room k (A.deeper (LamX.lamEnv X scope s.heap.objs.size f c')) → PE (lamCx1 X A X.stack s H scope f c') body tb) (r : RelV v u) (ht : tb (σ.set i (some v)) H Q) :
    wpAny (model X.prog X.w) A (call (.ref f) [u]) (EP X pins σ Q) (fun _ _ => False) s := by
  have e0 : Env0 X.prog X.w X.K X.mg X.base A X.stack s H := ⟨hA.trans I.env0.frames, I.env0.mod, I.env0.bs, I.env0.bsz, I.env0.funs, I.env0.frf, I.env0.hok, I.env0.bare⟩
  obtain ⟨⟨oc, vs, t, hoc, hdc, hvc⟩, _, _⟩ := I.hok c' _ hc
  have rc : codeAny (model X.prog X.w) A (.call (.ref f) ⟨[u], []⟩) (fun r s' => ∃ w, r = .ok (.ret w) ∧ CE X.stack X.prog X.w H s Q w s') s := by
    refine PySem.W.kla_callFunE hr.depth hf rfl L.co L.gen rfl ⟨c', oc, vs, t, rfl, hoc, hdc, hvc⟩ ?_
    rw [hbind]
    refine wpAny_pure (wpAny_newFunctionEnv (fun y hy => L.nocell y hy) (fun y hy => ?_) (fun h₁ hns hsb => ⟨I.nolimit.fresh _ hsb, ?_⟩) L.kind)
    · rw [List.mem_singleton] at hy
      subst hy
      exact L.par
    show codeAny _ _ (.expr body (LamX.lamEnv X scope s.heap.objs.size f c')) _ _
    have kp : ∀ b o, s.heap.get? b = some o → h₁.get? b = some o := fun b o e => hsb.extBut b o (Nat.ne_of_lt (Heap.lt_size e)) (Heap.get?_push_of_some _ e)
    have J : L2.Inv (lamCx1 X A X.stack s H scope f c') [] (σ.set i (some v)) H { s with heap := h₁, toks := s.toks + ([(x, u)] : List (Str × Value)).length } :=
      lam_start3 I L hx hN e0 hr.hd hns kp r
    refine PySem.W.kla_codeExpr (wpAny_mono ((hbody (hr.deeper _)).run [] _ _ H Q J ht) (fun v s' hq => ?_) fun e s' hq => (show False from hq).elim)
    obtain ⟨w', H', J', rv, q⟩ := hq
    exact ⟨v, rfl, w', H', J'.os, J'.bare, J'.base, J'.hok, rv, q⟩
  refine wpAny_call (codeAny_mono rc fun r s' hq => ?_)
  obtain ⟨w, rfl, hq⟩ := hq
  exact I.after hq
end
end Cr
/-! ## sorted(.., key=f): the run -/
namespace Cr
open PySem PySem.Spec PyProof.Rows L2
section
variable {X : Cx} {pins : List (Addr × Obj)} {σ : L2.St} {H : Hp} {s : Shared}
/-- a place of one's own -/
structure OwnAt (X : Cx) (pins : List (Addr × Obj)) (a : Addr) : Prop where
  new : X.s_0.heap.objs.size ≤ a
  pin : ∀ p ∈ X.pn ++ pins, p.1 ≠ a
theorem fpOk_pin {l : List (Addr × Obj)} {a : Addr} {o : Obj} (I : L2.Inv X (pins ++ l) σ H s) (hm : (a, o) ∈ l) (w : OwnAt X pins a) : FpOk X pins H a := by
  obtain ⟨h1, h2, h3, h4, h5⟩ := I.pin (a, o) (List.mem_append_right _ (List.mem_append_right _ hm))
  refine ⟨h2, h3, h4, .inr w.new, fun x c e z => ?_, w.pin⟩
  obtain ⟨v, oc, ho, hd⟩ := I.cell x c e
  have h1 : s.heap.get? a = some o := h1
  rw [z, h1] at ho
  cases ho
  exact h5 _ hd
theorem pin_list {l : List (Addr × Obj)} {a kS : Addr} {o1 o2 : Obj} (I : L2.Inv X pins σ H s) (f1 : FpOk X pins H kS) (f2 : FpOk X pins H a) (g1 : s.heap.get? kS = some o1) (g2 : s.heap.get? a = some o2) (d1 : ∀ v, o1.data ≠ .cell v) (d2 : ∀ v, o2.data ≠ .cell v) : L2.Inv X (pins ++ [(kS, o1), (a, o2)]) σ H s :=
  I.pins_of fun p hp => (List.mem_append.mp hp).elim (fun z => I.pin p (List.mem_append_right _ z)) fun z => by
    rcases List.mem_cons.mp z with rfl | z
    · exact ⟨g1, f1.1, f1.2.1, f1.2.2.1, d1⟩
    · rw [List.mem_singleton] at z
      subst z
      exact ⟨g2, f2.1, f2.2.1, f2.2.2.1, d2⟩
/-- places of one's own changed, one of them tracked from now on -/
theorem inv_track {h' : Heap} {t' : Nat} {ch : List Addr} {T : Addr} {ob : HO} (I : L2.Inv X pins σ H s) (k : ∀ b o, b ≠ X.env.locals → b ∉ ch → s.heap.get? b = some o → h'.get? b = some o) (kl : ∀ m, s.heap.Ns X.env.locals m → h'.Ns X.env.locals m) (hf : ∀ b ∈ ch, FpOk X pins H b) (hT : T ∈ ch)
    (new : ObjOk X.prog X.w (upd H T ob) h' T ob) : L2.Inv X pins σ (upd H T ob) { s with heap := h', toks := t' } := by
  have hn : H T = none := (hf T hT).1
  have nit : ∀ b u, H b = some u → b ∉ ch := fun b u e z => by
    have q := (hf b z).1
    rw [q] at e; cases e
  have nL : ∀ b u, H b = some u → b ≠ X.env.locals := fun b u e z => by
    rw [z, I.free] at e; cases e
  refine I.step (g' := s.gens) (d' := s.drawn) (ch := ch) (fun b hb => ⟨(hf b hb).2.2.2.1, (hf b hb).2.1, (hf b hb).2.2.2.2.1, (hf b hb).2.2.2.2.2⟩) (fun b o hl _ hc e _ => k b o hl hc e) (fun b o hl _ hc e _ => ⟨o.slots, k b o hl hc e⟩)
    (fun b o hc e n => ?_) (fun b o hc e => ?_) (fun b xs e => ?_) (fun b o u e => ?_) (fun b ps e => ⟨#[], ?_⟩) kl (fun b u e => ?_) I.bare
  · rw [upd_ne (fun z : b = T => hc (z ▸ hT))]; exact n
  · by_cases hl : b = X.env.locals
    · obtain ⟨m, hm, _⟩ := I.loc
      obtain ⟨o', _, _, ho, _⟩ := kl m hm
      exact ⟨o', hl ▸ ho⟩
    · exact ⟨o, k b o hl hc e⟩
  · rw [upd_ne (ne_of_none e hn)]; exact e
  · rw [upd_ne (ne_of_none e hn)]; exact e
  · rw [upd_ne (ne_of_none e hn), e]; simp
  · by_cases hb : b = T
    · subst hb
      rw [upd_same] at e
      cases e
      exact new
    · rw [upd_ne hb] at e
      refine (I.hok b u e).stay (fun c v hc q => ?_) (fun c q => by rw [upd_ne (ne_of_none q hn)]; exact q) fun c xs q => by rw [upd_ne (ne_of_none q hn)]; exact q
      rcases hc with z | z
      · rw [z] at q ⊢
        exact k b v (nL b u e) (nit b u e) q
      · exact k c v (nL c _ z) (nit c _ z) q
/-- the end of the sort, by what is kept -/
theorem sort_end {prog : Program} {w : World} {A : Around} {E : Value → Shared → Prop} {L a kS : Addr} {m : Str → Option Value} {keys : Array Value} {e e1 : Nat} {b : Bool} {vs : List Value} {kz : List Int} {P : PySem.Fin → Shared → Prop} (hm : s.heap.Ns L m) (gk : s.heap.get? kS = some (seqObj "list" keys e)) (ga : s.heap.get? a = some (seqObj "list" #[] e1))
    (hka : kS ≠ a) (hkL : kS ≠ L) (haL : a ≠ L) (hk : IntsAre keys.toList kz) (hlen : kz.length = vs.length) (hZ : vs.length ≤ sizeLine)
    (h : ∀ h' tk out c, (∀ b o, b ≠ L → b ∉ [kS, a] → s.heap.get? b = some o → h'.get? b = some o) → (∀ m, s.heap.Ns L m → h'.Ns L m) → h'.get? a = some (seqObj "list" out c) → KskOutSt b kz vs out.toList → P (.done (.ret .none)) { s with heap := h', toks := tk }) :
    wpAny (model prog w) A (ksk_end a b vs.toArray e1 (.ref kS) keys) P E s := by
  let news : List (Addr × Obj) := (List.range s.heap.objs.size).filterMap fun b => if b = kS ∨ b = a ∨ b = L then none else (s.heap.get? b).map fun o => (b, o)
  have mem : ∀ {p : Addr × Obj}, p ∈ news → p.1 ≠ kS ∧ p.1 ≠ a ∧ p.1 ≠ L ∧ s.heap.get? p.1 = some p.2 := fun {p} hp => by
    obtain ⟨b, _, e⟩ := List.mem_filterMap.mp hp
    split at e
    · cases e
    · rename_i hb
      obtain ⟨o, ho, ep⟩ := Option.map_eq_some_iff.mp e
      subst ep
      exact ⟨fun z => hb (.inl z), fun z => hb (.inr (.inl z)), fun z => hb (.inr (.inr z)), ho⟩
  have of : ∀ {b : Addr} {o : Obj}, b ≠ L → b ∉ [kS, a] → s.heap.get? b = some o → (b, o) ∈ news := fun {b o} h1 h2 h3 => by
    refine List.mem_filterMap.mpr ⟨b, List.mem_range.mpr (Heap.lt_size h3), ?_⟩
    rw [if_neg (fun z => by
      rcases z with z | z | z
      · exact h2 (by simp [z])
      · exact h2 (by simp [z])
      · exact h1 z), h3]
    rfl
  have none0 : ∀ b, ({ objs := #[] } : Heap).get? b = none := fun b => Heap.get?_none_of_le (Nat.zero_le _)
  refine ksk_end_St (e := e) (h₀ := { objs := #[] }) (L := L) (m := m) (news := news) ⟨hm, fun b o z => (by rw [none0] at z; cases z), Nat.zero_le _⟩ (fun p hp => ?_) hka (fun p hp => (mem hp).1) (fun p hp => (mem hp).2.1) hk hlen hZ fun h' tk out c F N ko => h h' tk out c (fun b o h1 h2 h3 => (N _ (List.mem_cons_of_mem _ (of h1 h2 h3))).1) (fun m' hm' => ?_) (N _ List.mem_cons_self).1 ko
  · rcases List.mem_append.mp hp with hp | hp
    · obtain ⟨_, _, h3, h4⟩ := mem hp
      exact ⟨h4, h3, none0 _⟩
    · rcases List.mem_cons.mp hp with rfl | hp
      · exact ⟨gk, hkL, none0 _⟩
      · rw [List.mem_singleton] at hp
        subst hp
        exact ⟨ga, haL, none0 _⟩
  · have e2 : m' = m := by
      obtain ⟨o, es, ep, ho, hd, _, hf⟩ := hm
      obtain ⟨o', es', ep', ho', hd', _, hf'⟩ := hm'
      rw [ho] at ho'
      cases ho'
      rw [hd] at hd'
      cases hd'
      exact funext fun x => (hf' x).symm.trans (hf x)
    rw [e2]
    exact F.ns
theorem d_list {its : Array Value} {n : Nat} : ∀ v, (seqObj "list" its n).data ≠ .cell v := fun v z => by cases z
/-- what the loop carries -/
def LoopI (X : Cx) (pins : List (Addr × Obj)) (σ : L2.St) (P : Nat → Hp → Prop) (kS a : Addr) (e1 : Nat) (kz : List Int) (i : Nat) (s' : Shared) : Prop :=
  ∃ H' kA e, L2.Inv X (pins ++ [(kS, seqObj "list" kA e), (a, seqObj "list" #[] e1)]) σ H' s' ∧ P i H' ∧ IntsAre kA.toList (kz.take i)
theorem sort_rest {A : Around} {f : Value} {b : Bool} {a kS : Addr} {e1 : Nat} {vs : List Value} {kz : List Int} {P : Nat → Hp → Prop} {R : PySem.Fin → Shared → Prop} (hka : kS ≠ a) (wk : OwnAt X pins kS) (wa : OwnAt X pins a) (hlen : kz.length = vs.length) (hZ : vs.length ≤ sizeLine)
    (turn : ∀ (i : Nat) (v : Value) (k : Int), vs[i]? = some v → kz[i]? = some k → ∀ (s' : Shared) (H' : Hp) (l : List (Addr × Obj)), L2.Inv X (pins ++ l) σ H' s' → P i H' →
      wpAny (model X.prog X.w) A (call f [v]) (fun u s'' => ∃ H'' t, u = .int k t ∧ P (i + 1) H'' ∧ L2.Inv X (pins ++ l) σ H'' s'') (fun _ _ => False) s')
    (I : LoopI X pins σ P kS a e1 kz 0 s)
    (h : ∀ s' H' h' tk out c, L2.Inv X pins σ H' s' → P vs.length H' → FpOk X pins H' kS → FpOk X pins H' a → (∀ b o, b ≠ X.env.locals → b ∉ [kS, a] → s'.heap.get? b = some o → h'.get? b = some o) → (∀ m, s'.heap.Ns X.env.locals m → h'.Ns X.env.locals m) → h'.get? a = some (seqObj "list" out c) → KskOutSt b kz vs out.toList → R (.done (.ret .none)) { s' with heap := h', toks := tk }) :
    wpAny (model X.prog X.w) A (ksk_rest a f b vs.toArray e1 (.ref kS)) R X.xe s := by
  have hZ2 := hZ
  rw [sizeLine_eq] at hZ2
  unfold ksk_rest
  refine wpAny_bind (wpAny_rule ?_)
  first
    | rw [List.forIn_toArray]
    | (rw [← Array.forIn_toList]; simp only [List.toList_toArray])
    | rw [← Array.forIn_toList]
  refine wpAny_bind (ksk_fold (LoopI X pins σ P kS a e1 kz) vs 0 s I ?step ?done)
  case step =>
    rintro j x s' hx ⟨H', kA, e, I', hP, hk⟩
    simp only [Nat.zero_add] at hk hP ⊢
    have hj : j < vs.length := (List.getElem?_eq_some_iff.mp hx).1
    obtain ⟨k, hkj⟩ : ∃ k, kz[j]? = some k := ⟨_, List.getElem?_eq_getElem (by omega)⟩
    have hz : kA.size ≤ vs.length := by
      have h1 := hk.length
      rw [Array.length_toList, List.length_take] at h1
      omega
    refine wpAny_bind (wpAny_attempt (wpAny_mono (turn j x k hx hkj s' H' _ I' hP) (fun v s'' he => ?_) fun _ _ hF => hF.elim))
    obtain ⟨H2, t2, rfl, hP2, I2⟩ := he
    try dsimp only
    have gk : s''.heap.get? kS = some (seqObj "list" kA e) := (I2.pin (kS, seqObj "list" kA e) (List.mem_append_right _ (List.mem_append_right _ List.mem_cons_self))).1
    have ga : s''.heap.get? a = some (seqObj "list" #[] e1) := (I2.pin (a, seqObj "list" #[] e1) (List.mem_append_right _ (List.mem_append_right _ (List.mem_cons_of_mem _ List.mem_cons_self)))).1
    have fk := fpOk_pin I2 List.mem_cons_self wk
    have fa := fpOk_pin I2 (List.mem_cons_of_mem _ List.mem_cons_self) wa
    have s1 := Heap.SameBut.update s''.heap kS (Obj.mapSeq (·.push (.int k t2)))
    obtain ⟨c2, hc2⟩ : ∃ c2, (s''.heap.update kS (Obj.mapSeq (·.push (.int k t2)))).get? kS = some (seqObj "list" (kA.push (.int k t2)) c2) := ⟨_, get?_update_seq gk (·.push (.int k t2))⟩
    have ek : kz.take (j + 1) = kz.take j ++ [k] := by rw [List.take_add_one, hkj]; simp
    have ea : (kA.push (Value.int k t2)).toList = kA.toList ++ [Value.int k t2] := by simp
    refine wpAny_bind (listUpdate_at gk rfl ?_ (by rw [sizeLine_eq]; omega) (Nat.le_trans (Nat.le_of_eq (Array.size_push ..)) (by rw [sizeLine_eq]; omega)))
    have I3 : L2.Inv X pins σ H2 { s'' with heap := s''.heap.update kS (Obj.mapSeq (·.push (.int k t2))) } := (I2.unpinned (pins := pins)).turnedL (ch := [kS]) (fun b o hb e => (s1.2 b (fun z => hb (by simp [z]))).trans e) fun b hb => by
      rw [List.mem_singleton] at hb
      exact hb ▸ fk
    refine wpAny_pure ⟨rfl, H2, kA.push (.int k t2), c2, pin_list (l := []) I3 fk fa hc2 ((s1.2 a hka.symm).trans ga) d_list d_list, hP2, by rw [ea, ek]; exact ksk_snoc hk⟩
  case done =>
    rintro s' ⟨H', kA, e, I', hP, hk⟩
    have hk' : IntsAre kA.toList kz := by
      have e3 : kz.take (0 + vs.length) = kz := List.take_of_length_le (by omega)
      rw [e3] at hk
      exact hk
    rw [Nat.zero_add] at hP
    have gk : s'.heap.get? kS = some (seqObj "list" kA e) := (I'.pin (kS, seqObj "list" kA e) (List.mem_append_right _ (List.mem_append_right _ List.mem_cons_self))).1
    have ga : s'.heap.get? a = some (seqObj "list" #[] e1) := (I'.pin (a, seqObj "list" #[] e1) (List.mem_append_right _ (List.mem_append_right _ (List.mem_cons_of_mem _ List.mem_cons_self)))).1
    have fk := fpOk_pin I' List.mem_cons_self wk
    have fa := fpOk_pin I' (List.mem_cons_of_mem _ List.mem_cons_self) wa
    obtain ⟨m, hm, _⟩ := I'.loc
    try dsimp only
    refine wpAny_bind (listItems_at gk rfl ?_)
    exact sort_end hm gk ga hka fk.2.1 fa.2.1 hk' hlen hZ fun h' tk out c h1 h2 h3 h4 => h s' H' h' tk out c (I'.unpinned (pins := pins)) hP fk fa h1 h2 h3 h4
theorem ownAt_new {a : Addr} (I : L2.Inv X pins σ H s) (h : s.heap.objs.size ≤ a) : OwnAt X pins a := by
  obtain ⟨_, _, _, h4, _, h6⟩ := I.fpOk h (I.hok.fresh h)
  exact ⟨Nat.le_trans I.sz h, h6⟩
theorem sort_tree {A : Around} {f : Value} {b : Bool} {n : Nat} {a : Addr} {vs : List Value} {kz : List Int} {P : Nat → Hp → Prop} {R : PySem.Fin → Shared → Prop} {s0 : Shared} (I0 : L2.Inv X pins σ H s0) (I : L2.Inv X pins σ H s) (hs : s0.heap.objs.size ≤ a) (ho : s.heap.get? a = some (seqObj "list" vs.toArray n)) (hlen : kz.length = vs.length) (hZ : vs.length ≤ sizeLine)
    (turn : ∀ (i : Nat) (v : Value) (k : Int), vs[i]? = some v → kz[i]? = some k → ∀ (s' : Shared) (H' : Hp) (l : List (Addr × Obj)), L2.Inv X (pins ++ l) σ H' s' → P i H' →
      wpAny (model X.prog X.w) A (call f [v]) (fun u s'' => ∃ H'' t, u = .int k t ∧ P (i + 1) H'' ∧ L2.Inv X (pins ++ l) σ H'' s'') (fun _ _ => False) s')
    (hP : P 0 H)
    (h : ∀ s' H' h' tk out c kS, L2.Inv X pins σ H' s' → P vs.length H' → FpOk X pins H' kS → FpOk X pins H' a → (∀ b o, b ≠ X.env.locals → b ∉ [kS, a] → s'.heap.get? b = some o → h'.get? b = some o) → (∀ m, s'.heap.Ns X.env.locals m → h'.Ns X.env.locals m) → h'.get? a = some (seqObj "list" out c) → KskOutSt b kz vs out.toList → R (.done (.ret .none)) { s' with heap := h', toks := tk }) :
    wpAny (model X.prog X.w) A (ksk_tree a f b) R X.xe s := by
  have hZ2 := hZ
  rw [sizeLine_eq] at hZ2
  have wa := ownAt_new I0 hs
  have ha : a < s.heap.objs.size := Heap.lt_size ho
  have fa0 : FpOk X pins H a := I0.fpOk hs (I0.hok.fresh hs)
  have s1 := Heap.SameBut.update s.heap a (Obj.mapSeq fun _ => (#[] : Array Value))
  obtain ⟨e1, ho1⟩ : ∃ e1, (s.heap.update a (Obj.mapSeq fun _ => (#[] : Array Value))).get? a = some (seqObj "list" #[] e1) := ⟨_, get?_update_seq ho fun _ => #[]⟩
  have hkS : ((s.heap.update a (Obj.mapSeq fun _ => (#[] : Array Value))).push (seqObj "tuple" vs.toArray 0)).objs.size = s.heap.objs.size + 1 := by rw [size_push', Heap.size_update]
  unfold ksk_tree
  refine wpAny_bind (listItems_at ho rfl ?_)
  refine wpAny_bind (listUpdate_at ho rfl ?_ (by rw [List.size_toArray, sizeLine_eq]; omega) (Nat.zero_le _))
  refine wpAny_bind (seqEpoch_at ho1 rfl ?_)
  refine wpAny_bind (wpAny_newTuple ?_ (by show vs.length ≤ _; rw [sizeLine_eq]; omega))
  refine wpAny_bind (wpAny_newList ?_ (Nat.zero_le _))
  refine wpAny_holding ?_
  have I1 : L2.Inv X pins σ H { s with heap := s.heap.update a (Obj.mapSeq fun _ => (#[] : Array Value)) } := I.turnedL (ch := [a]) (fun b o hb e => (s1.2 b (fun z => hb (by simp [z]))).trans e) fun b hb => by
    rw [List.mem_singleton] at hb
    exact hb ▸ fa0
  have I2 : L2.Inv X pins σ H { s with heap := ((s.heap.update a (Obj.mapSeq fun _ => (#[] : Array Value))).push (seqObj "tuple" vs.toArray 0)).push (seqObj "list" #[] 0) } := I1.kept fun b o e => Heap.get?_push_of_some _ (Heap.get?_push_of_some _ e)
  have hk0 : s.heap.objs.size ≤ ((s.heap.update a (Obj.mapSeq fun _ => (#[] : Array Value))).push (seqObj "tuple" vs.toArray 0)).objs.size := by rw [hkS]; exact Nat.le_succ _
  have fk : FpOk X pins H ((s.heap.update a (Obj.mapSeq fun _ => (#[] : Array Value))).push (seqObj "tuple" vs.toArray 0)).objs.size := I.fpOk hk0 (I.hok.fresh hk0)
  refine sort_rest (s := { s with heap := ((s.heap.update a (Obj.mapSeq fun _ => (#[] : Array Value))).push (seqObj "tuple" vs.toArray 0)).push (seqObj "list" #[] 0) }) (kS := ((s.heap.update a (Obj.mapSeq fun _ => (#[] : Array Value))).push (seqObj "tuple" vs.toArray 0)).objs.size)
    (by rw [hkS]; exact Nat.ne_of_gt (Nat.lt_succ_of_lt ha)) (ownAt_new I hk0) wa hlen hZ turn ⟨H, #[], 0, pin_list (l := []) I2 fk fa0 (Heap.get?_push_size _ rfl) (Heap.get?_push_of_some _ (Heap.get?_push_of_some _ ho1)) d_list d_list, hP, by simpa using IntsAre.nil⟩ fun s' H' h' tk out c => h s' H' h' tk out c _
end
end Cr
/-! ## sorted(.., key=lambda ..): as a function, as a rule -/
namespace Cr
open PySem PySem.Spec PyProof.Rows L2
/-! ### the stable sort by keys -/
def kins (p : Int × Int) : List (Int × Int) → List (Int × Int)
  | [] => [p]
  | q :: r => if p.1 ≤ q.1 then p :: q :: r else q :: kins p r
def ksort : List (Int × Int) → List (Int × Int)
  | [] => []
  | p :: r => kins p (ksort r)
def kSort (kz ns : List Int) : List Int := (ksort (kz.zip ns)).map Prod.snd
theorem kins_perm (p : Int × Int) : ∀ l, (kins p l).Perm (p :: l)
  | [] => List.Perm.refl _
  | q :: r => by
    unfold kins
    split
    · exact List.Perm.refl _
    · exact ((kins_perm p r).cons q).trans (List.Perm.swap p q r)
theorem ksort_perm : ∀ l, (ksort l).Perm l
  | [] => List.Perm.refl _
  | p :: r => (kins_perm p (ksort r)).trans ((ksort_perm r).cons p)
theorem kins_sorted (p : Int × Int) : ∀ {l : List (Int × Int)}, l.Pairwise (fun a b => a.1 ≤ b.1) → (kins p l).Pairwise fun a b => a.1 ≤ b.1
  | [], _ => List.pairwise_singleton _ _
  | q :: r, h => by
    unfold kins
    obtain ⟨h1, h2⟩ := List.pairwise_cons.mp h
    split
    · rename_i hpq
      refine List.pairwise_cons.mpr ⟨fun b hb => ?_, h⟩
      rcases List.mem_cons.mp hb with rfl | hb
      · exact hpq
      · exact Int.le_trans hpq (h1 b hb)
    · rename_i hpq
      refine List.pairwise_cons.mpr ⟨fun b hb => ?_, kins_sorted p h2⟩
      rcases List.mem_cons.mp ((kins_perm p r).mem_iff.mp hb) with rfl | hb
      · omega
      · exact h1 b hb
theorem ksort_sorted : ∀ l, (ksort l).Pairwise fun a b => a.1 ≤ b.1
  | [] => .nil
  | p :: r => kins_sorted p (ksort_sorted r)
theorem kins_filter (p : Int × Int) (c : Int) : ∀ l, (kins p l).filter (fun q => q.1 == c) = (p :: l).filter fun q => q.1 == c
  | [] => rfl
  | q :: r => by
    unfold kins
    split
    · rfl
    · rename_i hpq
      have ih := kins_filter p c r
      rw [List.filter_cons, ih]
      by_cases h1 : p.1 = c
      · have h2 : (q.1 == c) = false := beq_eq_false_iff_ne.mpr (by omega)
        simp [List.filter_cons, h2]
      · have h2 : (p.1 == c) = false := beq_eq_false_iff_ne.mpr h1
        simp [List.filter_cons, h2]
theorem ksort_filter (c : Int) : ∀ l, (ksort l).filter (fun q => q.1 == c) = l.filter fun q => q.1 == c
  | [] => rfl
  | p :: r => by
    show (kins p (ksort r)).filter _ = _
    rw [kins_filter, List.filter_cons, List.filter_cons, ksort_filter c r]
theorem ksort_uniq {l ps : List (Int × Int)} (h1 : ps.Perm l) (h2 : ps.Pairwise fun a b => a.1 ≤ b.1) (h3 : ∀ c, ps.filter (fun q => q.1 == c) = l.filter fun q => q.1 == c) : ps = ksort l := by
  have O : SrtO.Swo (fun p q : Int × Int => decide (p.1 < q.1)) := ⟨fun x y h => by simp only [decide_eq_true_eq, decide_eq_false_iff_not] at h ⊢; omega, fun x y z h k => by simp only [decide_eq_false_iff_not] at h k ⊢; omega⟩
  have srt : ∀ {l : List (Int × Int)}, l.Pairwise (fun a b => a.1 ≤ b.1) → SrtO.Srtd (fun p q : Int × Int => decide (p.1 < q.1)) l := fun {l} h => h.imp fun {a b} hab => by simp only [decide_eq_false_iff_not]; omega
  refine SrtO.stb_uniq O (srt h2) (srt (ksort_sorted l)) ⟨h1.trans (ksort_perm l).symm, fun x => ?_⟩
  have e : SrtO.eqv (fun p q : Int × Int => decide (p.1 < q.1)) x = fun q => q.1 == x.1 := funext fun q => by
    unfold SrtO.eqv
    by_cases h : q.1 = x.1
    · simp [h]
    · have : (q.1 == x.1) = false := beq_eq_false_iff_ne.mpr h
      rw [this]
      by_cases h' : x.1 < q.1
      · simp [h']
      · have h'' : q.1 < x.1 := by omega
        simp [h', h'']
  rw [e, h3, ksort_filter]
def kskV (p : Int × Value) : Int × Int := (p.1, numOf p.2)
theorem zip_kskV {vs : List Value} {ns kz : List Int} (hi : IntsAre vs ns) : (kz.zip vs).map kskV = kz.zip ns := by
  rw [← hi.nums, List.zip_map_right]
  exact List.map_congr_left fun ⟨x, y⟩ _ => rfl
theorem kSort_of {kz ns : List Int} {vs out : List Value} (hi : IntsAre vs ns) (h : KskOutSt false kz vs out) : IntsAre out (kSort kz ns) := by
  obtain ⟨ps, hp, ho, hs, hf⟩ := h
  have e : ps.map kskV = ksort (kz.zip ns) := by
    refine ksort_uniq ?_ ?_ fun c => ?_
    · have := hp.map kskV
      rwa [zip_kskV hi] at this
    · rw [List.pairwise_map]
      exact hs.imp fun {a b} q => q
    · have q : ∀ l : List (Int × Value), (l.map kskV).filter (fun q => q.1 == c) = (l.filter fun q => q.1 == c).map kskV := fun l => by
        rw [List.filter_map]
        rfl
      rw [q, hf, ← q, zip_kskV hi]
  have e2 : (ps.map Prod.snd).map numOf = kSort kz ns := by
    unfold kSort
    rw [← e, List.map_map, List.map_map]
    rfl
  rw [ho, ← e2]
  refine intsAre_map _ fun v hv => ?_
  obtain ⟨p, hm, rfl⟩ := List.mem_map.mp hv
  have := List.of_mem_zip (hp.mem_iff.mp hm)
  exact hi.all _ this.2
end Cr
namespace Cr
open PySem PySem.Spec PyProof.Rows L2
section
variable {X : Cx} {pins : List (Addr × Obj)} {σ : L2.St} {H : Hp} {s : Shared}
theorem intsAre_at : ∀ {vs : List Value} {ns : List Int} {i : Nat} {v : Value}, IntsAre vs ns → vs[i]? = some v → ∃ n t, ns[i]? = some n ∧ v = .int n t
  | _, _, i, v, h, e => by
    have hlt : i < _ := (List.getElem?_eq_some_iff.mp e).1
    have hl := h.length
    obtain ⟨t, q⟩ := h.get i _ (List.getElem?_eq_getElem (by omega))
    rw [e] at q
    exact ⟨_, t, List.getElem?_eq_getElem _, Option.some.inj q⟩
/-- sorted(x, key=f), what x gives being ints -/
theorem sorted_key {x : Value} {fa : Addr} {ns kz : List Int} {P : Nat → Hp → Prop} {Q : VK} (I : L2.Inv X pins σ H s)
    (hcol : ∀ Q' : List Value → Shared → Prop, (∀ (h1 : Heap) (tk : Nat) (vs : List Value), (∀ b o, s.heap.get? b = some o → h1.get? b = some o) → IntsAre vs ns → Q' vs { s with heap := h1, toks := tk }) → wpAny (model X.prog X.w) X.A.in1 (collect x) Q' X.xe s)
    (hlen : kz.length = ns.length) (hZ : ns.length ≤ sizeLine)
    (turn : ∀ (i : Nat) (n k : Int) (t : Tok), ns[i]? = some n → kz[i]? = some k → ∀ (s' : Shared) (H' : Hp) (l : List (Addr × Obj)), L2.Inv X (pins ++ l) σ H' s' → P i H' →
      wpAny (model X.prog X.w) X.A.in1.in1 (call (.ref fa) [.int n t]) (fun u s'' => ∃ H'' t, u = .int k t ∧ P (i + 1) H'' ∧ L2.Inv X (pins ++ l) σ H'' s'') (fun _ _ => False) s')
    (hP : P 0 H) (h : ∀ H' D, P ns.length H' → H' D = none → Q (.ref D) (upd H' D (.lst ((kSort kz ns).map V.int)))) :
    wpAny (model X.prog X.w) X.A (call (.builtin "sorted") [x] [(Str.ofString "key", .ref fa)]) (EP X pins σ Q) X.xe s := by
  have hZ2 := hZ
  rw [sizeLine_eq] at hZ2
  refine call_function_entry_kw kind_sorted plain_sorted entry_sorted (ksk_s1 _ _) ?_
  unfold Builtin.«sorted»
  refine wpAny_bind (m := checkCount "sorted" 1 1 _) (wpAny_pure ?_)
  refine wpAny_bind (hcol _ fun h1 tk vs kk hi => ?_)
  have hvl : vs.length = ns.length := hi.length
  refine wpAny_bind (wpAny_newList ?_ (by rw [sizeLine_eq]; omega))
  have I1 : L2.Inv X pins σ H { s with heap := h1, toks := tk } := I.kept kk
  show wpAny _ _ _ _ _ { s with heap := h1.push (seqObj "list" vs.toArray 0), toks := tk }
  have I2 : L2.Inv X pins σ H { s with heap := h1.push (seqObj "list" vs.toArray 0), toks := tk } := I1.kept fun b o e => Heap.get?_push_of_some _ e
  have ho : (h1.push (seqObj "list" vs.toArray 0)).get? h1.objs.size = some (seqObj "list" vs.toArray 0) := Heap.get?_push_size _ rfl
  refine wpAny_bind (wpAny_holding (wpAny_call_entry_kw slot_list_sort ⟨_, ho, rfl⟩ entry_list_sort ?body (ksk_l1 _ _)))
  case body =>
    show wpAny (model X.prog X.w) X.A.in1.in1 (Builtin.«list.sort» ⟨[.ref h1.objs.size], [(Str.ofString "key", .ref fa)]⟩) _ _ _
    rw [ksk_t1]
    refine sort_tree (kz := kz) (P := P) I1 I2 (Nat.le_refl _) ho (by rw [hvl]; exact hlen) (by rw [hvl]; exact hZ) (fun i v k hv hk s' H' l I' p' => ?_) hP fun s' H' h' tk' out c kS I' p' fk fa' k1 k2 g ko => ⟨_, rfl, ?_⟩
    · obtain ⟨n, t, hn, rfl⟩ := intsAre_at hi hv
      exact turn i n k t hn hk s' H' l I' p'
    · rw [hvl] at p'
      have io := kSort_of hi ko
      have el : (kSort kz ns).length = ns.length := by
        unfold kSort
        rw [List.length_map, (ksort_perm _).length_eq, List.length_zip]
        omega
      refine wpAny_pure ⟨_, rfl, .ref h1.objs.size, _, inv_track (T := h1.objs.size) (ob := .lst ((kSort kz ns).map V.int)) (ch := [kS, h1.objs.size]) I' k1 k2 (fun b hb => ?_) (by simp) ⟨by rw [List.length_map, el]; exact hZ, out.toList, c, vals_of_ints io, by rw [Array.toArray_toList]; exact g⟩, rfl, h H' _ p' fa'.1⟩
      rcases List.mem_cons.mp hb with z | z
      · exact z ▸ fk
      · rw [List.mem_singleton] at z
        exact z ▸ fa'
end
end Cr
/-! ## a lambda is made; sorted(xs, key=lambda at: ..) as a rule -/
namespace Cr
open PySem PySem.Spec PyProof.Rows L2
section
variable {X : Cx} {pins : List (Addr × Obj)} {σ : L2.St} {H : Hp} {s : Shared}
/-- the lambda is made; whatever is no table stays, and so do all tables but the maker's -/
theorem lam_mk {T : List (Addr × Str)} {c P : Addr} {params : Arguments} {body : Expr} {scope : Scope} {pos : Pos} {E : Value → Shared → Prop} {Q : Value → Shared → Prop} (I : L2.Inv X pins σ H s) (B : LamX.TabB X.base X.mg c P) (hcode : X.env.code = .ref c)
    (mem : (P, X.env.qual ++ "<lambda>") ∈ T) (one : ∀ p ∈ T, p.1 = P → p.2 = X.env.qual ++ "<lambda>") (tabs : LamX.Tabs T H) (hdef : defaultsOf params X.env = ([], [])) (hfree : ∀ y ∈ scope.names, y.2 = .free → ∃ c, X.env.cells.lookup y.1 = some c)
    (h : ∀ (f c' : Addr) (pm ctv : Value) (H1 : Hp) (s' : Shared), L2.Inv X pins σ H1 s' → (∀ b o, b ≠ P → s.heap.get? b = some o → s'.heap.get? b = some o) → (∀ b o, b ≠ P → H b = some o → H1 b = some o) → LamX.Tabs T H1 →
      s'.heap.get? f = some (PySem.W.kla_obj "<lambda>" (X.env.qual ++ "<lambda>") params body scope (cloFrom X.env.cells scope.names []) pm c' ctv) → FpOk X pins H1 f → H1 c' = some (LamX.CodeO c' (X.env.qual ++ "<lambda>")) → Q (.ref f) s') :
    wpAny (model X.prog X.w) X.A (eval (.Lambda params body scope pos) X.env) Q E s := by
  have tb := tabs _ mem
  obtain ⟨qs, atP, tri, among⟩ := tb
  refine PySem.W.kla_eval hdef ?_
  have built : s.heap.BuiltinsAt X.mg P := B.bm.keeps I.bk
  have objP : s.heap.get? P = some { cls := .none, data := .fields qs } := I.hok P _ atP
  have glb := I.mod.glob.keeps I.bk
  have cdh := B.code.keeps I.bk
  cases found : codeAmong pos qs.toList with
  | some cv =>
    obtain ⟨c', e, code⟩ := among pos cv found
    subst e
    refine PySem.W.kla_makeFunctionHit (c := c) (P := P) (ps := qs) (mg := X.mg) (closure_ok hfree) I.ok.glob glb hcode cdh objP tri found built fun ctv h' tk kept size => ?_
    have J : L2.Inv X pins σ H { s with heap := h'.push (PySem.W.kla_obj "<lambda>" (X.env.qual ++ "<lambda>") params body scope (cloFrom X.env.cells scope.names []) ((X.mg "__name__").getD .none) c' ctv), toks := tk } :=
      I.kept fun b o e => Heap.get?_push_of_some _ (kept b o e)
    refine h _ c' _ ctv H _ J (fun b o _ e => Heap.get?_push_of_some _ (kept b o e)) (fun _ _ _ e => e) tabs (Heap.get?_push_size _ rfl) (I.fpOk size (I.hok.fresh size)) code
  | none =>
    refine PySem.W.kla_makeFunction (c := c) (P := P) (ps := qs) (mg := X.mg) (closure_ok hfree) I.ok.glob glb hcode cdh objP tri found B.gP built fun c' ctv h' tk ext big small rec table => ?_
    obtain ⟨c2, oc, fields, t, e2, g1, g2, g3⟩ := rec
    cases e2
    have size : s.heap.objs.size ≤ h'.objs.size := Nat.le_of_lt (Nat.lt_of_le_of_lt big small)
    have newC : H c' = none := I.hok.fresh big
    have ne1 : ∀ b o, H b = some o → b ≠ c' := fun b o e => ne_of_none e newC
    have J := LamX.inv_table (t' := tk) (more := #[rawInt pos.line, rawInt pos.col, .ref c']) (h' := h'.push (PySem.W.kla_obj "<lambda>" (X.env.qual ++ "<lambda>") params body scope (cloFrom X.env.cells scope.names []) ((X.mg "__name__").getD .none) c' ctv))
      I atP (fun b o hb e => Heap.get?_push_of_some _ (ext b o hb e)) (Heap.get?_push_of_some _ table) big ⟨oc, fields, t, Heap.get?_push_of_some _ g1, g2, g3⟩
    have same : ∀ b o, b ≠ P → H b = some o → upd (upd H P (.tbl (qs ++ #[rawInt pos.line, rawInt pos.col, .ref c']))) c' (LamX.CodeO c' (X.env.qual ++ "<lambda>")) b = some o := fun b o hb e => by
      rw [upd_ne (ne1 b o e), upd_ne hb]
      exact e
    have codeP : ∀ d q, H d = some (LamX.CodeO d q) → d ≠ P := fun d q e z => by
      rw [z, atP] at e
      exact LamX.codeO_ne _ (Option.some.inj e).symm
    have atP2 : upd (upd H P (.tbl (qs ++ #[rawInt pos.line, rawInt pos.col, .ref c']))) c' (LamX.CodeO c' (X.env.qual ++ "<lambda>")) P = some (.tbl (qs ++ #[rawInt pos.line, rawInt pos.col, .ref c'])) := by
      rw [upd_ne (ne1 P _ atP), upd_same]
    have grown : (qs ++ #[rawInt pos.line, rawInt pos.col, .ref c']).toList = qs.toList ++ [rawInt pos.line, rawInt pos.col, .ref c'] := by simp
    refine h _ c' _ ctv _ _ J (fun b o hb e => Heap.get?_push_of_some _ (ext b o hb e)) same (fun p hp => ?_) (Heap.get?_push_size _ rfl) (I.fpOk size ?_) upd_same
    · by_cases hb : p.1 = P
      · rw [one p hp hb, hb]
        refine ⟨_, atP2, by rw [grown]; exact PySem.TriplesOk_snoc _ _ _ _ tri, fun p' cv hcv => ?_⟩
        rw [grown] at hcv
        rcases LamX.among_app _ tri hcv with z | z
        · obtain ⟨d, e1, e3⟩ := among p' cv z
          exact ⟨d, e1, same _ _ (codeP _ _ e3) e3⟩
        · exact ⟨c', z, upd_same⟩
      · obtain ⟨rs, a1, a2, a3⟩ := tabs p hp
        refine ⟨rs, same _ _ hb a1, a2, fun p' cv hcv => ?_⟩
        obtain ⟨d, e1, e3⟩ := a3 p' cv hcv
        exact ⟨d, e1, same _ _ (codeP _ _ e3) e3⟩
    · have n1 : h'.objs.size ≠ c' := Nat.ne_of_gt small
      have n2 : h'.objs.size ≠ P := Nat.ne_of_gt (Nat.lt_of_lt_of_le (Heap.lt_size objP) size)
      rw [upd_ne n1, upd_ne n2]
      exact I.hok.fresh size
end
/-! ### the world behind the making -/
section
variable {G : Gm} {W : Wd} {H H1 : Hp} {env : Env} {σ : L2.St} {p : PenSt}
theorem wok_tb (w : WOk G W p H) (k : ∀ b o, Ntb o → H b = some o → H1 b = some o) (T : LamX.Tabs G.tb H1) (tk : ∀ a, H a ≠ none → H1 a ≠ none) : WOk G W p H1 := by
  refine ⟨⟨T, w.tb.2⟩, fun a z => tk a (w.trk a z), fun q hq => ?_, w.rw.len, w.rw.nd, fun j a ej => ?_⟩
  · obtain ⟨h1, h2, c, h3, h4, h5⟩ := w.pen q hq
    exact ⟨h1, h2, c, h3, k _ _ (fun _ z => by cases z) h4, k _ _ (fun _ z => by cases z) h5⟩
  · obtain ⟨h1, h2, ns, h3, h4⟩ := w.rw.at_ j a ej
    exact ⟨h1, h2, ns, h3, k _ _ (fun _ z => by cases z) h4⟩
theorem tr_tb {A : Addr → Prop} (k : ∀ b o, Ntb o → H b = some o → H1 b = some o) (tk : ∀ a, H a ≠ none → H1 a ≠ none) : Tr A W H W H1 :=
  ⟨fun a o _ nt e => k a o nt e, tk, rfl, fun _ _ e => e, fun _ e => .inl e, fun _ e => e, fun _ e => .inl e⟩
/-! ### the keys -/
def keysL (i : Nat) (fe : FV D) (env : Env) : List Int → PenSt → Option (List Int × PenSt)
  | [], p => some ([], p)
  | n :: ns, p => match fe (env.set i (.sh (.int n))) p with
    | some (.int k, p) => (keysL i fe env ns p).map fun z => (k :: z.1, z.2)
    | _ => none
theorem keysL_len {i : Nat} {fe : FV D} : ∀ {ns : List Int} {p p' : PenSt} {kz : List Int}, keysL i fe env ns p = some (kz, p') → kz.length = ns.length
  | [], _, _, _, h => by cases h; rfl
  | n :: ns, p, p', kz, h => by
    unfold keysL at h
    split at h
    · rename_i k p1 q
      cases h1 : keysL i fe env ns p1 with
      | none => rw [h1] at h; cases h
      | some z =>
        rw [h1] at h
        cases h
        rw [List.length_cons, List.length_cons, keysL_len h1]
    · cases h
theorem keysL_at {fe : FV D} {ix : Nat} : ∀ {ns : List Int} {p p' : PenSt} {kz : List Int} {i : Nat} {n k : Int}, ns[i]? = some n → kz[i]? = some k → (∃ pc, keysL ix fe env (ns.drop i) pc = some (kz.drop i, p') ∧ pc = p) →
    ∃ p1, fe (env.set ix (.sh (.int n))) p = some (.int k, p1) ∧ keysL ix fe env (ns.drop (i + 1)) p1 = some (kz.drop (i + 1), p') := fun {ns p p' kz i n k} hn hk ⟨pc, h, e⟩ => by
  subst e
  obtain ⟨l1, e1⟩ := List.getElem?_eq_some_iff.mp hn
  obtain ⟨l2, e2⟩ := List.getElem?_eq_some_iff.mp hk
  rw [List.drop_eq_getElem_cons l1, List.drop_eq_getElem_cons l2, e1, e2] at h
  unfold keysL at h
  split at h
  · rename_i k' p1 q
    cases h1 : keysL ix fe env (ns.drop (i + 1)) p1 with
    | none => rw [h1] at h; cases h
    | some z =>
      rw [h1] at h
      have h := Option.some.inj h
      have h2 := congrArg Prod.fst h
      have h3 := congrArg Prod.snd h
      simp only [List.cons.injEq] at h2 h3
      obtain ⟨rfl, h2⟩ := h2
      refine ⟨p1, q, ?_⟩
      rw [h1]
      exact congrArg some (Prod.ext h2 h3)
  · cases h
end
end Cr
namespace Cr
open PySem PySem.Spec PyProof.Rows L2
/-- what the maker of a lambda is asked for -/
structure LamM (X : Cx) (G : Gm) (params : Arguments) (scope : Scope) (x : Str) (i : Nat) : Prop where
  tab : ∃ c P, LamX.TabB X.base X.mg c P ∧ X.env.code = .ref c ∧ (P, X.env.qual ++ "<lambda>") ∈ G.tb ∧ ∀ p ∈ G.tb, p.1 = P → p.2 = X.env.qual ++ "<lambda>"
  df : defaultsOf params X.env = ([], [])
  sc : LamS1 X.env.scope scope x
  ix : X.N[i]? = some x
  nd : X.N.Nodup
def LamB (X : Cx) (params : Arguments) (body : Expr) (scope : Scope) (x : Str) : Prop := ∀ (pm cv ctv u : Value), bindArgs (PySem.W.kla_fn "<lambda>" (X.env.qual ++ "<lambda>") params body scope (cloFrom X.env.cells scope.names []) pm cv ctv) ⟨[u], []⟩ = pure [(x, u)]
section
variable {X : Cx} {pins : List (Addr × Obj)} {G : Gm} {W : Wd} {H : Hp} {env : Env} {σ : L2.St} {p p' : PenSt} {s : Shared} {Q : VK} {fe : FV D}
theorem code_notPen {c : Addr} {q : Str} (w : WOk G W p H) (e : H c = some (LamX.CodeO c q)) : ¬ penA G W c := fun z => by
  unfold LamX.CodeO at e
  rcases z with z | z | ⟨y, z⟩
  · obtain ⟨_, _, _, _, _, h⟩ := w.pen c z
    rw [e] at h
    cases h
  · obtain ⟨_, _, ns, h⟩ := w.rw.mem z
    rw [e] at h
    cases h
  · obtain ⟨ps, h, _⟩ := w.tb.1 _ z
    rw [e] at h
    cases h
theorem sortK_core {params : Arguments} {body : Expr} {scope : Scope} {x : Str} {i k : Nat} {xv : Value} {ns kz : List Int} {pos lpos kpos : Pos} (I : L2.Inv X pins σ H s) (hR : R G W env p σ H) (M : LamM X G params scope x i) (hbind : LamB X params body scope x) (hr : Room (k + 3) X.A)
    (hbody : ∀ (A : Around) (s : Shared) (H : Hp) (f c' : Addr), Room k (A.deeper (LamX.lamEnv X scope s.heap.objs.size f c')) → PE (lamCx1 X A X.stack s H scope f c') body (tE G fe))
    (hcol : ∀ (s2 : Shared) (H2 : Hp) (l : List (Addr × Obj)), L2.Inv X (pins ++ l) σ H2 s2 → (∀ b o, Ntb o → H b = some o → H2 b = some o) → (∀ (b : Addr) (o : Obj), o.cls ≠ .none → s.heap.get? b = some o → s2.heap.get? b = some o) → ∀ Q' : List Value → Shared → Prop, (∀ (h1 : Heap) (tk : Nat) (vs : List Value), (∀ b o, s2.heap.get? b = some o → h1.get? b = some o) → IntsAre vs ns → Q' vs { s2 with heap := h1, toks := tk }) → wpAny (model X.prog X.w) X.A.in1 (collect xv) Q' X.xe s2)
    (hk : keysL i fe env ns p = some (kz, p')) (hz : ns.length ≤ sizeLine)
    (K : ∀ W2 H2 D, Tr (penA G W) W H W2 H2 → R G W2 env p' σ H2 → H2 D = none → Q (.ref D) (upd H2 D (.lst ((kSort kz ns).map V.int)))) :
    wpAny (model X.prog X.w) X.A (evalAll ((backToKw pos (keywordEach [⟨some (Str.ofString "key"), .Lambda params body scope lpos, kpos⟩] X.env)).map (·.2)))
      (fun kvs s2 => wpAny (model X.prog X.w) X.A (call (.builtin "sorted") [xv] (((backToKw pos (keywordEach [⟨some (Str.ofString "key"), .Lambda params body scope lpos, kpos⟩] X.env)).filterMap (·.1)).zip kvs)) (EP X pins σ Q) X.xe s2) X.xe s := by
  obtain ⟨c, P, B, hcode, mem, one⟩ := M.tab
  show wpAny _ _ (evalAll [(do let v ← eval (.Lambda params body scope lpos) X.env; standAt pos; pure v)]) _ _ s
  refine wpAny_evalAll_cons (wpAny_bind (lam_mk I B hcode mem one hR.ok.tb.1 M.df (M.sc.has I.ok) fun f c' pm ctv H1 s1 I1 stay same tabs hf fo code => wpAny_bind (wpAny_standAt (wpAny_pure (wpAny_evalAll_nil ?_)))))
  obtain ⟨qs, atP, _⟩ := hR.ok.tb.1 _ mem
  have kept : ∀ b o, Ntb o → H b = some o → H1 b = some o := fun b o nt e => same b o (fun z => by
    rw [z, atP] at e
    exact nt qs (Option.some.inj e).symm) e
  have stay2 : ∀ (b : Addr) (o : Obj), o.cls ≠ .none → s.heap.get? b = some o → s1.heap.get? b = some o := fun b o nc e => stay b o (fun z => by
    have e2 : s.heap.get? P = some { cls := .none, data := .fields qs } := I.hok P _ atP
    rw [z, e2] at e
    cases e
    exact nc rfl) e
  have tk : ∀ a, H a ≠ none → H1 a ≠ none := fun a n => by
    by_cases z : a = P
    · obtain ⟨rs, a1, _⟩ := tabs _ mem
      rw [z]
      exact fun y => by rw [a1] at y; cases y
    · cases e : H a with
      | none => exact absurd e n
      | some o => rw [same a o z e]; exact fun y => by cases y
  have t1 : Tr (penA G W) W H W H1 := tr_tb kept tk
  have w1 : WOk G W p H1 := wok_tb hR.ok kept tabs tk
  have R1 := hR.step t1 w1
  have Ip : L2.Inv X (pins ++ [(f, PySem.W.kla_obj "<lambda>" (X.env.qual ++ "<lambda>") params body scope (cloFrom X.env.cells scope.names []) pm c' ctv)]) σ H1 s1 := I1.pins_of fun q hq => (List.mem_append.mp hq).elim (fun z => I1.pin q (List.mem_append_right _ z)) fun z => by
    rw [List.mem_singleton] at z
    subst z
    exact ⟨hf, fo.1, fo.2.1, fo.2.2.1, fun v z => by cases z⟩
  have hlt : i < env.length := by
    rw [hR.len, I.len]
    exact (List.getElem?_eq_some_iff.mp M.ix).1
  have kl := keysL_len hk
  show wpAny _ _ (call (.builtin "sorted") [xv] [(Str.ofString "key", .ref f)]) _ _ _
  refine wpAny_mono (sorted_key (P := fun j H' => ∃ W' pc, Tr (penA G W) W H1 W' H' ∧ WOk G W' pc H' ∧ keysL i fe env (ns.drop j) pc = some (kz.drop j, p')) (kz := kz) (Q := Q) Ip (hcol _ _ _ Ip kept stay2) kl hz (fun j n kk t hn hkk s2 H' l I2 ⟨W', pc, t2, w2, hkeys⟩ => ?_) ⟨W, p, Tr.refl, w1, by rw [List.drop_zero, List.drop_zero]; exact hk⟩ fun H' D ⟨W', pc, t2, w2, hkeys⟩ hD => ?_) (fun u s3 ⟨v, H3, I3, rv, q⟩ => ⟨v, H3, I3.unpinned, rv, q⟩) fun _ _ e => e
  · obtain ⟨p1, hfe, hrest⟩ := keysL_at hn hkk ⟨pc, hkeys, rfl⟩
    have R2 := R1.step t2 w2
    have R3 := (R2.setSh (v := .int n) hlt (.int n)).1
    have hf2 : s2.heap.get? f = some (PySem.W.kla_obj "<lambda>" (X.env.qual ++ "<lambda>") params body scope (cloFrom X.env.cells scope.names []) pm c' ctv) := (I2.pin (f, _) (List.mem_append_right _ (List.mem_append_left _ (List.mem_append_right _ (List.mem_singleton.mpr rfl))))).1
    have code2 : H' c' = some (LamX.CodeO c' (X.env.qual ++ "<lambda>")) := t2.kp c' _ (code_notPen w1 code) (fun ps z => LamX.codeO_ne ps z) code
    refine wpAny_mono (lam_call (A := X.A.in1.in1) (tb := tE G fe) (k := k) (v := .int n) (u := .int n t) (Q := fun v H'' => v = V.int kk ∧ ∃ W'' pc', Tr (penA G W) W H1 W'' H'' ∧ WOk G W'' pc' H'' ∧ keysL i fe env (ns.drop (j + 1)) pc' = some (kz.drop (j + 1), p')) I2 M.sc M.ix M.nd hf2 code2 rfl hr.in1.in1 (hbind _ _ _ _) (fun hr2 => hbody _ _ _ _ _ hr2) ⟨t, rfl⟩ ?_) (fun u s3 ⟨v, H3, I3, rv, e, q⟩ => ?_) fun _ _ e => e
    · refine ⟨W', _, pc, _, p1, R3, hfe, fun W'' H'' v t3 R4 q3 => ?_⟩
      cases q3
      exact ⟨rfl, W'', p1, t2.then t3, R4.ok, hrest⟩
    · subst e
      obtain ⟨t', rfl⟩ := rv
      exact ⟨H3, t', rfl, q, I3⟩
  · rw [List.drop_length] at hkeys
    have e : pc = p' := congrArg Prod.snd (Option.some.inj (show some (([] : List Int), pc) = some (kz.drop ns.length, p') from hkeys))
    subst e
    exact K W' H' D (t1.then t2) (R1.step t2 w2) hD
/-- sorted(xs, key=lambda x: e), xs a list of ints -/
def fSortK (i : Nat) (fa fe : FV D) : FV D := fun env p => match fa env p with
  | some (.lst ds, p) => (match intsD ds with
    | some ns => (match keysL i fe env ns p with
      | some (kz, p) => if ns.length ≤ 16777216 then some (.lst ((kSort kz ns).map D.int), p) else none
      | none => none)
    | none => none)
  | _ => none
theorem new_ints {ns : List Int} {d : Addr} (R2 : R G W env p σ H) (hD : H d = none) (k : PostV G W env σ H p (NewP G H (.lst (ns.map D.int))) Q) : Q (.ref d) (upd H d (.lst (ns.map V.int))) := k.newL R2 hD rfl (Reps.ofInts _)
theorem n_sortK {a : Expr} {fa : FV D} {params : Arguments} {body : Expr} {scope : Scope} {x : Str} {i k : Nat} {p0 pos lpos kpos : Pos} (hg : Gl X "sorted") (hm : X.mg "sorted" = none) (ha : PE X a (tB G fa)) (M : LamM X G params scope x i) (hbind : LamB X params body scope x) (hr : Room (k + 3) X.A)
    (hbody : ∀ (A : Around) (s : Shared) (H : Hp) (f c' : Addr), Room k (A.deeper (LamX.lamEnv X scope s.heap.objs.size f c')) → PE (lamCx1 X A X.stack s H scope f c') body (tE G fe))
    (hs : starEach [a] X.env = (false, eval a X.env) :: starEach [] X.env := by rfl) (he : backTo pos (starEach [a] X.env) = (false, eval a X.env) :: backTo pos (starEach [] X.env) := by rfl) (hpl : (backTo pos (starEach [a] X.env)).any (·.1) = false := by rfl) :
    PE X (.Call (.Name "sorted" p0) [a] [⟨some (Str.ofString "key"), .Lambda params body scope lpos, kpos⟩] pos) (tN G (fSortK i fa fe)) := by
  refine ⟨fun pins s σ H Q I ⟨W, env, p, r, p', hR, hf, kQ⟩ => ?_⟩
  unfold fSortK at hf
  split at hf
  · rename_i ds p1 q1
    split at hf
    · rename_i ns hi
      split at hf
      · rename_i kz p2 hk
        split at hf
        · rename_i hz
          cases hf
          refine wpAny_Call_Name_kw (ld_blt I hg hm boot_sorted_ ?_)
          refine PyProof.Rows.callWith_kw ?_ he hpl rfl rfl
          refine wpAny_mono ((pa_cons ha pa_nil hs).run pos pins s σ H (fun vs H1 => ∃ W1 v, vs = [v] ∧ Tr (penA G W) W H W1 H1 ∧ R G W1 env p1 σ H1 ∧ RepB G W1 env σ H1 v (.lst ds)) I ⟨W, env, p, _, p1, hR, q1, fun W1 H1 v t1 R1 rv => ⟨W1, v, rfl, t1, R1, rv⟩⟩) (fun us s1 ⟨vs, H1, I1, r1, W1, v, ev, t1, R1, rv⟩ => ?_) fun _ _ e => e
          subst ev
          rw [intsD_some hi] at rv
          obtain ⟨l, xs, rfl, el, rx⟩ := rv.lst
          rw [rx.ints] at el
          rw [Vals.ref1 r1]
          refine sortK_core I1 R1 M hbind hr hbody (fun s2 H2 l2 I2 kept _ Q' hQ => ?_) hk (by rw [sizeLine_eq]; exact hz) fun W2 H2 D t2 R2 hD => new_ints R2 hD fun W3 H3 u t3 R3 q3 => kQ W3 H3 u ((t1.then t2).then t3) R3 (q3.back fun y z => t2.tk y (t1.tk y z))
          obtain ⟨its, rv2, hl, hzl⟩ := I2.list (SqL.of (kept _ _ (fun _ z => by cases z) el))
          refine collect_list hl.isList (hQ _ s2.toks its (fun b o e => ?_) rv2.ints) (by
            have := rv2.length
            rw [sizeLine_eq] at hzl ⊢
            rw [List.length_map] at this hzl
            omega)
          rw [Heap.get?_update_ne _ _ _ _ (Nat.ne_of_lt (Heap.lt_size e))]
          exact Heap.get?_push_of_some _ e
        · cases hf
      · cases hf
    · cases hf
  · cases hf
def rgI (r : Int × Int) : List Int := (List.range (r.2 - r.1).toNat).map fun i => r.1 + ((i : Nat) : Int)
theorem ints_rg {lo hi : Int} {acc : Array Value} (h : ItemsOf (fun i v => ∃ t, v = Value.int (lo + (i : Int) * 1) t) acc (hi - lo).toNat) : IntsAre acc.toList (rgI (lo, hi)) := by
  have := vals_rg h
  have e : rgV lo hi = (rgI (lo, hi)).map V.int := by unfold rgV rgI; rw [List.map_map]; rfl
  rw [e] at this
  exact this.ints
/-- sorted(range(..), key=lambda x: e) -/
def fSortKR (i : Nat) (fr : FV (Int × Int)) (fe : FV D) : FV D := fun env p => match fr env p with
  | some (r, p) => if rgOk r = true then (match keysL i fe env (rgI r) p with
      | some (kz, p) => if (rgI r).length ≤ 16777216 then some (.lst ((kSort kz (rgI r)).map D.int), p) else none
      | none => none) else none
  | none => none
theorem n_sortKR {a : Expr} {fr : FV (Int × Int)} {params : Arguments} {body : Expr} {scope : Scope} {x : Str} {i k : Nat} {p0 pos lpos kpos : Pos} (hc : X.calm = true) (hg : Gl X "sorted") (hm : X.mg "sorted" = none) (ha : PRg X a (tRg G fr)) (M : LamM X G params scope x i) (hbind : LamB X params body scope x) (hr : Room (k + 3) X.A)
    (hbody : ∀ (A : Around) (s : Shared) (H : Hp) (f c' : Addr), Room k (A.deeper (LamX.lamEnv X scope s.heap.objs.size f c')) → PE (lamCx1 X A X.stack s H scope f c') body (tE G fe))
    (hs : starEach [a] X.env = (false, eval a X.env) :: starEach [] X.env := by rfl) (he : backTo pos (starEach [a] X.env) = (false, eval a X.env) :: backTo pos (starEach [] X.env) := by rfl) (hpl : (backTo pos (starEach [a] X.env)).any (·.1) = false := by rfl) :
    PE X (.Call (.Name "sorted" p0) [a] [⟨some (Str.ofString "key"), .Lambda params body scope lpos, kpos⟩] pos) (tN G (fSortKR i fr fe)) := by
  refine ⟨fun pins s σ H Q I ⟨W, env, p, r, p', hR, hf, kQ⟩ => ?_⟩
  unfold fSortKR at hf
  split at hf
  · rename_i rr p1 q1
    split at hf
    · rename_i hok
      split at hf
      · rename_i kz p2 hk
        split at hf
        · rename_i hz
          cases hf
          refine wpAny_Call_Name_kw (ld_blt I hg hm boot_sorted_ ?_)
          refine PyProof.Rows.callWith_kw ?_ he hpl rfl rfl
          refine args_cons (wpAny_mono (ha pins s σ H (fun lo hi H1 => lo = rr.1 ∧ hi = rr.2 ∧ ∃ W1, Tr (penA G W) W H W1 H1 ∧ R G W1 env p1 σ H1) I ⟨W, env, p, rr, p1, hR, q1, fun W1 H1 t1 R1 => ⟨rfl, rfl, W1, t1, R1⟩⟩) (fun xv s1 ⟨ra, lo, hi, t, u, v, H1, ex, hrg, I1, e1, e2, W1, t1, R1⟩ => args_nil ?_) fun _ _ e => e) hs
          subst ex e1 e2
          obtain ⟨b1, b2, b3, b4, b5⟩ := rgOk_of hok
          refine sortK_core I1 R1 M hbind hr hbody (fun s2 H2 l2 I2 _ stay Q' hQ => ?_) hk (by rw [sizeLine_eq]; exact hz) fun W2 H2 D t2 R2 hD => new_ints R2 hD fun W3 H3 u t3 R3 q3 => kQ W3 H3 u ((t1.then t2).then t3) R3 (q3.back fun y z => t2.tk y (t1.tk y z))
          refine collect_range (n := (rr.2 - rr.1).toNat) (I2.ok.hd hc) (stay _ _ (fun z => by cases z) hrg) (small_one b1 b2 b3 b4) (rangeSize_nat rr.1 rr.2) b5 fun h' tk acc kk hi => hQ h' tk acc.toList kk (ints_rg hi)
        · cases hf
      · cases hf
    · cases hf
  · cases hf
end
end Cr
/-! ## defs that make lambdas -/
namespace Cr
open PySem L2
section
variable {P : Program} {w : World} {K : PySem.W.Frag} {mg : Str → Option Value} {base : Heap} {G : Gm} {g : FS}
theorem code_is {x qual : Str} {st : Stmt} {f : Addr} {fd : FuncData} {pd : He.Defn} (F : L2.Fun K x qual st f fd) (hf : f = He.fAd K pd) : fd.code = .ref (He.cT K pd).1 := by
  obtain ⟨oc, od, kV, doc, pm, an, cdv, ct, osl, rfl, lk, hcd⟩ := F.ex
  obtain ⟨c, rfl⟩ := He.codeIn_ref hcd
  subst hf
  have := He.codeOf_eq lk rfl
  show Value.ref c = .ref (He.codeOf K pd)
  rw [this]
/-- a def that keeps to a function; its code object is known -/
theorem fn_okL {x qual : Str} {st : Stmt} {f : Addr} {fd : FuncData} {N ps : List Str} {k : Nat} {pd : He.Defn} (F : L2.Fun K x qual st f fd) (hf : f = He.fAd K pd) (S : FnScope N ps (defScope st))
    (hb : ∀ (cdv : Value) (A : Around) (outer : List PySem.Env) (s : Shared) (H : Hp) (E : XK), cdv = .ref (He.cT K pd).1 → Room k (A.deeper (PyProof.Rows.envOfC qual (defScope st) s.heap.objs.size f cdv)) → PSs (cxOf CX0 P w K mg base N qual (defScope st) f cdv A outer s H E).nox (defBody st) (tS G g)) :
    FnOk P w K mg base CX0 (k + 1) f fd ps (spM G ps.length (mOf N.length g)) := by
  have hpl : ps.length ≤ N.length := by have := congrArg List.length S.pre; rw [List.length_take] at this; omega
  have hc := code_is F hf
  obtain ⟨oc, od, kV, doc, pm, an, cdv, ct, osl, rfl, lk, hcd⟩ := F.ex
  refine fn_of lk hcd S (fun vs H Q E ⟨W, p, ds, r, p', w, h, hl, _⟩ => by rw [h.len, hl]) fun A outer s H vs Q E hr ⟨W, p, ds, r, p', w, h, hl, hm, kk⟩ => ⟨_, (hb cdv A outer s H E hc hr).nox, ?_⟩
  unfold mOf at hm
  have R0 : R G W (begin_ N.length ds) p (L2.start N vs) H := begin_R w h (by omega)
  have t0 : ∀ {W' : Cr.Wd} {H' : Hp}, Tr (ownA G W (begin_ N.length ds) (L2.start N vs)) W H W' H' → Tr (penA G W) W H W' H' := fun {W' H'} t => t.mono fun a z => z.elim id fun z => absurd z begin_own
  split at hm
  · rename_i d p1 q
    cases hm
    exact ⟨W, _, p, _, R0, q, fun W' H' v t w' rv => kk W' H' v (t0 t) w' rv⟩
  · rename_i e1 p1 q
    cases hm
    exact ⟨W, _, p, _, R0, q, fun W' σ' H' t R' _ => kk W' H' _ (t0 t) R'.ok .non⟩
  · cases hm
theorem cal_ofL {k n : Nat} {x : Str} {st : Stmt} {ps : List Str} {m : MF} (d : DefF K mg x st ps) (hm : mg x = some (.ref (He.fAd K (x, none)))) (hn : ps.length = n) (ok : ∀ f fd, L2.Fun K x x st f fd → f = He.fAd K (x, none) → FnOk P w K mg base CX0 k f fd ps (spM G n m)) : Cal P w K mg base G k x n m := by
  obtain ⟨f, fd, F, h1, h2⟩ := d.ex
  have e : f = He.fAd K (x, none) := by
    rw [h1] at hm
    cases hm
    rfl
  exact ⟨f, fd, ps, ok f fd F e, hn, h1, F.kp, h2⟩
/-- a maker's table, as the law's start knows it -/
structure MkT (K : PySem.W.Frag) (mg : Str → Option Value) (base : Heap) (G : Gm) (x : Str) (q : Str) : Prop where
  at_ : mg x = some (.ref (He.fAd K (x, none)))
  tab : LamX.TabB base mg (He.cT K (x, none)).1 (He.cT K (x, none)).2
  mem : ((He.cT K (x, none)).2, q) ∈ G.tb
  one : ∀ p ∈ G.tb, p.1 = (He.cT K (x, none)).2 → p.2 = q
theorem lamM_of {X : Cx} {x y q : Str} {params : Arguments} {scope : Scope} {i : Nat} (M : MkT X.K X.mg X.base G x q) (hc : X.env.code = .ref (He.cT X.K (x, none)).1) (hq : X.env.qual ++ "<lambda>" = q) (df : defaultsOf params X.env = ([], [])) (sc : lamS1B X.env.scope scope y = true) (ix : X.N[i]? = some y) (nd : X.N.Nodup) : LamM X G params scope y i :=
  ⟨⟨_, _, M.tab, hc, hq ▸ M.mem, hq ▸ M.one⟩, df, lamS1_by sc, ix, nd⟩
end
/-- no table is told by two names -/
def tbOk (tf : List He.Defn) (K : PySem.W.Frag) : Bool := (tbK K tf).all fun p => (tbK K tf).all fun q => !decide (p.1 = q.1) || decide (p.2 = q.2)
def exB2 (cs : List (String × Str)) (fs : List Str) (tf : List He.Defn) (K : PySem.W.Frag) : Bool := exB cs fs K && tbOk tf K
section
variable {K : PySem.W.Frag} {cs : List (String × Str)} {fs : List Str} {tf : List He.Defn}
theorem exB2_1 (h : exB2 cs fs tf K = true) : exB cs fs K = true := (He.ba h).1
theorem mk_of {mg : Str → Option Value} {base : Heap} {x q : Str} {l : List (String × Addr)} (h : exB2 cs fs tf K = true) (hT : ∀ p ∈ tf, LamX.TabB base mg (He.cT K p).1 (He.cT K p).2) (hx : (x, none) ∈ tf) (hq : x ++ ".<locals>.<lambda>" = q) (hm : mg x = some (.ref (He.fAd K (x, none)))) : MkT K mg base (gmOf l (tbK K tf)) x q := by
  have mem : ((He.cT K (x, none)).2, q) ∈ tbK K tf := List.mem_map.mpr ⟨(x, none), hx, by rw [← hq]⟩
  refine ⟨hm, hT _ hx, mem, fun p hp e => ?_⟩
  have := List.all_eq_true.mp (List.all_eq_true.mp (He.ba h).2 p hp) _ mem
  simp only [Bool.or_eq_true, Bool.not_eq_true', decide_eq_false_iff_not, decide_eq_true_eq] at this
  exact this.elim (fun z => absurd e z) id
end
end Cr
/-! ## mirrors read: what is asked of a run's outcome -/
namespace Cr
open PySem L2
def Yes {α : Type} (x : Option (α × PenSt)) (Q : α → PenSt → Prop) : Prop := ∃ r p', x = some (r, p') ∧ Q r p'
def YesS (x : Option Out) (Q : Out → Prop) : Prop := ∃ o, x = some o ∧ Q o
def YesO {α : Type} (x : Option α) (Q : α → Prop) : Prop := ∃ o, x = some o ∧ Q o
section
variable {α β : Type} {Q : α → PenSt → Prop} {p p' : PenSt} {r : α} {x : Option (α × PenSt)} {o : Out} {R : Out → Prop}
@[simp] theorem yes_some : Yes (some (r, p)) Q ↔ Q r p := ⟨fun ⟨_, _, e, h⟩ => by cases e; exact h, fun h => ⟨r, p, rfl, h⟩⟩
theorem yes_z {z : α × PenSt} : Yes (some z) Q ↔ Q z.1 z.2 := by
  obtain ⟨a, b⟩ := z
  exact yes_some
@[simp] theorem yes_none : Yes (none : Option (α × PenSt)) Q ↔ False := ⟨fun ⟨_, _, e, _⟩ => (by cases e), False.elim⟩
@[simp] theorem yesS_some : YesS (some o) R ↔ R o := ⟨fun ⟨_, e, h⟩ => by cases e; exact h, fun h => ⟨o, rfl, h⟩⟩
@[simp] theorem yesS_none : YesS none R ↔ False := ⟨fun ⟨_, e, _⟩ => (by cases e), False.elim⟩
@[simp] theorem yesO_some {a : α} {Q : α → Prop} : YesO (some a) Q ↔ Q a := ⟨fun ⟨_, e, h⟩ => by cases e; exact h, fun h => ⟨a, rfl, h⟩⟩
@[simp] theorem yesO_none {Q : α → Prop} : YesO (none : Option α) Q ↔ False := ⟨fun ⟨_, e, _⟩ => (by cases e), False.elim⟩
theorem Yes.mono {Q' : α → PenSt → Prop} (h : Yes x Q) (k : ∀ r p, Q r p → Q' r p) : Yes x Q' := by
  obtain ⟨r, p, e, q⟩ := h
  exact ⟨r, p, e, k r p q⟩
theorem YesS.mono {x : Option Out} {R' : Out → Prop} (h : YesS x R) (k : ∀ o, R o → R' o) : YesS x R' := by
  obtain ⟨r, e, q⟩ := h
  exact ⟨r, e, k r q⟩
theorem yes_eq (h : Yes x fun r' p' => r' = r ∧ p' = p) : x = some (r, p) := by
  obtain ⟨r', p', e, rfl, rfl⟩ := h
  exact e
theorem eq_yes (h : x = some (r, p)) (k : Q r p) : Yes x Q := ⟨r, p, h, k⟩
theorem yes_at (h : x = some (r, p)) : Yes x Q ↔ Q r p := by rw [h]; exact yes_some
@[simp] theorem yes_bind {x : Option (β × PenSt)} {f : β × PenSt → Option (α × PenSt)} : Yes (x.bind f) Q ↔ Yes x fun r p => Yes (f (r, p)) Q := by
  cases x with
  | none => simp
  | some z => obtain ⟨a, b⟩ := z; simp
@[simp] theorem yes_map {x : Option (β × PenSt)} {f : β × PenSt → α × PenSt} : Yes (x.map f) Q ↔ Yes x fun r p => Q (f (r, p)).1 (f (r, p)).2 := by
  cases x with
  | none => simp
  | some z =>
    obtain ⟨a, b⟩ := z
    exact ⟨fun h => ⟨a, b, rfl, yes_z.mp h⟩, fun ⟨r, p, e, q⟩ => by cases e; exact yes_z.mpr q⟩
@[simp] theorem yesO_bind {x : Option α} {f : α → Option β} {Q : β → Prop} : YesO (x.bind f) Q ↔ YesO x fun r => YesO (f r) Q := by
  cases x <;> simp
end
section
variable {env : Env} {p : PenSt} {f fa fb fc g : FV D} {Q : D → PenSt → Prop} {G : D → D → Option D}
@[simp] theorem y_f2 : Yes (f2 G fa fb env p) Q ↔ Yes (fa env p) fun x p => Yes (fb env p) fun y p => YesO (G x y) fun r => Q r p := by
  unfold f2
  cases h1 : fa env p with
  | none => simp
  | some z =>
    obtain ⟨x, p1⟩ := z
    simp only [Option.bind_eq_bind, Option.bind_some, yes_some]
    cases h2 : fb env p1 with
    | none => simp
    | some z =>
      obtain ⟨y, p2⟩ := z
      simp only [Option.bind_some, yes_some]
      cases h3 : G x y <;> simp
@[simp] theorem y_f1 {G : D → Option D} : Yes (f1 G fa env p) Q ↔ Yes (fa env p) fun x p => YesO (G x) fun r => Q r p := by
  unfold f1
  cases h1 : fa env p with
  | none => simp
  | some z =>
    obtain ⟨x, p1⟩ := z
    simp only [Option.bind_eq_bind, Option.bind_some, yes_some]
    cases h3 : G x <;> simp
@[simp] theorem y_not : Yes (fNot fa env p) Q ↔ Yes (fa env p) fun x p => YesO (gNot x) fun r => Q r p := y_f1
/-- what is asked of a value of truth -/
def onB (x : D) (T F : Prop) : Prop := match x with
  | .bl true => T
  | .bl false => F
  | _ => False
@[simp] theorem onB_bl {b : Bool} {T F : Prop} : onB (.bl b) T F ↔ if b = true then T else F := by cases b <;> simp [onB]
@[simp] theorem y_and : Yes (fAnd fa fb env p) Q ↔ Yes (fa env p) fun x p => onB x (Yes (fb env p) Q) (Q (.bl false) p) := by
  unfold fAnd
  cases h1 : fa env p with
  | none => simp
  | some z =>
    obtain ⟨x, p1⟩ := z
    cases x with
    | bl b => cases b <;> simp
    | _ => simp [onB]
@[simp] theorem y_or : Yes (fOr fa fb env p) Q ↔ Yes (fa env p) fun x p => onB x (Q (.bl true) p) (Yes (fb env p) Q) := by
  unfold fOr
  cases h1 : fa env p with
  | none => simp
  | some z =>
    obtain ⟨x, p1⟩ := z
    cases x with
    | bl b => cases b <;> simp
    | _ => simp [onB]
variable {t t' : FV Bool} {B : Bool → PenSt → Prop}
@[simp] theorem y_if : Yes (fIf t fa fb env p) Q ↔ Yes (t env p) fun b p => if b = true then Yes (fa env p) Q else Yes (fb env p) Q := by
  unfold fIf
  cases h1 : t env p with
  | none => simp
  | some z => obtain ⟨x, p1⟩ := z; cases x <;> simp
@[simp] theorem y_bl : Yes (fBl fa env p) B ↔ Yes (fa env p) fun x p => onB x (B true p) (B false p) := by
  unfold fBl
  cases h1 : fa env p with
  | none => simp
  | some z =>
    obtain ⟨x, p1⟩ := z
    cases x with
    | bl b => cases b <;> simp
    | _ => simp [onB]
@[simp] theorem y_tru : Yes (fTru fa env p) B ↔ Yes (fa env p) fun x p => YesO (truD x) fun b => B b p := by
  unfold fTru
  cases h1 : fa env p with
  | none => simp
  | some z =>
    obtain ⟨x, p1⟩ := z
    simp only [Option.bind_eq_bind, Option.bind_some, yes_some]
    cases h3 : truD x <;> simp
@[simp] theorem y_tnot : Yes (tfNot t env p) B ↔ Yes (t env p) fun b p => B (!b) p := by
  unfold tfNot
  exact yes_map
@[simp] theorem y_tand : Yes (tfAnd t t' env p) B ↔ Yes (t env p) fun b p => if b = true then Yes (t' env p) B else B false p := by
  unfold tfAnd
  cases h1 : t env p with
  | none => simp
  | some z => obtain ⟨x, p1⟩ := z; cases x <;> simp
@[simp] theorem y_tor : Yes (tfOr t t' env p) B ↔ Yes (t env p) fun b p => if b = true then B true p else Yes (t' env p) B := by
  unfold tfOr
  cases h1 : t env p with
  | none => simp
  | some z => obtain ⟨x, p1⟩ := z; cases x <;> simp
@[simp] theorem y_yes : Yes (tfYes env p) B ↔ B true p := by unfold tfYes; simp
@[simp] theorem y_chain {G' : D → D → Option D} : Yes (fChain G G' fa fb fc env p) Q ↔ Yes (fa env p) fun x p => Yes (fb env p) fun y p => YesO (G x y) fun r => onB r (Yes (fc env p) fun z p => YesO (G' y z) fun r => Q r p) (Q (.bl false) p) := by
  unfold fChain
  cases h1 : fa env p with
  | none => simp
  | some z =>
    obtain ⟨x, p1⟩ := z
    simp only [Option.bind_eq_bind, Option.bind_some, yes_some]
    cases h2 : fb env p1 with
    | none => simp
    | some z =>
      obtain ⟨y, p2⟩ := z
      simp only [Option.bind_some, yes_some]
      cases h3 : G x y with
      | none => simp
      | some r =>
        simp only [Option.bind_some, yesO_some]
        cases r with
        | bl b =>
          cases b with
          | false => simp
          | true =>
            simp only [onB_bl, if_true]
            cases h4 : fc env p2 with
            | none => simp
            | some z =>
              obtain ⟨w, p3⟩ := z
              simp only [Option.bind_some, yes_some]
              cases h5 : G' y w <;> simp
        | _ => simp [onB]
variable {A : List D → PenSt → Prop} {ga : FV (List D)}
@[simp] theorem y_anil : Yes (aNil env p) A ↔ A [] p := by unfold aNil; simp
@[simp] theorem y_acons : Yes (aCons fa ga env p) A ↔ Yes (fa env p) fun x p => Yes (ga env p) fun y p => A (x :: y) p := by
  unfold aCons
  cases h1 : fa env p with
  | none => simp
  | some z =>
    obtain ⟨x, p1⟩ := z
    simp only [Option.bind_eq_bind, Option.bind_some, yes_some]
    cases h2 : ga env p1 with
    | none => simp
    | some z => obtain ⟨y, p2⟩ := z; simp
def onSeq (x : D) (A : List D → Prop) : Prop := match x with
  | .tup ds => A ds
  | .lst ds => A ds
  | _ => False
@[simp] theorem onSeq_t {ds : List D} {A : List D → Prop} : onSeq (.tup ds) A ↔ A ds := Iff.rfl
@[simp] theorem onSeq_l {ds : List D} {A : List D → Prop} : onSeq (.lst ds) A ↔ A ds := Iff.rfl
@[simp] theorem y_astar : Yes (aStar fa ga env p) A ↔ Yes (fa env p) fun x p => Yes (ga env p) fun y p => onSeq x fun ds => A (ds ++ y) p := by
  unfold aStar
  cases h1 : fa env p with
  | none => simp
  | some z =>
    obtain ⟨x, p1⟩ := z
    simp only [Option.bind_eq_bind, Option.bind_some, yes_some]
    cases h2 : ga env p1 with
    | none => simp
    | some z =>
      obtain ⟨y, p2⟩ := z
      cases x <;> simp [onSeq]
@[simp] theorem y_tup : Yes (fTup ga env p) Q ↔ Yes (ga env p) fun ds p => ds.length ≤ 16777216 ∧ Q (.tup ds) p := by
  unfold fTup
  cases h1 : ga env p with
  | none => simp
  | some z =>
    obtain ⟨x, p1⟩ := z
    by_cases h : x.length ≤ 16777216 <;> simp [h]
@[simp] theorem y_lst : Yes (fLst ga env p) Q ↔ Yes (ga env p) fun ds p => ds.length ≤ 16777216 ∧ Q (.lst ds) p := by
  unfold fLst
  cases h1 : ga env p with
  | none => simp
  | some z =>
    obtain ⟨x, p1⟩ := z
    by_cases h : x.length ≤ 16777216 <;> simp [h]
@[simp] theorem y_call {m : MF} : Yes (fCall m ga env p) Q ↔ Yes (ga env p) fun ds p => Yes (m ds p) Q := by
  unfold fCall
  cases h1 : ga env p with
  | none => simp
  | some z => obtain ⟨x, p1⟩ := z; simp
/-- what __init__ makes, wherever -/
def YesI (m : MI) (ds : List D) (p : PenSt) (Q : List (Str × D) → PenSt → Prop) : Prop := ∃ fs p', (∀ x, m x ds p = some (fs, p')) ∧ Q fs p'
theorem y_make {m : MI} {c : String} : YesI m ds p (fun fs p => Q (.obj c fs) p) → Yes (fMake c m (fun _ q => some (ds, q)) env p) Q := fun ⟨fs, p', h, q⟩ => by
  unfold fMake
  simp only [initAny_of h, Option.map_some, yes_some]
  exact q
theorem y_mk {m : MI} {c : String} (h : Yes (ga env p) fun ds p => YesI m ds p fun fs p => Q (.obj c fs) p) : Yes (fMake c m ga env p) Q := by
  obtain ⟨ds, p1, e, fs, p2, h2, q⟩ := h
  unfold fMake
  rw [e]
  simp only [initAny_of h2, Option.map_some, yes_some]
  exact q
@[simp] theorem y_items : Yes (fItems fa env p) A ↔ Yes (fa env p) fun x p => onSeq x fun ds => A ds p := by
  unfold fItems
  cases h1 : fa env p with
  | none => simp
  | some z =>
    obtain ⟨x, p1⟩ := z
    cases x <;> simp [onSeq]
def onInt (x : D) (A : Int → Prop) : Prop := match x with
  | .int i => A i
  | _ => False
@[simp] theorem onInt_i {i : Int} {A : Int → Prop} : onInt (.int i) A ↔ A i := Iff.rfl
variable {I : Int × Int → PenSt → Prop} {fr : FV (Int × Int)}
@[simp] theorem y_rg1 : Yes (fRg1 fa env p) I ↔ Yes (fa env p) fun x p => onInt x fun i => I (0, i) p := by
  unfold fRg1
  cases h1 : fa env p with
  | none => simp
  | some z => obtain ⟨x, p1⟩ := z; cases x <;> simp [onInt]
@[simp] theorem y_rg2 : Yes (fRg2 fa fb env p) I ↔ Yes (fa env p) fun x p => onInt x fun i => Yes (fb env p) fun y p => onInt y fun j => I (i, j) p := by
  unfold fRg2
  cases h1 : fa env p with
  | none => simp
  | some z =>
    obtain ⟨x, p1⟩ := z
    cases x with
    | int i =>
      simp only [yes_some, onInt_i]
      cases h2 : fb env p1 with
      | none => simp
      | some z => obtain ⟨y, p2⟩ := z; cases y <;> simp [onInt]
    | _ => simp [onInt]
@[simp] theorem y_rgI : Yes (fRgI fr env p) A ↔ Yes (fr env p) fun r p => (-(2 ^ 62) ≤ r.1 ∧ r.1 < 2 ^ 62 ∧ -(2 ^ 62) ≤ r.2 ∧ r.2 < 2 ^ 62) ∧ A (rngD r.1 r.2) p := by
  unfold fRgI
  cases h1 : fr env p with
  | none => simp
  | some z =>
    obtain ⟨x, p1⟩ := z
    simp only [yes_some]
    by_cases h : (decide (-(2 ^ 62) ≤ x.1) && decide (x.1 < 2 ^ 62) && decide (-(2 ^ 62) ≤ x.2) && decide (x.2 < 2 ^ 62)) = true
    · rw [if_pos h]
      simp only [Bool.and_eq_true, decide_eq_true_eq] at h
      simp only [yes_some]
      exact ⟨fun q => ⟨⟨h.1.1.1, h.1.1.2, h.1.2, h.2⟩, q⟩, fun q => q.2⟩
    · rw [if_neg h]
      simp only [Bool.and_eq_true, decide_eq_true_eq] at h
      simp only [yes_none, false_iff]
      exact fun q => h ⟨⟨⟨q.1.1, q.1.2.1⟩, q.1.2.2.1⟩, q.1.2.2.2⟩
@[simp] theorem y_lstRg : Yes (fLstRg fr env p) Q ↔ Yes (fr env p) fun r p => rgOk r = true ∧ Q (.lst (rngD r.1 r.2)) p := by
  unfold fLstRg
  cases h1 : fr env p with
  | none => simp
  | some z =>
    obtain ⟨x, p1⟩ := z
    by_cases h : rgOk x = true <;> simp [h]
@[simp] theorem y_tupRg : Yes (fTupRg fr env p) Q ↔ Yes (fr env p) fun r p => rgOk r = true ∧ Q (.tup (rngD r.1 r.2)) p := by
  unfold fTupRg
  cases h1 : fr env p with
  | none => simp
  | some z =>
    obtain ⟨x, p1⟩ := z
    by_cases h : rgOk x = true <;> simp [h]
@[simp] theorem y_enum : Yes (fEnum fa env p) A ↔ Yes (fa env p) fun x p => onSeq x fun ds => A (enumD 0 ds) p := by
  unfold fEnum
  cases h1 : fa env p with
  | none => simp
  | some z => obtain ⟨x, p1⟩ := z; cases x <;> simp [onSeq]
@[simp] theorem y_zip : Yes (fZip fa fb env p) A ↔ Yes (fa env p) fun x p => Yes (fb env p) fun y p => onSeq x fun ds => onSeq y fun es => A (zipD ds es) p := by
  unfold fZip
  cases h1 : fa env p with
  | none => simp
  | some z =>
    obtain ⟨x, p1⟩ := z
    simp only [yes_some]
    cases h2 : fb env p1 with
    | none => simp
    | some z => obtain ⟨y, p2⟩ := z; cases x <;> cases y <;> simp [onSeq, seqOf]
variable {O : Option Int → PenSt → Prop} {fo fo' : FV (Option Int)}
@[simp] theorem y_nop : Yes (fNoPart env p) O ↔ O none p := by unfold fNoPart; simp
@[simp] theorem y_part : Yes (fPart fa env p) O ↔ Yes (fa env p) fun x p => onInt x fun i => O (some i) p := by
  unfold fPart
  cases h1 : fa env p with
  | none => simp
  | some z => obtain ⟨x, p1⟩ := z; cases x <;> simp [onInt]
@[simp] theorem y_sl : Yes (fSl fa fo fo' env p) Q ↔ Yes (fa env p) fun x p => Yes (fo env p) fun l p => Yes (fo' env p) fun h p => YesO (gSl l h x) fun r => Q r p := by
  unfold fSl
  cases h1 : fa env p with
  | none => simp
  | some z =>
    obtain ⟨x, p1⟩ := z
    simp only [Option.bind_eq_bind, Option.bind_some, yes_some]
    cases h2 : fo env p1 with
    | none => simp
    | some z =>
      obtain ⟨l, p2⟩ := z
      simp only [Option.bind_some, yes_some]
      cases h3 : fo' env p2 with
      | none => simp
      | some z =>
        obtain ⟨hh, p3⟩ := z
        simp only [Option.bind_some, yes_some]
        cases h4 : gSl l hh x <;> simp
@[simp] theorem y_row : Yes (fRow fa env p) Q ↔ Yes (fa env p) fun x p => match x with
    | .lst ds => YesO (intsD ds) fun ns => Q (.row p.rows.length) { p with rows := p.rows ++ [ns] }
    | _ => False := by
  unfold fRow
  cases h1 : fa env p with
  | none => simp
  | some z =>
    obtain ⟨x, p1⟩ := z
    cases x with
    | lst ds => cases h2 : intsD ds <;> simp [h2]
    | _ => simp
@[simp] theorem y_ixR : Yes (fIxR fa fb env p) Q ↔ Yes (fa env p) fun x p => Yes (fb env p) fun y p => YesO (rowD p x) fun x => YesO (gIx x y) fun r => Q r p := by
  unfold fIxR
  cases h1 : fa env p with
  | none => simp
  | some z =>
    obtain ⟨x, p1⟩ := z
    simp only [Option.bind_eq_bind, Option.bind_some, yes_some]
    cases h2 : fb env p1 with
    | none => simp
    | some z =>
      obtain ⟨y, p2⟩ := z
      simp only [Option.bind_some, yes_some]
      cases h3 : rowD p2 x with
      | none => simp
      | some x' =>
        simp only [Option.bind_some, yesO_some]
        cases h4 : gIx x' y <;> simp
@[simp] theorem y_tupR : Yes (fTupR fa env p) Q ↔ Yes (fa env p) fun x p => YesO (rowD p x) fun x => YesO (gTuple x) fun r => Q r p := by
  unfold fTupR
  cases h1 : fa env p with
  | none => simp
  | some z =>
    obtain ⟨x, p1⟩ := z
    simp only [Option.bind_eq_bind, Option.bind_some, yes_some]
    cases h3 : rowD p1 x with
    | none => simp
    | some x' =>
      simp only [Option.bind_some, yesO_some]
      cases h4 : gTuple x' <;> simp
@[simp] theorem y_own {c : String} {m : MF} : Yes (fOwn c m fa fb env p) Q ↔ Yes (fa env p) fun x p => Yes (fb env p) fun y p => match x with
    | .obj c' fs => c' = c ∧ isTO y = true ∧ Yes (m [.obj c' fs, y] p) fun r p => (match r with | .bl b => Q (.bl b) p | _ => False)
    | _ => False := by
  unfold fOwn
  cases h1 : fa env p with
  | none => simp
  | some z =>
    obtain ⟨x, p1⟩ := z
    simp only [yes_some]
    cases h2 : fb env p1 with
    | none => cases x <;> simp [h2]
    | some z =>
      obtain ⟨y, p2⟩ := z
      cases x with
      | obj c' fs =>
        simp only [h2, yes_some]
        by_cases hc : c' = c ∧ isTO y = true
        · rw [if_pos hc]
          cases h3 : m [.obj c' fs, y] p2 with
          | none => simp
          | some z =>
            obtain ⟨r, p3⟩ := z
            cases r <;> simp [hc.1, hc.2]
        · rw [if_neg hc]
          simp only [yes_none, false_iff]
          exact fun q => hc ⟨q.1, q.2.1⟩
      | _ => simp
/-! ### slots -/
variable {X : Slot → PenSt → Prop} {fx fy : FV Slot} {L : List Slot → PenSt → Prop} {gx : FV (List Slot)}
@[simp] theorem y_sh : Yes (fSh fa env p) X ↔ Yes (fa env p) fun x p => X (.sh x) p := by
  unfold fSh
  exact yes_map
@[simp] theorem y_x : Yes (fX fa env p) X ↔ Yes (fa env p) fun x p => X (toX x) p := by
  unfold fX
  exact yes_map
@[simp] theorem y_xnil : Yes (xNil env p) L ↔ L [] p := by unfold xNil; simp
@[simp] theorem y_xcons : Yes (xCons fx gx env p) L ↔ Yes (fx env p) fun x p => Yes (gx env p) fun y p => L (x :: y) p := by
  unfold xCons
  cases h1 : fx env p with
  | none => simp
  | some z =>
    obtain ⟨x, p1⟩ := z
    simp only [yes_some]
    cases h2 : gx env p1 with
    | none => simp
    | some z => obtain ⟨y, p2⟩ := z; simp
end
@[simp] theorem y_c {env : Env} {p : PenSt} {d : D} {Q : D → PenSt → Prop} : Yes (fC d env p) Q ↔ Q d p := by unfold fC; simp
def onSh (s : Option Slot) (A : D → Prop) : Prop := match s with
  | some (.sh d) => A d
  | _ => False
@[simp] theorem onSh_sh {d : D} {A : D → Prop} : onSh (some (.sh d)) A ↔ A d := Iff.rfl
def onBw (s : Option Slot) (A : D → Prop) : Prop := match s with
  | some (.sh d) => A d
  | some (.ow ds) => A (.lst ds)
  | some (.od ds) => A (.dct ds)
  | _ => False
@[simp] theorem onBw_sh {d : D} {A : D → Prop} : onBw (some (.sh d)) A ↔ A d := Iff.rfl
@[simp] theorem onBw_ow {d : List D} {A : D → Prop} : onBw (some (.ow d)) A ↔ A (.lst d) := Iff.rfl
@[simp] theorem onBw_od {d : List (Key × D)} {A : D → Prop} : onBw (some (.od d)) A ↔ A (.dct d) := Iff.rfl
@[simp] theorem y_var {i : Nat} {env : Env} {p : PenSt} {Q : D → PenSt → Prop} : Yes (fVar i env p) Q ↔ onSh env[i]? fun d => Q d p := by
  unfold fVar onSh
  split <;> simp_all
@[simp] theorem y_varB {i : Nat} {env : Env} {p : PenSt} {Q : D → PenSt → Prop} : Yes (fVarB i env p) Q ↔ onBw env[i]? fun d => Q d p := by
  unfold fVarB onBw
  split <;> simp_all
def onPen (s : Option Slot) (A : Prop) : Prop := match s with
  | some (.sh .pen) => A
  | _ => False
@[simp] theorem onPen_p {A : Prop} : onPen (some (.sh .pen)) A ↔ A := Iff.rfl
@[simp] theorem y_pen {i : Nat} {env : Env} {p : PenSt} {get : PenSt → D} {Q : D → PenSt → Prop} : Yes (fPen i get env p) Q ↔ onPen env[i]? (Q (get p) p) := by
  unfold fPen onPen
  split <;> simp_all
@[simp] theorem s_pen_ {i : Nat} {env : Env} {p : PenSt} {u : PenSt → D → Option PenSt} {fe : FV D} {R : Out → Prop} : YesS (sPen i u fe env p) R ↔ Yes (fe env p) fun d p => onPen env[i]? (YesO (u p d) fun p' => p'.okB = true ∧ R (.nx env p')) := by
  unfold sPen
  cases h1 : fe env p with
  | none => simp
  | some z =>
    obtain ⟨x, p1⟩ := z
    simp only [yes_some]
    unfold onPen
    split
    · rename_i he
      try simp only [he]
      cases h2 : u p1 x with
      | none => simp
      | some q => by_cases h : q.okB = true <;> simp [h]
    · rename_i hn
      first
        | (split
           · rename_i he
             exact absurd he (hn)
           · simp)
        | simp
/-! ### comprehensions -/
section
variable {env : Env} {p : PenSt} {bd : BF} {ft : FV Bool} {fe : FV D} {vs : List Nat} {fi : FV (List D)} {Q : D → PenSt → Prop}
@[simp] theorem y_comp : Yes (fComp vs fi bd ft fe env p) Q ↔ Yes (fi env p) fun ds p => Yes (compL bd ft fe (wipeE env vs) ds p) fun rs p => rs.length ≤ 16777216 ∧ Q (.lst rs) p := by
  unfold fComp
  cases h1 : fi env p with
  | none => simp
  | some z =>
    obtain ⟨ds, p1⟩ := z
    simp only [yes_some]
    cases h2 : compL bd ft fe (wipeE env vs) ds p1 with
    | none => simp
    | some z =>
      obtain ⟨rs, p2⟩ := z
      by_cases h : rs.length ≤ 16777216 <;> simp [h]
/-- without draws -/
theorem comp_pure {t : D → Bool} {F : D → D} : ∀ {ds : List D}, (∀ d ∈ ds, ∃ e, bd d env = some e ∧ Yes (ft e p) fun b q => b = t d ∧ q = p ∧ (t d = true → Yes (fe e p) fun r q => r = F d ∧ q = p)) → compL bd ft fe env ds p = some ((ds.filter t).map F, p)
  | [], _ => rfl
  | d :: ds, h => by
    obtain ⟨e, h1, b, q, h2, eb, eq, h3⟩ := h d List.mem_cons_self
    rw [eb, eq] at h2
    have ih := comp_pure (ds := ds) (t := t) (F := F) fun x hx => h x (List.mem_cons_of_mem _ hx)
    unfold compL
    rw [h1]
    simp only [h2]
    cases ht : t d with
    | false =>
      simp only
      rw [ih, List.filter_cons_of_neg (by simp [ht])]
    | true =>
      obtain ⟨r, q', h4, er, eq'⟩ := h3 ht
      rw [er, eq'] at h4
      simp only [h4]
      rw [ih, List.filter_cons_of_pos (by simp [ht])]
      rfl
/-- with draws, all items taken -/
theorem comp_all {J : PenSt → Prop} {Pr : D → Prop} : ∀ {ds : List D} {p : PenSt}, J p → (∀ d ∈ ds, ∀ p, J p → ∃ e, bd d env = some e ∧ Yes (ft e p) fun b q => b = true ∧ Yes (fe e q) fun r q => Pr r ∧ J q) →
    Yes (compL bd ft fe env ds p) fun rs q => rs.length = ds.length ∧ (∀ r ∈ rs, Pr r) ∧ J q
  | [], p, hj, _ => ⟨[], p, rfl, rfl, fun r h => (by cases h), hj⟩
  | d :: ds, p, hj, h => by
    obtain ⟨e, h1, b, q, h2, rfl, r, q', h4, hr, hq⟩ := h d List.mem_cons_self p hj
    obtain ⟨rs, p2, h5, h6, h7, h8⟩ := comp_all (ds := ds) (p := q') hq fun x hx => h x (List.mem_cons_of_mem _ hx)
    refine ⟨r :: rs, p2, ?_, congrArg (· + 1) h6, fun x hx => (List.mem_cons.mp hx).elim (fun z => z ▸ hr) (h7 x), h8⟩
    unfold compL
    rw [h1]
    simp only [h2, h4, h5]
    rfl
end
/-! ### statements -/
section
variable {env : Env} {p : PenSt} {f fa fb fc fe fk : FV D} {t : FV Bool} {g g1 g2 : FS} {R : Out → Prop} {fx : FV Slot} {gx : FV (List Slot)} {bd : BF} {fi : FV (List D)}
def onNx (R : Out → Prop) (k : Env → PenSt → Prop) (o : Out) : Prop := match o with
  | .nx e p => k e p
  | o => R o
@[simp] theorem onNx_nx {R : Out → Prop} {k : Env → PenSt → Prop} {e : Env} {p : PenSt} : onNx R k (.nx e p) ↔ k e p := Iff.rfl
@[simp] theorem onNx_rt {R : Out → Prop} {k : Env → PenSt → Prop} {e : D} {p : PenSt} : onNx R k (.rt e p) ↔ R (.rt e p) := Iff.rfl
@[simp] theorem onNx_bk {R : Out → Prop} {k : Env → PenSt → Prop} {e : Env} {p : PenSt} : onNx R k (.bk e p) ↔ R (.bk e p) := Iff.rfl
@[simp] theorem onNx_ct {R : Out → Prop} {k : Env → PenSt → Prop} {e : Env} {p : PenSt} : onNx R k (.ct e p) ↔ R (.ct e p) := Iff.rfl
@[simp] theorem s_seq : YesS (sSeq g1 g2 env p) R ↔ YesS (g1 env p) (onNx R fun e p => YesS (g2 e p) R) := by
  unfold sSeq
  cases h : g1 env p with
  | none => simp
  | some o => cases o <;> simp
@[simp] theorem s_nil : YesS (sNil env p) R ↔ R (.nx env p) := by unfold sNil; simp
@[simp] theorem s_ret_ : YesS (sRet fa env p) R ↔ Yes (fa env p) fun r p => R (.rt r p) := by
  unfold sRet
  cases h : fa env p with
  | none => simp
  | some z => obtain ⟨a, b⟩ := z; simp
@[simp] theorem s_expr_ : YesS (sExpr fa env p) R ↔ Yes (fa env p) fun r p => R (.nx env p) := by
  unfold sExpr
  cases h : fa env p with
  | none => simp
  | some z => obtain ⟨a, b⟩ := z; simp
@[simp] theorem s_if_ : YesS (sIf t g1 g2 env p) R ↔ Yes (t env p) fun b p => if b = true then YesS (g1 env p) R else YesS (g2 env p) R := by
  unfold sIf
  cases h1 : t env p with
  | none => simp
  | some z => obtain ⟨x, p1⟩ := z; cases x <;> simp
@[simp] theorem s_set_ {i : Nat} : YesS (sSet i fx env p) R ↔ Yes (fx env p) fun s p => i < env.length ∧ R (.nx (env.set i s) p) := by
  unfold sSet
  cases h1 : fx env p with
  | none => simp
  | some z =>
    obtain ⟨x, p1⟩ := z
    by_cases h : i < env.length <;> simp [h]
@[simp] theorem s_parX_ {is : List Nat} : YesS (sParX is gx env p) R ↔ Yes (gx env p) fun ss p => YesO (setAll is ss env) fun e => R (.nx e p) := by
  unfold sParX
  cases h1 : gx env p with
  | none => simp
  | some z =>
    obtain ⟨x, p1⟩ := z
    cases h2 : setAll is x env <;> simp [h2]
@[simp] theorem s_unp_ {is : List Nat} : YesS (sUnp is fa env p) R ↔ Yes (fa env p) fun x p => match x with
    | .tup ds => YesO (setAll is (ds.map Slot.sh) env) fun e => R (.nx e p)
    | _ => False := by
  unfold sUnp
  cases h1 : fa env p with
  | none => simp
  | some z =>
    obtain ⟨x, p1⟩ := z
    cases x with
    | tup ds => cases h2 : setAll is (ds.map Slot.sh) env <;> simp [h2]
    | _ => simp
/-- a for: I of the items that are left, the names, the pen -/
theorem for_yes {I : List D → Env → PenSt → Prop} : ∀ {ds : List D} {env : Env} {p : PenSt}, I ds env p → (∀ d rest e p, I (d :: rest) e p → YesO (bd d e) fun e1 => YesS (g e1 p) fun o => match o with
    | .nx e p => I rest e p
    | .ct e p => I rest e p
    | .bk e p => R (.nx e p)
    | .rt d p => R (.rt d p)) → (∀ e p, I [] e p → R (.nx e p)) → YesS (forL bd g ds env p) R
  | [], env, p, h0, _, hd => ⟨_, rfl, hd _ _ h0⟩
  | d :: ds, env, p, h0, hs, hd => by
    obtain ⟨e1, h1, o, h2, h3⟩ := hs d ds env p h0
    unfold forL
    rw [h1]
    simp only [h2]
    cases o with
    | nx e p => exact for_yes h3 hs hd
    | ct e p => exact for_yes h3 hs hd
    | bk e p => exact ⟨_, rfl, h3⟩
    | rt d p => exact ⟨_, rfl, h3⟩
@[simp] theorem s_for_ : YesS (sFor fi bd g env p) R ↔ Yes (fi env p) fun ds p => YesS (forL bd g ds env p) R := by
  unfold sFor
  cases h1 : fi env p with
  | none => simp
  | some z => obtain ⟨x, p1⟩ := z; simp
@[simp] theorem s_bad_ : YesS (sBad env p) R ↔ False := by unfold sBad; simp
@[simp] theorem s_aft_ {i : Nat} : YesS (sAft i g env p) R ↔ YesS (g env p) (onNx R fun e p => match e[i]? with
    | some (.ow ds) => R (.nx (e.set i (.sh (.lst ds))) p)
    | _ => R (.nx e p)) := by
  unfold sAft
  cases h : g env p with
  | none => simp
  | some o =>
    cases o with
    | nx e q =>
      simp only [yesS_some, onNx_nx]
      split <;> simp_all
    | _ => simp
@[simp] theorem s_fz_ {i : Nat} : YesS (sFz i g env p) R ↔ (match env[i]? with
    | some (.ow ds) => YesS (g (env.set i (.sh (.lst ds))) p) R
    | some (.od ds) => YesS (g (env.set i (.sh (.dct ds))) p) R
    | _ => YesS (g env p) R) := by
  unfold sFz
  split <;> simp_all
def onOw (s : Option Slot) (A : List D → Prop) : Prop := match s with
  | some (.ow ds) => A ds
  | _ => False
@[simp] theorem onOw_ow {d : List D} {A : List D → Prop} : onOw (some (.ow d)) A ↔ A d := Iff.rfl
@[simp] theorem s_mut1_ {i : Nat} {u : List D → D → Option (List D)} : YesS (sMut1 i u fe env p) R ↔ Yes (fe env p) fun d p => onOw env[i]? fun ds => YesO (u ds d) fun es => R (.nx (env.set i (.ow es)) p) := by
  unfold sMut1
  cases h1 : fe env p with
  | none => simp
  | some z =>
    obtain ⟨x, p1⟩ := z
    simp only [yes_some]
    unfold onOw
    split
    · rename_i ds he
      simp only [he]
      cases h2 : u ds x <;> simp
    · rename_i hn
      first
        | (split
           · rename_i ds he
             exact absurd he (hn ds)
           · simp)
        | simp
@[simp] theorem s_ext_ {i : Nat} : YesS (sExt i fa env p) R ↔ Yes (fa env p) fun d p => match d with
    | .lst es => onOw env[i]? fun ds => ds.length + es.length ≤ 16777216 ∧ R (.nx (env.set i (.ow (ds ++ es))) p)
    | _ => False := by
  unfold sExt
  cases h1 : fa env p with
  | none => simp
  | some z =>
    obtain ⟨x, p1⟩ := z
    cases x with
    | lst es =>
      simp only [yes_some]
      unfold onOw
      split
      · rename_i ds he
        simp only [he]
        by_cases h : ds.length + es.length ≤ 16777216 <;> simp [h]
      · rename_i hn
        first
          | (split
             · rename_i ds he
               exact absurd he (hn ds)
             · simp)
          | simp
    | _ => simp
@[simp] theorem s_appPop_ {i j : Nat} : YesS (sAppPop i j fa env p) R ↔ Yes (fa env p) fun d p => onInt d fun k => onOw env[i]? fun ds => onOw env[j]? fun es => (0 ≤ k ∧ ds.length < 16777216 ∧ es.length ≤ 16777216) ∧ YesO es[k.toNat]? fun d => R (.nx ((env.set j (.ow (es.eraseIdx k.toNat))).set i (.ow (ds ++ [d]))) p) := by
  unfold sAppPop
  cases h1 : fa env p with
  | none => simp
  | some z =>
    obtain ⟨x, p1⟩ := z
    cases x with
    | int k =>
      simp only [yes_some, onInt_i]
      unfold onOw
      split
      · rename_i ds es he hj
        simp only [he, hj]
        by_cases h : 0 ≤ k ∧ ds.length < 16777216 ∧ es.length ≤ 16777216
        · simp only [h, and_self, if_true, true_and]
          cases h2 : es[k.toNat]? <;> simp
        · rw [if_neg h]
          simp only [yesS_none, false_iff]
          exact fun q => h q.1
      · rename_i hn
        simp only [yesS_none, false_iff]
        split
        · rename_i ds he
          split
          · rename_i es hj
            exact absurd hj (hn ds es he)
          · exact id
        · exact id
    | _ => simp [onInt]
@[simp] theorem s_setIx2_ {i : Nat} {fk fl fv fw : FV D} : YesS (sSetIx2 i fk fl fv fw env p) R ↔ Yes (fv env p) fun d p => Yes (fw env p) fun d2 p => Yes (fk env p) fun k p => onInt k fun k => onOw env[i]? fun ds => YesO (ixN ds.length k) fun j => Yes (fl (env.set i (.ow (ds.set j d))) p) fun l p => onInt l fun l => YesO (ixN (ds.set j d).length l) fun j2 => R (.nx ((env.set i (.ow (ds.set j d))).set i (.ow ((ds.set j d).set j2 d2))) p) := by
  unfold sSetIx2
  cases h1 : fv env p with
  | none => simp
  | some z =>
    obtain ⟨d, p1⟩ := z
    simp only [yes_some]
    cases h2 : fw env p1 with
    | none => simp
    | some z =>
      obtain ⟨d2, p2⟩ := z
      simp only [yes_some]
      cases h3 : fk env p2 with
      | none => simp
      | some z =>
        obtain ⟨k, p3⟩ := z
        cases k with
        | int k =>
          simp only [yes_some, onInt_i]
          unfold onOw
          split
          · rename_i ds he
            simp only [he]
            cases h4 : ixN ds.length k with
            | none => simp
            | some j =>
              simp only [yesO_some]
              cases h5 : fl (env.set i (.ow (ds.set j d))) p3 with
              | none => simp
              | some z =>
                obtain ⟨l, p4⟩ := z
                cases l with
                | int l =>
                  simp only [yes_some, onInt_i]
                  cases h6 : ixN (ds.set j d).length l <;> simp
                | _ => simp [onInt]
          · rename_i hn
            first
              | (split
                 · rename_i ds he
                   exact absurd he (hn ds)
                 · simp)
              | simp
        | _ => simp [onInt]
@[simp] theorem s_row_ {fo fk fv : FV D} : YesS (sRow fo fk fv env p) R ↔ Yes (fv env p) fun d p => YesO (stRow fo fk d env p) fun p => R (.nx env p) := by
  unfold sRow
  cases h1 : fv env p with
  | none => simp
  | some z =>
    obtain ⟨d, p1⟩ := z
    simp only [yes_some]
    cases h2 : stRow fo fk d env p1 <;> simp
@[simp] theorem s_row2_ {fo fk fo2 fk2 fv fw : FV D} : YesS (sRow2 fo fk fo2 fk2 fv fw env p) R ↔ Yes (fv env p) fun d p => Yes (fw env p) fun d2 p => YesO (stRow fo fk d env p) fun p => YesO (stRow fo2 fk2 d2 env p) fun p => R (.nx env p) := by
  unfold sRow2
  cases h1 : fv env p with
  | none => simp
  | some z =>
    obtain ⟨d, p1⟩ := z
    simp only [yes_some]
    cases h2 : fw env p1 with
    | none => simp
    | some z =>
      obtain ⟨d2, p2⟩ := z
      simp only [yes_some]
      cases h3 : stRow fo fk d env p2 with
      | none => simp
      | some p3 =>
        simp only [yesO_some]
        cases h4 : stRow fo2 fk2 d2 env p3 <;> simp
@[simp] theorem st_row {Q : PenSt → Prop} {fo fk : FV D} {d : D} : YesO (stRow fo fk d env p) Q ↔ Yes (fo env p) fun o p => match o with
    | .row k => Yes (fk env p) fun kk p => onInt kk fun kk => onInt d fun vv => YesO p.rows[k]? fun ns => YesO (ixN ns.length kk) fun j => Q { p with rows := p.rows.set k (ns.set j vv) }
    | _ => False := by
  unfold stRow
  cases h1 : fo env p with
  | none => simp
  | some z =>
    obtain ⟨o, p1⟩ := z
    cases o with
    | row k =>
      simp only [yes_some]
      cases h2 : fk env p1 with
      | none => simp
      | some z =>
        obtain ⟨kk, p2⟩ := z
        cases kk with
        | int kk =>
          cases d with
          | int vv =>
            simp only [yes_some, onInt_i]
            cases h3 : p2.rows[k]? with
            | none => simp
            | some ns =>
              simp only [yesO_some]
              cases h4 : ixN ns.length kk <;> simp
          | _ => simp [onInt]
        | _ => simp [onInt]
    | _ => simp
@[simp] theorem s_fldS_ {i : Nat} {fl : Str} : YesS (sFldS i fl fe env p) R ↔ Yes (fe env p) fun d p => match env[i]? with
    | some (Slot.oo x c fs) => fs.length < 1000 ∧ R (.nx (env.set i (.oo x c (putD fl d fs))) p)
    | _ => False := by
  unfold sFldS
  cases h1 : fe env p with
  | none => simp
  | some z =>
    obtain ⟨d, p1⟩ := z
    simp only [yes_some]
    split
    · rename_i x c fs he
      by_cases h : fs.length < 1000 <;> simp [h, he]
    · simp_all
@[simp] theorem y_mOf {n : Nat} {ds : List D} {Q : D → PenSt → Prop} : Yes (mOf n g ds p) Q ↔ YesS (g (begin_ n ds) p) fun o => match o with
    | .rt d p => Q d p
    | .nx _ p => Q .non p
    | _ => False := by
  unfold mOf
  cases h : g (begin_ n ds) p with
  | none => simp
  | some o => cases o <;> simp
end
end Cr
/-! ## the mirrors that many laws share -/
namespace Cm
open PySem L2 Cr
def m_is_whole : MF := mOf 1 ((sRet (fAnd (f1 (gIsi "int") (fVarB 0)) (fNot (f1 (gIsi "bool") (fVarB 0))))))
def m_as_tuples : Nat → MF
  | 0 => fun _ _ => none
  | n + 1 => mOf 2 ((sSeq (sIf (fTru (f1 (gIsi2 "list" "tuple") (fVarB 0))) (sRet (f1 gTuple (fComp [1] (fItems (fVarB 0)) (bN 1) tfYes (fCall (m_as_tuples n) (aCons (fVar 1) aNil))))) sNil)
  (sRet (fVar 0))))
def m_is_index : MF := mOf 2 ((sRet (fAnd (fCall m_is_whole (aCons (fVar 0) aNil)) (fChain gLe gLt (fC (.int 0)) (fVarB 0) (fVarB 1)))))
def m_is_order : MF := mOf 3 ((sSeq (sIf (tfOr (tfNot (fTru (f1 (gIsi "tuple") (fVarB 1)))) (tfOr (fBl (f2 gNe (f1 gLen (fVarB 1)) (fVarB 0))) (tfNot (fTru (f1 gAll (fComp [2] (fItems (fVarB 1)) (bN 2) tfYes (fCall m_is_index (aCons (fVar 2) (aCons (fVar 0) aNil))))))))) (sRet (fC (.bl false))) sNil)
  (sRet (f2 gEq (f1 gSorted (fVarB 1)) (fLstRg (fRg1 (fVar 0)))))))
def m_orders_by : MF := mOf 6 ((sSeq (sSet 1 (fSh (fLst (aCons (fTup aNil) aNil))))
  (sSeq (sFor (fRgI (fRg1 (fVar 0))) (bN 2) (sSeq (sSet 3 (fX (fLst aNil)))
  (sSeq (sFor (fItems (fVar 1)) (bN 4) (sExt 3 (fComp [5] (fRgI (fRg1 (fVar 0))) (bN 5) (fBl (f2 gNotInS (fVarB 5) (fVarB 4))) (fTup (aStar (fVarB 4) (aCons (fVar 5) aNil))))))
  (sFz 3 (sSet 1 (fSh (fVar 3)))))))
  (sRet (fVar 1)))))
def m__law_draw : MF := mOf 5 ((sSeq (sPen 0 uCount (f2 gAdd (fPen 0 (fun p => .int p.count)) (fC (.int 1))))
  (sSeq (sIf (tfAnd (fBl (f2 gEq (fPen 0 (fun p => .int p.digits)) (fC (.int 0)))) (fBl (f2 gLt (fPen 0 (fun p => .int p.at_)) (f1 gLen (fPen 0 (fun p => .lst (p.cells.map D.int))))))) (sSeq (sSet 2 (fSh (f2 gIx (fPen 0 (fun p => .lst (p.cells.map D.int))) (fPen 0 (fun p => .int p.at_)))))
  (sSeq (sPen 0 uAt (f2 gAdd (fPen 0 (fun p => .int p.at_)) (fC (.int 1))))
  (sIf (fBl (f2 gGe (fVarB 2) (f2 gPow (fC (.int 10)) (fC (.int 18))))) (sPen 0 uDigits (f2 gSub (fVarB 2) (f2 gPow (fC (.int 10)) (fC (.int 18))))) (sPen 0 uFold (f2 gMod (f1 gInt (f2 gAdd (f2 gMul (fPen 0 (fun p => .int p.fold)) (fC (.int 69069))) (fVarB 2))) (fC (.int 2147483587))))))) sNil)
  (sSeq (sIf (fBl (f2 gGt (fPen 0 (fun p => .int p.digits)) (fC (.int 0)))) (sSeq (sSet 3 (fSh (f2 gMod (f1 gInt (fPen 0 (fun p => .int p.digits))) (fVarB 1))))
  (sSeq (sPen 0 uDigits (f2 gDiv (fPen 0 (fun p => .int p.digits)) (fVarB 1)))
  (sRet (fVar 3)))) sNil)
  (sSeq (sSet 4 (fSh (f2 gMod (f1 gInt (f2 gAdd (f2 gAdd (f2 gMul (fPen 0 (fun p => .int p.fold)) (fC (.int 48271))) (f2 gMul (fPen 0 (fun p => .int p.count)) (fC (.int 7919)))) (fC (.int 13)))) (fC (.int 2147483647)))))
  (sSeq (sSet 4 (fSh (f2 gMod (f1 gInt (f2 gAdd (f2 gAdd (f2 gMul (fVarB 4) (fVarB 4)) (f2 gMul (fC (.int 31)) (fVarB 4))) (fPen 0 (fun p => .int p.count)))) (fC (.int 2147483629)))))
  (sSeq (sPen 0 uFold (f2 gMod (f1 gInt (f2 gAdd (f2 gMul (fVarB 4) (fC (.int 16807))) (fC (.int 7)))) (fC (.int 2147483647))))
  (sRet (f2 gMod (f1 gInt (f2 gDiv (fVarB 4) (fC (.int 64)))) (fVarB 1))))))))))
def m__law_pick : MF := mOf 2 ((sRet (f2 gIx (fVarB 1) (fCall m__law_draw (aCons (fVar 0) (aCons (f1 gLen (fVarB 1)) aNil))))))
def m__law_shuffled : MF := mOf 5 ((sSeq (sParX [2, 3] (xCons (fX (f1 gList (fVarB 1))) (xCons (fX (fLst aNil)) xNil)))
  (sSeq (sFor (fRgI (fRg1 (f1 gLen (fVarB 1)))) (bN 4) (sAppPop 3 2 (fCall m__law_draw (aCons (fVar 0) (aCons (f1 gLen (fVarB 2)) aNil)))))
  (sRet (fVarB 3)))))
def m__law_is : Nat → MF
  | 0 => fun _ _ => none
  | n + 1 => mOf 3 ((sSeq (sIf (fTru (f1 (gIsi "tuple") (fVarB 1))) (sSeq (sIf (tfOr (tfNot (fTru (f1 (gIsi "tuple") (fVarB 0)))) (fBl (f2 gNe (f1 gLen (fVarB 0)) (f1 gLen (fVarB 1))))) (sRet (fC (.bl false))) sNil)
  (sRet (f2 gEq (fComp [2] (fRgI (fRg1 (f1 gLen (fVarB 1)))) (bN 2) (tfNot (fTru (fCall (m__law_is n) (aCons (f2 gIx (fVarB 0) (fVarB 2)) (aCons (f2 gIx (fVarB 1) (fVarB 2)) aNil))))) (fVar 2)) (fLst aNil)))) sNil)
  (sSeq (sIf (fBl (f2 (gIs false) (fVarB 1) (fC .non))) (sRet (f2 (gIs false) (fVarB 0) (fC .non))) sNil)
  (sSeq (sIf (fBl (f2 (gIs false) (fVarB 1) (fC (.bl true)))) (sRet (f2 (gIs false) (fVarB 0) (fC (.bl true)))) sNil)
  (sSeq (sIf (fBl (f2 (gIs false) (fVarB 1) (fC (.bl false)))) (sRet (f2 (gIs false) (fVarB 0) (fC (.bl false)))) sNil)
  (sSeq (sIf (fTru (f1 (gIsi "str") (fVarB 1))) (sRet (fAnd (f1 (gIsi "str") (fVarB 0)) (f2 gEq (fVarB 0) (fVarB 1)))) sNil)
  (sRet (fAnd (f1 (gIsi "int") (fVarB 0)) (fAnd (fNot (f1 (gIsi "bool") (fVarB 0))) (f2 gEq (fVarB 0) (fVarB 1)))))))))))
def m__law_whole : MF := mOf 1 ((sRet (fAnd (f1 (gIsi "int") (fVarB 0)) (fNot (f1 (gIsi "bool") (fVarB 0))))))
def m__law_orders : MF := mOf 6 ((sSeq (sSet 1 (fSh (fLst (aCons (fTup aNil) aNil))))
  (sSeq (sFor (fRgI (fRg1 (fVar 0))) (bN 2) (sSeq (sSet 3 (fX (fLst aNil)))
  (sSeq (sFor (fItems (fVar 1)) (bN 4) (sExt 3 (fComp [5] (fRgI (fRg1 (fVar 0))) (bN 5) (fBl (f2 gNotInS (fVarB 5) (fVarB 4))) (f2 gAdd (fVarB 4) (fTup (aCons (fVar 5) aNil))))))
  (sFz 3 (sSet 1 (fSh (fVar 3)))))))
  (sRet (fVar 1)))))
def m__law_is_order : MF := mOf 3 ((sSeq (sIf (tfOr (tfNot (fTru (f1 (gIsi "tuple") (fVarB 1)))) (fBl (f2 gNe (fComp [2] (fItems (fVarB 1)) (bN 2) (tfNot (fTru (fCall m__law_whole (aCons (fVar 2) aNil)))) (fVar 2)) (fLst aNil)))) (sRet (fC (.bl false))) sNil)
  (sRet (f2 gEq (f1 gSorted (fVarB 1)) (fLstRg (fRg1 (fVar 0)))))))
def m__law_is_lot : MF := mOf 4 ((sSeq (sIf (tfOr (tfNot (fTru (f1 (gIsi "tuple") (fVarB 1)))) (fBl (f2 gNe (fComp [2] (fItems (fVarB 1)) (bN 2) (tfOr (tfNot (fTru (fCall m__law_whole (aCons (fVar 2) aNil)))) (tfNot (fBl (fChain gLe gLt (fC (.int 0)) (fVarB 2) (fVarB 0))))) (fVar 2)) (fLst aNil)))) (sRet (fC (.bl false))) sNil)
  (sRet (f2 gEq (fComp [2, 3] (fZip (fSl (fVarB 1) fNoPart (fPart (f1 gNeg (fC (.int 1))))) (fSl (fVarB 1) (fPart (fC (.int 1))) fNoPart)) (bTup 2 (bCons (bN 2) (bCons (bN 3) bNil))) (fBl (f2 gGe (fVarB 2) (fVarB 3))) (fC (.int 1))) (fLst aNil)))))
def m__law_all_lots : MF := mOf 4 ((sSeq (sSet 1 (fSh (fLst (aCons (fTup aNil) aNil))))
  (sSeq (sFor (fRgI (fRg1 (fVar 0))) (bN 2) (sSet 1 (fSh (f2 gAdd (fVarB 1) (fComp [3] (fItems (fVarB 1)) (bN 3) tfYes (f2 gAdd (fVarB 3) (fTup (aCons (fVar 2) aNil))))))))
  (sRet (f1 gSorted (fVarB 1))))))
def m__law_bent_order : MF := mOf 6 ((sSeq (sSet 2 (fSh (f1 gLen (fVarB 1))))
  (sSeq (sParX [3, 4] (xCons (fSh (fCall m__law_draw (aCons (fVar 0) (aCons (fVar 2) aNil)))) (xCons (fSh (fCall m__law_draw (aCons (fVar 0) (aCons (fVar 2) aNil)))) xNil)))
  (sSeq (sSet 5 (fX (f1 gList (fVarB 1))))
  (sSeq (sSetIx2 5 (fVar 3) (fVar 4) (f2 gIx (fVarB 5) (fVarB 4)) (f2 gIx (fVarB 5) (fVarB 3)))
  (sRet (fCall m__law_pick (aCons (fVar 0) (aCons (f2 gAdd (f2 gMul (fLst (aCons (f1 gTuple (fVarB 5)) aNil)) (fC (.int 5))) (fLst (aCons (fVar 1) (aCons (fSl (fVarB 1) (fPart (fC (.int 1))) fNoPart) (aCons (f2 gAdd (fVarB 1) (fTup (aCons (fVar 2) aNil))) (aCons (f1 gList (fVarB 1)) (aCons (fC .non) (aCons (f2 gAdd (fTup (aCons (fC (.bl true)) aNil)) (fSl (fVarB 1) (fPart (fC (.int 1))) fNoPart)) (aCons (f1 gRev (fVarB 1)) aNil))))))))) aNil)))))))))
end Cm
/-! ## values: what operators give -/
namespace Cr
open PySem L2
@[simp] theorem yesO_ite {α : Type} {c : Prop} [Decidable c] {a : α} {Q : α → Prop} : YesO (if c then some a else none) Q ↔ c ∧ Q a := by by_cases h : c <;> simp [h]
@[simp] theorem t_name {i : Nat} {d : D} {env : Env} {Q : Env → Prop} : YesO (bN i d env) Q ↔ i < env.length ∧ Q (env.set i (.sh d)) := yesO_ite
@[simp] theorem t_nil {env : Env} {Q : Env → Prop} : YesO (bNil [] env) Q ↔ Q env := yesO_some
@[simp] theorem t_cons {d : D} {ds : List D} {b : BF} {c : List D → Env → Option Env} {env : Env} {Q : Env → Prop} : YesO (bCons b c (d :: ds) env) Q ↔ YesO (b d env) fun e => YesO (c ds e) Q := yesO_bind
@[simp] theorem t_tup {n : Nat} {ds : List D} {c : List D → Env → Option Env} {env : Env} {Q : Env → Prop} : YesO (bTup n c (.tup ds) env) Q ↔ ds.length = n ∧ YesO (c ds env) Q := by
  show YesO (if ds.length = n then c ds env else none) Q ↔ _
  by_cases h : ds.length = n <;> simp [h]
section
variable {i j : Int} {Q : D → Prop} {x y d e : D} {ds es : List D} {p : PenSt}
@[simp] theorem v_addI : gAdd (.int i) (.int j) = some (.int (i + j)) := rfl
theorem v_addT (h : ds.length + es.length ≤ 16777216) : gAdd (.tup ds) (.tup es) = some (.tup (ds ++ es)) := if_pos h
theorem v_addL (h : ds.length + es.length ≤ 16777216) : gAdd (.lst ds) (.lst es) = some (.lst (ds ++ es)) := if_pos h
@[simp] theorem v_addTQ : YesO (gAdd (.tup ds) (.tup es)) Q ↔ ds.length + es.length ≤ 16777216 ∧ Q (.tup (ds ++ es)) := by
  exact yesO_ite (c := ds.length + es.length ≤ 16777216)
@[simp] theorem v_addLQ : YesO (gAdd (.lst ds) (.lst es)) Q ↔ ds.length + es.length ≤ 16777216 ∧ Q (.lst (ds ++ es)) := by
  exact yesO_ite (c := ds.length + es.length ≤ 16777216)
@[simp] theorem v_subI : gSub (.int i) (.int j) = some (.int (i - j)) := rfl
@[simp] theorem v_neg : gNeg (.int i) = some (.int (-i)) := rfl
@[simp] theorem v_mul : YesO (gMul (.int i) (.int j)) Q ↔ (in64 i || in64 j) = true ∧ Q (.int (i * j)) := by
  exact yesO_ite (c := (in64 i || in64 j) = true)
@[simp] theorem v_mod : YesO (gMod (.int i) (.int j)) Q ↔ 0 < j ∧ Q (.int (i % j)) := by
  rw [← decide_eq_true_iff (p := 0 < j)]
  exact yesO_ite (c := decide (0 < j) = true)
@[simp] theorem v_div : YesO (gDiv (.int i) (.int j)) Q ↔ (0 < j ∧ j < 2 ^ 62) ∧ Q (.int (i / j)) := by
  rw [show (0 < j ∧ j < 2 ^ 62) ↔ (decide (0 < j) && decide (j < 2 ^ 62)) = true by simp]
  exact yesO_ite (c := (decide (0 < j) && decide (j < 2 ^ 62)) = true)
@[simp] theorem v_pow : gPow (.int 10) (.int 18) = some (.int 1000000000000000000) := by
  rfl
@[simp] theorem v_lt : gLt (.int i) (.int j) = some (.bl (decide (i < j))) := rfl
@[simp] theorem v_le : gLe (.int i) (.int j) = some (.bl (decide (i ≤ j))) := rfl
@[simp] theorem v_gt : gGt (.int i) (.int j) = some (.bl (decide (j < i))) := rfl
@[simp] theorem v_ge : gGe (.int i) (.int j) = some (.bl (decide (j ≤ i))) := rfl
@[simp] theorem v_eqI : gEq (.int i) (.int j) = some (.bl (decide (i = j))) := by
  unfold gEq
  simp only [dat, eqD, Bool.and_self, if_true, Option.some.injEq, D.bl.injEq]
  by_cases h : i = j <;> simp [h]
@[simp] theorem v_neI : gNe (.int i) (.int j) = some (.bl (!decide (i = j))) := by
  unfold gNe
  simp only [dat, eqD, Bool.and_self, if_true, Option.some.injEq, D.bl.injEq]
  by_cases h : i = j <;> simp [h]
@[simp] theorem v_lenT : gLen (.tup ds) = some (.int ds.length) := rfl
@[simp] theorem v_lenL : gLen (.lst ds) = some (.int ds.length) := rfl
@[simp] theorem v_int : gInt (.int i) = some (.int i) := rfl
@[simp] theorem v_not {b : Bool} : gNot (.bl b) = some (.bl (!b)) := rfl
@[simp] theorem v_truB {b : Bool} : truD (.bl b) = some b := rfl
@[simp] theorem v_listT : gList (.tup ds) = some (.lst ds) := rfl
@[simp] theorem v_listL : gList (.lst ds) = some (.lst ds) := rfl
@[simp] theorem v_tupleT : gTuple (.tup ds) = some (.tup ds) := rfl
@[simp] theorem v_tupleL : gTuple (.lst ds) = some (.tup ds) := rfl
@[simp] theorem v_revT : gRev (.tup ds) = some (.tup ds.reverse) := rfl
@[simp] theorem v_revL : gRev (.lst ds) = some (.lst ds.reverse) := rfl
@[simp] theorem v_slT {l h : Option Int} : gSl l h (.tup ds) = some (.tup (cutD ds l h)) := rfl
@[simp] theorem v_slL {l h : Option Int} : gSl l h (.lst ds) = some (.lst (cutD ds l h)) := rfl
@[simp] theorem v_uCount : uCount p (.int i) = some { p with count := i } := rfl
@[simp] theorem v_uDigits : uDigits p (.int i) = some { p with digits := i } := rfl
@[simp] theorem v_uFold : uFold p (.int i) = some { p with fold := i } := rfl
@[simp] theorem v_uAt {n : Nat} : uAt p (.int ((n : Int) + 1)) = some { p with at_ := n + 1 } := by
  have h : uAt p (.int ((n : Int) + 1)) = if 0 ≤ (n : Int) + 1 then some { p with at_ := ((n : Int) + 1).toNat } else none := rfl
  have : ((n : Int) + 1).toNat = n + 1 := by omega
  rw [h, if_pos (by omega), this]
@[simp] theorem okB_iff : p.okB = true ↔ p.Ok := ⟨PenSt.ok_of, PenSt.okB_of⟩
/-- an item by its place -/
theorem v_ix {n : Nat} {d : D} (h : ds[n]? = some d) (hz : ds.length ≤ 16777216) : gIx (.lst ds) (.int n) = some d ∧ gIx (.tup ds) (.int n) = some d := by
  have hn : n < ds.length := (List.getElem?_eq_some_iff.mp h).1
  have : atI ds (n : Int) = some d := by
    unfold atI
    have e : ixN ds.length (n : Int) = some n := by
      unfold ixN
      first
        | (rw [if_pos (by omega)]; simp; omega)
        | (split <;> simp <;> omega)
    rw [e]
    exact h
  exact ⟨this, this⟩
end
end Cr
/-! ## draws, picks, shuffles -/
namespace Cr
open PySem L2
theorem in64_ok {i : Int} (h : -(2 ^ 64) < i ∧ i < 2 ^ 64) : in64 i = true := by
  unfold in64
  simp only [Bool.and_eq_true, decide_eq_true_eq]
  exact h
theorem draw_ok {p : PenSt} {n : Int} {Q : D → PenSt → Prop} (hp : p.Ok) (h0 : 0 < n) (h1 : n < 2 ^ 62) (k : ∀ r p', 0 ≤ r → r < n → p'.Ok → p'.rows = p.rows → Q (.int r) p') : Yes (Cm.m__law_draw [.pen, .int n] p) Q := by
  have tail : ∀ p' : PenSt, p'.Ok → p'.rows = p.rows → if 0 < p'.digits then
                        0 < n ∧
                          (0 < n ∧ n < 2 ^ 62) ∧
                            { cells := p'.cells, at_ := p'.at_, digits := p'.digits / n, count := p'.count,
                                  fold := p'.fold, rows := p'.rows : PenSt }.Ok ∧
                              Q (D.int (p'.digits % n))
                                { cells := p'.cells, at_ := p'.at_, digits := p'.digits / n, count := p'.count,
                                  fold := p'.fold, rows := p'.rows }
                      else
                        (in64 p'.fold = true ∨ in64 48271 = true) ∧
                          (in64 p'.count = true ∨ in64 7919 = true) ∧
                            in64 ((p'.fold * 48271 + p'.count * 7919 + 13) % 2147483647) = true ∧
                              (in64 31 = true ∨ in64 ((p'.fold * 48271 + p'.count * 7919 + 13) % 2147483647) = true) ∧
                                (in64
                                        (((p'.fold * 48271 + p'.count * 7919 + 13) % 2147483647 *
                                                ((p'.fold * 48271 + p'.count * 7919 + 13) % 2147483647) +
                                              31 * ((p'.fold * 48271 + p'.count * 7919 + 13) % 2147483647) +
                                            p'.count) %
                                          2147483629) =
                                      true ∨
                                    in64 16807 = true) ∧
                                  { cells := p'.cells, at_ := p'.at_, digits := p'.digits, count := p'.count,
                                        fold :=
                                          (((p'.fold * 48271 + p'.count * 7919 + 13) % 2147483647 *
                                                        ((p'.fold * 48271 + p'.count * 7919 + 13) % 2147483647) +
                                                      31 * ((p'.fold * 48271 + p'.count * 7919 + 13) % 2147483647) +
                                                    p'.count) %
                                                  2147483629 *
                                                16807 +
                                              7) %
                                            2147483647,
                                        rows := p'.rows : PenSt }.Ok ∧
                                    64 < 2 ^ 62 ∧
                                      0 < n ∧
                                        Q
                                          (D.int
                                            (((p'.fold * 48271 + p'.count * 7919 + 13) % 2147483647 *
                                                        ((p'.fold * 48271 + p'.count * 7919 + 13) % 2147483647) +
                                                      31 * ((p'.fold * 48271 + p'.count * 7919 + 13) % 2147483647) +
                                                    p'.count) %
                                                  2147483629 /
                                                64 %
                                              n))
                                          { cells := p'.cells, at_ := p'.at_, digits := p'.digits, count := p'.count,
                                            fold :=
                                              (((p'.fold * 48271 + p'.count * 7919 + 13) % 2147483647 *
                                                            ((p'.fold * 48271 + p'.count * 7919 + 13) % 2147483647) +
                                                          31 * ((p'.fold * 48271 + p'.count * 7919 + 13) % 2147483647) +
                                                        p'.count) %
                                                      2147483629 *
                                                    16807 +
                                                  7) %
                                                2147483647,
                                            rows := p'.rows } := by
    intro q hq hr
    obtain ⟨g1, g2, g3, g4, g5⟩ := hq
    split
    · rename_i hd
      have ok : ({ cells := q.cells, at_ := q.at_, digits := q.digits / n, count := q.count, fold := q.fold, rows := q.rows } : PenSt).Ok := ⟨g1, g2, Int.ediv_nonneg g3 (Int.le_of_lt h0), g4, g5⟩
      exact ⟨h0, ⟨h0, h1⟩, ok, k _ _ (Int.emod_nonneg _ (by omega)) (Int.emod_lt_of_pos _ h0) ok hr⟩
    · refine ⟨.inr (by decide), .inr (by decide), in64_ok (by omega), .inl (by decide), .inr (by decide), ?_, by decide, h0, k _ _ (Int.emod_nonneg _ (by omega)) (Int.emod_lt_of_pos _ h0) ?_ hr⟩
      · exact ⟨g1, g2, g3, Int.emod_nonneg _ (by decide), Int.lt_trans (Int.emod_lt_of_pos _ (by decide)) (by decide)⟩
      · exact ⟨g1, g2, g3, Int.emod_nonneg _ (by decide), Int.lt_trans (Int.emod_lt_of_pos _ (by decide)) (by decide)⟩
  obtain ⟨g1, g2, g3, g4, g5⟩ := id hp
  unfold Cm.m__law_draw
  simp only [y_mOf, s_seq]
  simp [begin_, -Int.reducePow]
  refine ⟨⟨g1, g2, g3, g4, g5⟩, ?_⟩
  have ok1 : ({ p with count := p.count + 1 } : PenSt).Ok := ⟨g1, g2, g3, g4, g5⟩
  split
  · rename_i hd
    split
    · rename_i ha
      obtain ⟨e1, _⟩ := v_ix (ds := p.cells.map D.int) (n := p.at_) (d := .int p.cells[p.at_]) (by simp [ha]) (by simp; omega)
      rw [e1]
      have ok2 : ({ p with at_ := p.at_ + 1, count := p.count + 1 } : PenSt).Ok := ⟨ha, g2, g3, g4, g5⟩
      simp [-Int.reducePow]
      refine ⟨ok2, ?_⟩
      split
      · rename_i hc
        have ok3 : ({ p with at_ := p.at_ + 1, count := p.count + 1, digits := p.cells[p.at_] - 1000000000000000000 } : PenSt).Ok := ⟨ha, g2, by show 0 ≤ _ - _; omega, g4, g5⟩
        exact ⟨ok3, by simpa using tail _ ok3 rfl⟩
      · rename_i hc
        have ok3 : ({ p with at_ := p.at_ + 1, count := p.count + 1, fold := (p.fold * 69069 + p.cells[p.at_]) % 2147483587 } : PenSt).Ok := ⟨ha, g2, g3, Int.emod_nonneg _ (by decide), Int.lt_trans (Int.emod_lt_of_pos _ (by decide)) (by decide)⟩
        exact ⟨.inr (by decide), ok3, by simpa using tail _ ok3 rfl⟩
    · simpa using tail _ ok1 rfl
  · simpa using tail _ ok1 rfl

@[simp] theorem rng_len {i : Int} : (rngD 0 i).length = i.toNat := by unfold rngD; simp
theorem pick_ok {p : PenSt} {ds : List D} {Q : D → PenSt → Prop} (hp : p.Ok) (h : ds ≠ []) (hz : ds.length ≤ 16777216) (k : ∀ d p', d ∈ ds → p'.Ok → p'.rows = p.rows → Q d p') : Yes (Cm.m__law_pick [.pen, .lst ds] p) Q := by
  unfold Cm.m__law_pick
  simp [begin_]
  have : 0 < ds.length := List.length_pos_iff.mpr h
  refine draw_ok hp (by omega) (by omega) fun r p' h0 h1 ok e => ?_
  obtain ⟨n, rfl⟩ := Int.eq_ofNat_of_zero_le h0
  have hn : n < ds.length := by omega
  rw [(v_ix (List.getElem?_eq_getElem hn) hz).1]
  simp
  exact k _ _ (List.getElem_mem hn) ok e
theorem erase_perm {α : Type} {l : List α} {n : Nat} (hn : n < l.length) : ([l[n]] ++ l.eraseIdx n).Perm l := by
  rw [List.eraseIdx_eq_take_drop_succ]
  have e : l.take n ++ l[n] :: l.drop (n + 1) = l := by rw [← List.drop_eq_getElem_cons hn, List.take_append_drop]
  have q : (l[n] :: (l.take n ++ l.drop (n + 1))).Perm (l.take n ++ l[n] :: l.drop (n + 1)) := List.perm_middle.symm
  rw [e] at q
  exact q
theorem shuffled_ok {p : PenSt} {ds : List D} {Q : D → PenSt → Prop} (hp : p.Ok) (hz : ds.length ≤ 1000) (k : ∀ es p', es.Perm ds → p'.Ok → p'.rows = p.rows → Q (.lst es) p') : Yes (Cm.m__law_shuffled [.pen, .lst ds] p) Q := by
  unfold Cm.m__law_shuffled
  simp [begin_, toX, setAll, s_for_]
  refine ⟨by omega, ?_⟩
  refine for_yes (I := fun rest e q => ∃ left found s, e = [.sh .pen, .sh (.lst ds), .ow left, .ow found, s] ∧ rest.length = left.length ∧ (found ++ left).Perm ds ∧ q.Ok ∧ q.rows = p.rows) ⟨ds, [], .no, rfl, by simp, by simp, hp, rfl⟩ ?_ ?_
  · rintro d rest e q ⟨left, found, s, rfl, hl, hperm, hq, hr⟩
    have hlen := hperm.length_eq
    rw [List.length_append] at hlen
    rw [List.length_cons] at hl
    simp
    refine draw_ok hq (by omega) (by omega) fun r p' h0 h1 ok e => ?_
    obtain ⟨n, rfl⟩ := Int.eq_ofNat_of_zero_le h0
    have hn : n < left.length := by omega
    simp
    refine ⟨⟨by omega, by omega⟩, ?_⟩
    rw [List.getElem?_eq_getElem hn]
    simp
    refine ⟨_, _, ⟨rfl, rfl⟩, ?_, ?_, ok, by rw [e, hr]⟩
    · rw [List.length_eraseIdx_of_lt hn]
      omega
    · refine List.Perm.trans ?_ hperm
      rw [List.append_assoc]
      exact List.Perm.append_left _ (erase_perm hn)
  · rintro e q ⟨left, found, s, rfl, hl, hperm, hq, hr⟩
    have : left = [] := List.length_eq_zero_iff.mp (by simpa using hl.symm)
    subst this
    simp
    exact k _ _ (by simpa using hperm) hq hr
end Cr
/-! ## plain data; papers; orders -/
namespace Cr
open PySem L2
theorem comp_map {env : Env} {p : PenSt} {bd : BF} {fe : FV D} {ds : List D} {F : D → D} (h : ∀ d ∈ ds, ∃ e, bd d env = some e ∧ Yes (fe e p) fun r q => r = F d ∧ q = p) : compL bd tfYes fe env ds p = some (ds.map F, p) := by
  have := comp_pure (bd := bd) (ft := tfYes) (fe := fe) (env := env) (p := p) (t := fun _ => true) (F := F) (ds := ds) fun d hd => by
    obtain ⟨e, h1, h2⟩ := h d hd
    exact ⟨e, h1, _, _, rfl, rfl, rfl, fun _ => h2⟩
  rw [List.filter_eq_self.mpr (by simp)] at this
  exact this
theorem comp_filter {env : Env} {p : PenSt} {bd : BF} {ft : FV Bool} {fe : FV D} {ds : List D} {t : D → Bool} (h : ∀ d ∈ ds, ∃ e, bd d env = some e ∧ Yes (ft e p) fun b q => b = t d ∧ q = p ∧ (t d = true → Yes (fe e p) fun r q => r = d ∧ q = p)) : compL bd ft fe env ds p = some (ds.filter t, p) := by
  have := comp_pure (bd := bd) (ft := ft) (fe := fe) (env := env) (p := p) (t := t) (F := id) (ds := ds) h
  rw [List.map_id] at this
  exact this
theorem yes_map' {env : Env} {p : PenSt} {bd : BF} {fe : FV D} {ds : List D} {Q : List D → PenSt → Prop} (F : D → D) (h : ∀ d ∈ ds, ∃ e, bd d env = some e ∧ Yes (fe e p) fun r q => r = F d ∧ q = p) (k : Q (ds.map F) p) : Yes (compL bd tfYes fe env ds p) Q := eq_yes (comp_map h) k
theorem yes_filter {env : Env} {p : PenSt} {bd : BF} {ft : FV Bool} {fe : FV D} {ds : List D} {Q : List D → PenSt → Prop} (t : D → Bool) (h : ∀ d ∈ ds, ∃ e, bd d env = some e ∧ Yes (ft e p) fun b q => b = t d ∧ q = p ∧ (t d = true → Yes (fe e p) fun r q => r = d ∧ q = p)) (k : Q (ds.filter t) p) : Yes (compL bd ft fe env ds p) Q := eq_yes (comp_filter h) k
theorem yes_fm {env : Env} {p : PenSt} {bd : BF} {ft : FV Bool} {fe : FV D} {ds : List D} {Q : List D → PenSt → Prop} (t : D → Bool) (F : D → D) (h : ∀ d ∈ ds, ∃ e, bd d env = some e ∧ Yes (ft e p) fun b q => b = t d ∧ q = p ∧ (t d = true → Yes (fe e p) fun r q => r = F d ∧ q = p)) (k : Q ((ds.filter t).map F) p) : Yes (compL bd ft fe env ds p) Q := eq_yes (comp_pure h) k
mutual
def pln : D → Nat → Bool
  | .non, _ => true
  | .bl _, _ => true
  | .int _, _ => true
  | .lst xs, n + 1 => decide (xs.length ≤ 65536) && plns xs n
  | .tup xs, n + 1 => decide (xs.length ≤ 65536) && plns xs n
  | _, _ => false
def plns : List D → Nat → Bool
  | [], _ => true
  | x :: xs, n => pln x n && plns xs n
end
theorem plns_iff {n : Nat} : ∀ {xs : List D}, plns xs n = true ↔ ∀ x ∈ xs, pln x n = true
  | [] => by simp [plns]
  | x :: xs => by
    unfold plns
    rw [Bool.and_eq_true, plns_iff (xs := xs)]
    simp
theorem pln_t {xs : List D} {n : Nat} : pln (.tup xs) (n + 1) = true ↔ xs.length ≤ 65536 ∧ ∀ x ∈ xs, pln x n = true := by
  rw [← plns_iff]
  show (decide (xs.length ≤ 65536) && plns xs n) = true ↔ _
  simp
theorem pln_l {xs : List D} {n : Nat} : pln (.lst xs) (n + 1) = true ↔ xs.length ≤ 65536 ∧ ∀ x ∈ xs, pln x n = true := by
  rw [← plns_iff]
  show (decide (xs.length ≤ 65536) && plns xs n) = true ↔ _
  simp
mutual
theorem pln_dat : ∀ (d : D) (n : Nat), pln d n = true → dat d n = true
  | .non, _, _ => rfl
  | .bl _, _, _ => rfl
  | .int _, _, _ => rfl
  | .lst xs, n + 1, h => by
    have h : (decide (xs.length ≤ 65536) && plns xs n) = true := h
    exact plns_dat xs n (Bool.and_eq_true_iff.mp h).2
  | .tup xs, n + 1, h => by
    have h : (decide (xs.length ≤ 65536) && plns xs n) = true := h
    exact plns_dat xs n (Bool.and_eq_true_iff.mp h).2
  | .lst _, 0, h => by cases h
  | .tup _, 0, h => by cases h
  | .str _, _, h => by cases h
  | .pen, _, h => by cases h
  | .row _, _, h => by cases h
  | .dct _, _, h => by cases h
  | .obj _ _, _, h => by cases h
theorem plns_dat : ∀ (ds : List D) (n : Nat), plns ds n = true → dats ds n = true
  | [], _, _ => rfl
  | x :: xs, n, h => by
    have h : (pln x n && plns xs n) = true := h
    rw [Bool.and_eq_true] at h
    show (dat x n && dats xs n) = true
    rw [pln_dat x n h.1, plns_dat xs n h.2]
    rfl
end
mutual
theorem pln_up : ∀ (d : D) (n m : Nat), n ≤ m → pln d n = true → pln d m = true
  | .non, _, _, _, _ => rfl
  | .bl _, _, _, _, _ => rfl
  | .int _, _, _, _, _ => rfl
  | .lst xs, n + 1, m + 1, hl, h => by
    have h : (decide (xs.length ≤ 65536) && plns xs n) = true := h
    rw [Bool.and_eq_true] at h
    show (decide (xs.length ≤ 65536) && plns xs m) = true
    rw [h.1, plns_up xs n m (Nat.le_of_succ_le_succ hl) h.2]
    rfl
  | .tup xs, n + 1, m + 1, hl, h => by
    have h : (decide (xs.length ≤ 65536) && plns xs n) = true := h
    rw [Bool.and_eq_true] at h
    show (decide (xs.length ≤ 65536) && plns xs m) = true
    rw [h.1, plns_up xs n m (Nat.le_of_succ_le_succ hl) h.2]
    rfl
  | .lst xs, n + 1, 0, hl, h => absurd hl (by omega)
  | .tup xs, n + 1, 0, hl, h => absurd hl (by omega)
  | .lst _, 0, _, _, h => by cases h
  | .tup _, 0, _, _, h => by cases h
  | .str _, _, _, _, h => by cases h
  | .pen, _, _, _, h => by cases h
  | .row _, _, _, _, h => by cases h
  | .dct _, _, _, _, h => by cases h
  | .obj _ _, _, _, _, h => by cases h
theorem plns_up : ∀ (ds : List D) (n m : Nat), n ≤ m → plns ds n = true → plns ds m = true
  | [], _, _, _, _ => rfl
  | x :: xs, n, m, hl, h => by
    have h : (pln x n && plns xs n) = true := h
    rw [Bool.and_eq_true] at h
    show (pln x m && plns xs m) = true
    rw [pln_up x n m hl h.1, plns_up xs n m hl h.2]
    rfl
end
/-! ### tuples all the way -/
mutual
def asT : D → D
  | .lst xs => .tup (asTs xs)
  | .tup xs => .tup (asTs xs)
  | d => d
def asTs : List D → List D
  | [] => []
  | x :: xs => asT x :: asTs xs
end
theorem asTs_map : ∀ xs : List D, asTs xs = xs.map asT
  | [] => rfl
  | x :: xs => by
    rw [asTs, asTs_map xs]
    rfl
theorem asT_ints (ns : List Int) : asT (.tup (ns.map D.int)) = .tup (ns.map D.int) := by
  show D.tup (asTs _) = _
  rw [asTs_map, List.map_map]
  rfl
theorem asT_pln : ∀ (n : Nat) (d : D), pln d n = true → pln (asT d) n = true := by
  intro n
  induction n with
  | zero => intro d h; cases d <;> first | exact h | cases h
  | succ n ih =>
    intro d h
    cases d with
    | lst xs =>
      obtain ⟨h1, h2⟩ := pln_l.mp h
      show pln (.tup (asTs xs)) (n + 1) = true
      rw [asTs_map, pln_t]
      refine ⟨by rw [List.length_map]; exact h1, fun x hx => ?_⟩
      obtain ⟨y, hy, rfl⟩ := List.mem_map.mp hx
      exact ih y (h2 y hy)
    | tup xs =>
      obtain ⟨h1, h2⟩ := pln_t.mp h
      show pln (.tup (asTs xs)) (n + 1) = true
      rw [asTs_map, pln_t]
      refine ⟨by rw [List.length_map]; exact h1, fun x hx => ?_⟩
      obtain ⟨y, hy, rfl⟩ := List.mem_map.mp hx
      exact ih y (h2 y hy)
    | _ => first | exact h | cases h
theorem as_tuples_eq {p : PenSt} : ∀ (n : Nat) (d : D), pln d n = true → Cm.m_as_tuples (n + 1) [d] p = some (asT d, p) := by
  intro n
  induction n with
  | zero => intro d h; cases d <;> first | rfl | cases h
  | succ n ih =>
    have step : ∀ xs : List D, xs.length ≤ 65536 → (∀ x ∈ xs, pln x n = true) → ∀ (s : Slot), compL (bN 1) tfYes (fCall (Cm.m_as_tuples (n + 1)) (aCons (fVar 1) aNil)) [s, .no] xs p = some (xs.map asT, p) := fun xs h1 h2 s => by
      exact comp_map fun d hd => ⟨[s, .sh d], rfl, by
        simp
        exact eq_yes (ih d (h2 d hd)) ⟨rfl, rfl⟩⟩
    intro d h
    cases d with
    | lst xs =>
      obtain ⟨h1, h2⟩ := pln_l.mp h
      refine yes_eq ?_
      unfold Cm.m_as_tuples
      simp [begin_, gIsi2, isT, tyD, wipeE]
      rw [yes_at (step xs h1 h2 _)]
      simp
      exact ⟨by omega, by show D.tup _ = D.tup _; rw [asTs_map]⟩
    | tup xs =>
      obtain ⟨h1, h2⟩ := pln_t.mp h
      refine yes_eq ?_
      unfold Cm.m_as_tuples
      simp [begin_, gIsi2, isT, tyD, wipeE]
      rw [yes_at (step xs h1 h2 _)]
      simp
      exact ⟨by omega, by show D.tup _ = D.tup _; rw [asTs_map]⟩
    | non => rfl
    | bl b => rfl
    | int i => rfl
    | _ => cases h
/-- a paper of one field -/
theorem init1 {c : String} {fl : Str} {v : D} {p : PenSt} {Q : List (Str × D) → PenSt → Prop} (h : pln v 11 = true) (k : Q [(fl, asT v)] p) : YesI (initOf 1 c (sFldS 0 fl (fCall (Cm.m_as_tuples 12) (aCons (fVar 1) aNil)))) [v] p Q := by
  refine ⟨_, _, fun x => ?_, k⟩
  unfold initOf sFldS fCall aCons aNil fVar
  simp [begin_, as_tuples_eq 11 v h, putD]
end Cr
/-! ## orders -/
namespace Cr
open PySem L2
theorem eqDs_ints : ∀ xs ys : List Int, eqDs (xs.map D.int) (ys.map D.int) = decide (xs = ys)
  | [], [] => rfl
  | [], _ :: _ => rfl
  | _ :: _, [] => rfl
  | x :: xs, y :: ys => by
    show (eqD (.int x) (.int y) && eqDs (xs.map D.int) (ys.map D.int)) = _
    rw [eqDs_ints xs ys]
    show ((x == y) && _) = _
    by_cases h : x = y <;> simp [h]
theorem dats_ints (n : Nat) : ∀ xs : List Int, dats (xs.map D.int) n = true
  | [] => rfl
  | x :: xs => by
    show (true && dats (xs.map D.int) n) = true
    rw [dats_ints n xs]
    rfl
theorem v_eqL (xs ys : List Int) : gEq (.lst (xs.map D.int)) (.lst (ys.map D.int)) = some (.bl (decide (xs = ys))) := by
  unfold gEq
  rw [if_pos (by
    show (dats (xs.map D.int) 63 && dats (ys.map D.int) 63) = true
    rw [dats_ints, dats_ints]
    rfl)]
  show some (D.bl (eqDs _ _)) = _
  rw [eqDs_ints]
/-- compared with [] -/
theorem v_eqNil {ds : List D} (h : dats ds 63 = true) : gEq (.lst ds) (.lst []) = some (.bl ds.isEmpty) ∧ gNe (.lst ds) (.lst []) = some (.bl (!ds.isEmpty)) := by
  unfold gEq gNe
  have c : (dat (.lst ds) 64 && dat (.lst []) 64) = true := by
    show (dats ds 63 && true) = true
    rw [h]
    rfl
  rw [if_pos c, if_pos c]
  cases ds <;> exact ⟨rfl, rfl⟩
def rngI (n : Int) : List Int := (List.range n.toNat).map fun (i : Nat) => (i : Int)
theorem rngD_0 (n : Int) : rngD 0 n = (rngI n).map D.int := by
  unfold rngD rngI
  simp
@[simp] theorem rngI_len {n : Int} : (rngI n).length = n.toNat := by unfold rngI; simp
theorem rngI_mem {n i : Int} : i ∈ rngI n ↔ 0 ≤ i ∧ i < n := by
  unfold rngI
  rw [List.mem_map]
  constructor
  · rintro ⟨k, hk, rfl⟩
    have := List.mem_range.mp hk
    omega
  · intro h
    exact ⟨i.toNat, List.mem_range.mpr (by omega), by omega⟩
theorem rngI_nodup (n : Int) : (rngI n).Nodup := by
  unfold rngI
  refine List.Pairwise.map _ ?_ List.nodup_range
  intro a b h z
  exact h (by omega)
theorem rgOk_0 {n : Int} (h0 : 0 ≤ n) (h : n ≤ 16777216) : rgOk (0, n) = true := by
  unfold rgOk
  simp only [Bool.and_eq_true, decide_eq_true_eq]
  refine ⟨⟨⟨⟨?_, ?_⟩, ?_⟩, ?_⟩, ?_⟩ <;> omega
/-! ### whole numbers, indexes -/
def isInt : D → Bool
  | .int _ => true
  | _ => false
theorem whole_eq {d : D} {n : Nat} {p : PenSt} (h : pln d n = true) : Cm.m_is_whole [d] p = some (.bl (isInt d), p) ∧ Cm.m__law_whole [d] p = some (.bl (isInt d), p) := by
  cases d <;> first | exact ⟨rfl, rfl⟩ | cases h
def isIdx (n : Int) : D → Bool
  | .int i => decide (0 ≤ i) && decide (i < n)
  | _ => false
theorem index_eq {d : D} {n : Int} {k : Nat} {p : PenSt} (h : pln d k = true) : Cm.m_is_index [d, .int n] p = some (.bl (isIdx n d), p) := by
  refine yes_eq ?_
  unfold Cm.m_is_index
  simp [begin_]
  rw [yes_at (whole_eq h).1]
  cases d <;> simp [isInt, isIdx]
  rename_i i
  by_cases h0 : 0 ≤ i <;> simp [h0]
/-! ### orders -/
def isOrd (n : Int) (d : D) : Bool := match d with
  | .tup ds => (match intsD ds with
    | some ns => decide (isort ns = rngI n)
    | none => false)
  | _ => false
theorem intsD_filter : ∀ {ds : List D}, (ds.filter fun d => !isInt d) = [] → ∃ ns : List Int, ds = ns.map D.int
  | [], _ => ⟨[], rfl⟩
  | d :: ds, h => by
    cases d with
    | int i =>
      obtain ⟨ns, e⟩ := intsD_filter (ds := ds) (by simpa [isInt] using h)
      exact ⟨i :: ns, by rw [e]; rfl⟩
    | _ => simp [isInt] at h
theorem intsD_none : ∀ {ds : List D}, (ds.filter fun d => !isInt d) ≠ [] → intsD ds = none
  | [], h => absurd rfl h
  | d :: ds, h => by
    cases d with
    | int i =>
      have := intsD_none (ds := ds) (by simpa [isInt] using h)
      show (intsD ds).map (i :: ·) = none
      rw [this]
      rfl
    | _ => rfl
theorem v_sortI (ns : List Int) : gSorted (.tup (ns.map D.int)) = some (.lst ((isort ns).map D.int)) ∧ gSorted (.lst (ns.map D.int)) = some (.lst ((isort ns).map D.int)) := by
  have : sortD (ns.map D.int) = some (.lst ((isort ns).map D.int)) := by
    unfold sortD
    rw [intsD_map]
  exact ⟨this, this⟩
theorem mapInt_inj {xs ys : List Int} (h : xs.map D.int = ys.map D.int) : xs = ys := List.map_inj_right (fun a b e => by cases e; rfl) |>.mp h
theorem law_is_order_eq {d : D} {n : Int} {p : PenSt} (h : pln d 50 = true) (h0 : 0 ≤ n) (h1 : n ≤ 16777216) : Cm.m__law_is_order [.int n, d] p = some (.bl (isOrd n d), p) := by
  refine yes_eq ?_
  unfold Cm.m__law_is_order
  cases d with
  | tup ds =>
    obtain ⟨g1, g2⟩ := pln_t.mp h
    simp [begin_, gIsi, isT, tyD, wipeE]
    refine yes_filter (fun d => !isInt d) (fun d hd => ⟨_, rfl, by
      simp
      exact eq_yes (whole_eq (g2 d hd)).2 (by simp)⟩) ?_
    have hd : dats (ds.filter fun d => !isInt d) 63 = true := plns_dat _ _ (plns_iff.mpr fun x hx => pln_up _ 49 63 (by decide) (g2 x ((List.mem_filter.mp hx).1)))
    have hl : (ds.filter fun d => !isInt d).length ≤ 16777216 := Nat.le_trans (List.length_filter_le ..) (by omega)
    rw [(v_eqNil hd).2]
    simp only [yesO_some, onB_bl]
    refine ⟨hl, ?_⟩
    by_cases he : (ds.filter fun d => !isInt d) = []
    · obtain ⟨ns, rfl⟩ := intsD_filter he
      rw [he]
      simp [(v_sortI ns).1, rgOk_0 h0 h1, rngD_0, v_eqL, isOrd, intsD_map]
    · have : (ds.filter fun d => !isInt d).isEmpty = false := by
        cases q : ds.filter fun d => !isInt d with
        | nil => exact absurd q he
        | cons _ _ => rfl
      rw [this]
      simp [isOrd, intsD_none he]
  | lst ds => exact ⟨_, _, rfl, rfl, rfl⟩
  | non => exact ⟨_, _, rfl, rfl, rfl⟩
  | bl b => exact ⟨_, _, rfl, rfl, rfl⟩
  | int i => exact ⟨_, _, rfl, rfl, rfl⟩
  | _ => cases h
theorem isort_perm (ns : List Int) : (isort ns).Perm ns := List.mergeSort_perm _ _
theorem isOrd_len {n : Int} {ns : List Int} (h : isort ns = rngI n) : ns.length = n.toNat ∧ ∀ i ∈ ns, 0 ≤ i ∧ i < n := by
  have p := isort_perm ns
  rw [h] at p
  refine ⟨by rw [← p.length_eq, rngI_len], fun i hi => rngI_mem.mp (p.symm.subset hi)⟩
theorem is_order_eq {d : D} {n : Int} {p : PenSt} (h : pln d 50 = true) (h0 : 0 ≤ n) (h1 : n ≤ 16777216) : Cm.m_is_order [.int n, d] p = some (.bl (isOrd n d), p) := by
  refine yes_eq ?_
  unfold Cm.m_is_order
  cases d with
  | tup ds =>
    obtain ⟨g1, g2⟩ := pln_t.mp h
    simp [begin_, gIsi, isT, tyD, wipeE]
    by_cases hlen : (ds.length : Int) = n
    · have e : ((ds.length : Int) = n) = True := by simp [hlen]
      simp only [hlen, if_true, decide_true, Bool.not_true, Bool.false_eq_true, if_false]
      refine yes_map' (fun d => .bl (isIdx n d)) (fun d hd => ⟨_, rfl, by
        simp
        exact eq_yes (index_eq (g2 d hd)) ⟨rfl, rfl⟩⟩) ?_
      have e2 : (ds.map fun d => D.bl (isIdx n d)) = (ds.map (isIdx n)).map D.bl := by rw [List.map_map]; rfl
      refine ⟨by rw [List.length_map]; omega, ?_⟩
      rw [e2]
      show YesO ((blsD ((ds.map (isIdx n)).map D.bl)).map fun bs => D.bl (bs.all id)) _
      rw [blsD_map]
      by_cases hall : ∀ d ∈ ds, isIdx n d = true
      · have e3 : (ds.map (isIdx n)).all id = true := by simpa using hall
        obtain ⟨ns, rfl⟩ := intsD_filter (ds := ds) (List.filter_eq_nil_iff.mpr fun d hd => by
          have := hall d hd
          cases d <;> simp_all [isIdx, isInt])
        simp [e3, (v_sortI ns).1, rgOk_0 h0 h1, rngD_0, v_eqL, isOrd, intsD_map]
        intro x hx hf
        rw [hall _ (List.mem_map.mpr ⟨x, hx, rfl⟩)] at hf
        cases hf
      · have e3 : (ds.map (isIdx n)).all id = false := by
          rw [Bool.eq_false_iff]
          intro z
          exact hall (by simpa using z)
        simp only [Option.map_some, yesO_some, v_truB, e3, Bool.not_false, if_true]
        simp
        unfold isOrd
        cases q : intsD ds with
        | none => simp [q]
        | some ns =>
          simp [q]
          intro z
          obtain ⟨_, z2⟩ := isOrd_len z
          have := intsD_some q
          subst this
          exact hall fun d hd => by
            obtain ⟨i, hi, rfl⟩ := List.mem_map.mp hd
            have := z2 i hi
            simp [isIdx, this]
    · simp [hlen]
      unfold isOrd
      cases q : intsD ds with
      | none => simp [q]
      | some ns =>
        simp [q]
        intro z
        obtain ⟨z1, _⟩ := isOrd_len z
        have := intsD_some q
        subst this
        rw [List.length_map] at hlen
        omega
  | lst ds => exact ⟨_, _, rfl, rfl, rfl⟩
  | non => exact ⟨_, _, rfl, rfl, rfl⟩
  | bl b => exact ⟨_, _, rfl, rfl, rfl⟩
  | int i => exact ⟨_, _, rfl, rfl, rfl⟩
  | _ => cases h
end Cr
/-! ## all orders, all lots -/
namespace Cr
open PySem L2
def tupsOf (rows : List (List Int)) : List D := rows.map fun r => D.tup (r.map D.int)
@[simp] theorem tupsOf_len {rows : List (List Int)} : (tupsOf rows).length = rows.length := List.length_map ..
theorem tupsOf_app (a b : List (List Int)) : tupsOf (a ++ b) = tupsOf a ++ tupsOf b := List.map_append ..
def ordS (n : Int) (rows : List (List Int)) : List (List Int) := rows.flatMap fun r => ((rngI n).filter fun i => decide (i ∉ r)).map fun i => r ++ [i]
def ordK (n : Int) : Nat → List (List Int)
  | 0 => [[]]
  | k + 1 => ordS n (ordK n k)
theorem ordS_len (n : Int) : ∀ rows : List (List Int), (ordS n rows).length ≤ rows.length * n.toNat
  | [] => by simp [ordS]
  | r :: rows => by
    have ih := ordS_len n rows
    unfold ordS at ih ⊢
    rw [List.flatMap_cons, List.length_append, List.length_map, List.length_cons, Nat.add_mul, Nat.one_mul]
    have : ((rngI n).filter fun i => decide (i ∉ r)).length ≤ n.toNat := by
      refine Nat.le_trans (List.length_filter_le ..) ?_
      rw [rngI_len]
      exact Nat.le_refl _
    omega
theorem ordK_len (n : Int) (h : n ≤ 8) : ∀ k : Nat, (ordK n k).length ≤ 8 ^ k
  | 0 => by simp [ordK]
  | k + 1 => by
    have ih := ordK_len n h k
    have := ordS_len n (ordK n k)
    show (ordS n (ordK n k)).length ≤ _
    rw [Nat.pow_succ]
    exact Nat.le_trans this (Nat.mul_le_mul ih (by omega))
theorem ordK_ok (n : Int) : ∀ (k : Nat) (r : List Int), r ∈ ordK n k → r.length = k ∧ r.Nodup ∧ ∀ i ∈ r, 0 ≤ i ∧ i < n
  | 0, r, h => by
    have : r = [] := by simpa [ordK] using h
    subst this
    exact ⟨rfl, .nil, fun i h => by cases h⟩
  | k + 1, r, h => by
    have h : r ∈ ordS n (ordK n k) := h
    unfold ordS at h
    obtain ⟨s, hs, h⟩ := List.mem_flatMap.mp h
    obtain ⟨i, hi, rfl⟩ := List.mem_map.mp h
    obtain ⟨h1, h2⟩ := List.mem_filter.mp hi
    obtain ⟨g1, g2, g3⟩ := ordK_ok n k s hs
    refine ⟨by rw [List.length_append, g1]; rfl, ?_, fun j hj => ?_⟩
    · rw [List.nodup_append]
      refine ⟨g2, by simp, fun a ha b hb => ?_⟩
      rw [List.mem_singleton] at hb
      rintro rfl
      subst hb
      exact (of_decide_eq_true h2) ha
    · rcases List.mem_append.mp hj with z | z
      · exact g3 j z
      · rw [List.mem_singleton] at z
        subst z
        exact rngI_mem.mp h1
theorem all_flat : ∀ r : List Int, (r.map D.int).all flatD = true
  | [] => rfl
  | _ :: r => by
    show (true && (r.map D.int).all flatD) = true
    rw [all_flat r]
    rfl
theorem any_eq (i : Int) : ∀ r : List Int, ((r.map D.int).any fun z => eqD z (.int i)) = decide (i ∈ r)
  | [] => rfl
  | j :: r => by
    rw [List.map_cons, List.any_cons, any_eq i r]
    show ((j == i) || _) = _
    by_cases h : j = i
    · subst h
      simp
    · have : ¬ i = j := fun z => h z.symm
      simp [h, this]
theorem v_notIn (i : Int) (r : List Int) : gNotInS (.int i) (.tup (r.map D.int)) = some (.bl (decide (i ∉ r))) := by
  show (if (flatD (.int i) && (r.map D.int).all flatD) = true then some (D.bl (true ^^ (r.map D.int).any fun z => eqD z (.int i))) else none) = _
  rw [if_pos (by rw [all_flat]; rfl), any_eq]
  by_cases h : i ∈ r <;> simp [h]
theorem v_inT (i : Int) (r : List Int) : gInS (.int i) (.tup (r.map D.int)) = some (.bl (decide (i ∈ r))) := by
  show (if (flatD (.int i) && (r.map D.int).all flatD) = true then some (D.bl (false ^^ (r.map D.int).any fun z => eqD z (.int i))) else none) = _
  rw [if_pos (by rw [all_flat]; rfl), any_eq]
  by_cases h : i ∈ r <;> simp [h]
theorem sx (n : Int) (r : List Int) : (List.map (fun (d : D) => (match d with | .int i => D.tup (r.map D.int ++ [.int i]) | _ => .non)) (List.filter (fun (d : D) => (match d with | .int i => decide (i ∉ r) | _ => false)) ((rngI n).map D.int))) = tupsOf (((rngI n).filter fun i => decide (i ∉ r)).map fun i => r ++ [i]) := by
  unfold tupsOf
  rw [List.filter_map, List.map_map, List.map_map]
  refine List.map_congr_left fun i hi => ?_
  show D.tup _ = D.tup _
  simp
theorem orders_loop {p : PenSt} {n : Int} {fe : FV D} (h0 : 0 ≤ n) (h1 : n ≤ 8) (hfe : ∀ (e : Env) (r : List Int) (i : Int) (p : PenSt), e[4]? = some (.sh (.tup (r.map D.int))) → e[5]? = some (.sh (.int i)) → r.length ≤ 100 → fe e p = some (.tup (r.map D.int ++ [.int i]), p)) :
    mOf 6 ((sSeq (sSet 1 (fSh (fLst (aCons (fTup aNil) aNil))))
  (sSeq (sFor (fRgI (fRg1 (fVar 0))) (bN 2) (sSeq (sSet 3 (fX (fLst aNil)))
  (sSeq (sFor (fItems (fVar 1)) (bN 4) (sExt 3 (fComp [5] (fRgI (fRg1 (fVar 0))) (bN 5) (fBl (f2 gNotInS (fVarB 5) (fVarB 4))) fe)))
  (sFz 3 (sSet 1 (fSh (fVar 3)))))))
  (sRet (fVar 1))))) [.int n] p = some (.lst (tupsOf (ordK n n.toNat)), p) := by
  have z8 : ∀ k : Nat, k ≤ 8 → 8 ^ k ≤ 16777216 := fun k hk => Nat.le_trans (Nat.pow_le_pow_right (by decide) hk) (by decide)
  refine yes_eq ?_
  simp [begin_, s_for_, toX]
  refine ⟨by omega, ?_⟩
  refine for_yes (I := fun rest e q => ∃ (k : Nat) (s2 s3 s4 : Slot), e = [.sh (.int n), .sh (.lst (tupsOf (ordK n k))), s2, s3, s4, .no] ∧ rest.length + k = n.toNat ∧ q = p) ⟨0, .no, .no, .no, rfl, by simp, rfl⟩ ?_ ?_
  · rintro d rest e q ⟨k, s2, s3, s4, rfl, hk, rfl⟩
    rw [List.length_cons] at hk
    simp [s_for_]
    refine for_yes (I := fun rest2 e q' => ∃ (done left : List (List Int)) (s5 : Slot), e = [.sh (.int n), .sh (.lst (tupsOf (ordK n k))), .sh d, .ow (tupsOf (ordS n done)), s5, .no] ∧ rest2 = tupsOf left ∧ done ++ left = ordK n k ∧ q' = q) ⟨[], ordK n k, s4, rfl, rfl, rfl, rfl⟩ ?_ ?_
    · rintro d2 rest2 e q' ⟨done, left, s5, rfl, hr, hdl, rfl⟩
      cases left with
      | nil => cases hr
      | cons r left =>
        have hr : D.tup (r.map D.int) :: tupsOf left = d2 :: rest2 := hr.symm
        cases hr
        have hmem : r ∈ ordK n k := by rw [← hdl]; simp
        obtain ⟨g1, g2, g3⟩ := ordK_ok n k r hmem
        simp [wipeE]
        refine ⟨by omega, ?_⟩
        refine yes_fm (fun (d : D) => (match d with | .int i => decide (i ∉ r) | _ => false)) (fun (d : D) => (match d with | .int i => D.tup (r.map D.int ++ [.int i]) | _ => .non)) (fun d hd => ?_) ?_
        · rw [rngD_0] at hd
          obtain ⟨i, hi, rfl⟩ := List.mem_map.mp hd
          refine ⟨_, rfl, ?_⟩
          simp [v_notIn]
          by_cases hir : i ∈ r
          · simp [hir]
          · simp [hir]
            exact eq_yes (hfe _ r i _ rfl rfl (by omega)) ⟨rfl, rfl⟩
        · rw [rngD_0, sx]
          have l1 : (((rngI n).filter fun i => decide (i ∉ r)).map fun i => r ++ [i]).length ≤ n.toNat := by
            rw [List.length_map]
            refine Nat.le_trans (List.length_filter_le ..) ?_
            rw [rngI_len]
            exact Nat.le_refl _
          have e3 : ordS n (done ++ [r]) = ordS n done ++ ((rngI n).filter fun i => decide (i ∉ r)).map fun i => r ++ [i] := by
            unfold ordS
            rw [List.flatMap_append]
            simp
          have l2 : (ordS n (done ++ [r])).length ≤ 16777216 := by
            have a1 := ordS_len n (done ++ [r])
            have a2 : (done ++ [r]).length ≤ 8 ^ k := by
              have := congrArg List.length hdl
              have b := ordK_len n h1 k
              rw [← this, List.length_append, List.length_cons] at b
              rw [List.length_append]
              simp
              omega
            have a3 : (done ++ [r]).length * n.toNat ≤ 8 ^ k * 8 := Nat.mul_le_mul a2 (by omega)
            have a4 := z8 (k + 1) (by omega)
            rw [Nat.pow_succ] at a4
            omega
          rw [e3, List.length_append] at l2
          refine ⟨by rw [tupsOf_len]; omega, ?_⟩
          simp
          refine ⟨by simp at l2; omega, done ++ [r], ?_, left, rfl, by simp [hdl]⟩
          rw [e3, tupsOf_app]
          simp
    · rintro e q' ⟨done, left, s5, rfl, hr, hdl, rfl⟩
      have : left = [] := by
        cases left with
        | nil => rfl
        | cons a b => cases hr
      subst this
      rw [List.append_nil] at hdl
      simp
      exact ⟨k + 1, by rw [hdl]; rfl, by omega⟩
  · rintro e q ⟨k, s2, s3, s4, rfl, hk, rfl⟩
    have : k = n.toNat := by simpa using hk
    subst this
    simp
end Cr
namespace Cr
open PySem L2
theorem orders_by_eq {p : PenSt} {n : Int} (h0 : 0 ≤ n) (h1 : n ≤ 8) : Cm.m_orders_by [.int n] p = some (.lst (tupsOf (ordK n n.toNat)), p) :=
  orders_loop h0 h1 fun e r i p h4 h5 hl => by
    refine yes_eq ?_
    simp [h4, h5]
    omega
theorem law_orders_eq {p : PenSt} {n : Int} (h0 : 0 ≤ n) (h1 : n ≤ 8) : Cm.m__law_orders [.int n] p = some (.lst (tupsOf (ordK n n.toNat)), p) :=
  orders_loop h0 h1 fun e r i p h4 h5 hl => by
    refine yes_eq ?_
    simp [h4, h5]
    omega
/-! ### all lots -/
def lotK : Nat → List (List Int)
  | 0 => [[]]
  | k + 1 => lotK k ++ (lotK k).map fun r => r ++ [(k : Int)]
theorem lotK_len : ∀ k : Nat, (lotK k).length = 2 ^ k
  | 0 => rfl
  | k + 1 => by
    show (lotK k ++ _).length = _
    rw [List.length_append, List.length_map, lotK_len k, Nat.pow_succ]
    omega
theorem lotK_ok : ∀ (k : Nat) (r : List Int), r ∈ lotK k → r.length ≤ k ∧ r.Pairwise (· < ·) ∧ ∀ i ∈ r, 0 ≤ i ∧ i < k
  | 0, r, h => by
    have : r = [] := by simpa [lotK] using h
    subst this
    exact ⟨Nat.le_refl _, .nil, fun i h => by cases h⟩
  | k + 1, r, h => by
    rcases List.mem_append.mp (show r ∈ lotK k ++ (lotK k).map fun r => r ++ [(k : Int)] from h) with h | h
    · obtain ⟨h1, h2, h3⟩ := lotK_ok k r h
      exact ⟨by omega, h2, fun i hi => by have := h3 i hi; omega⟩
    · obtain ⟨s, hs, rfl⟩ := List.mem_map.mp h
      obtain ⟨h1, h2, h3⟩ := lotK_ok k s hs
      refine ⟨by rw [List.length_append]; simp; omega, ?_, fun i hi => ?_⟩
      · rw [List.pairwise_append]
        refine ⟨h2, by simp, fun a ha b hb => ?_⟩
        rw [List.mem_singleton] at hb
        have := h3 a ha
        omega
      · rcases List.mem_append.mp hi with z | z
        · have := h3 i z
          omega
        · rw [List.mem_singleton] at z
          omega
theorem intsD_tups : ∀ {rows : List (List Int)}, rows ≠ [] → intsD (tupsOf rows) = none
  | [], h => absurd rfl h
  | _ :: _, _ => rfl
theorem tupsD_tups : ∀ rows : List (List Int), tupsD (tupsOf rows) = some rows
  | [] => rfl
  | r :: rows => by
    show (match intsD (r.map D.int), tupsD (tupsOf rows) with
      | some ns, some nss => some (ns :: nss)
      | _, _ => none) = _
    rw [intsD_map, tupsD_tups rows]
theorem v_sortT {rows : List (List Int)} (h : rows ≠ []) : gSorted (.lst (tupsOf rows)) = some (.lst (tupsOf (tsort rows))) := by
  show sortD (tupsOf rows) = _
  unfold sortD
  rw [intsD_tups h, tupsD_tups]
  rfl
theorem lotK_ne (k : Nat) : lotK k ≠ [] := fun z => by
  have := lotK_len k
  rw [z] at this
  have := Nat.pow_pos (n := k) (show 0 < 2 by decide)
  simp at *
  omega
theorem lots_loop {p : PenSt} {n : Int} {fe : FV D} (h0 : 0 ≤ n) (h1 : n ≤ 20) (hfe : ∀ (e : Env) (r : List Int) (i : Int) (p : PenSt), e[2]? = some (.sh (.int i)) → e[3]? = some (.sh (.tup (r.map D.int))) → r.length ≤ 100 → fe e p = some (.tup (r.map D.int ++ [.int i]), p)) :
    mOf 4 ((sSeq (sSet 1 (fSh (fLst (aCons (fTup aNil) aNil))))
  (sSeq (sFor (fRgI (fRg1 (fVar 0))) (bN 2) (sSet 1 (fSh (f2 gAdd (fVarB 1) (fComp [3] (fItems (fVarB 1)) (bN 3) tfYes fe)))))
  (sRet (f1 gSorted (fVarB 1)))))) [.int n] p = some (.lst (tupsOf (tsort (lotK n.toNat))), p) := by
  have z20 : ∀ k : Nat, k ≤ 20 → 2 ^ k ≤ 1048576 := fun k hk => Nat.le_trans (Nat.pow_le_pow_right (by decide) hk) (by decide)
  refine yes_eq ?_
  simp [begin_, s_for_]
  refine ⟨by omega, ?_⟩
  refine for_yes (I := fun rest e q => ∃ (k : Nat) (s2 : Slot), e = [.sh (.int n), .sh (.lst (tupsOf (lotK k))), s2, .no] ∧ k ≤ n.toNat ∧ rest = ((List.range n.toNat).drop k).map (fun (i : Nat) => D.int i) ∧ q = p) ⟨0, .no, rfl, Nat.zero_le _, by rw [rngD_0]; unfold rngI; simp, rfl⟩ ?_ ?_
  · rintro d rest e q ⟨k, s2, rfl, hk, hr, rfl⟩
    have hlt : k < n.toNat := Classical.byContradiction fun z => by
      rw [List.drop_eq_nil_of_le (by simp; omega)] at hr
      cases hr
    rw [List.drop_eq_getElem_cons (by simpa using hlt)] at hr
    simp only [List.map_cons, List.getElem_range, List.cons.injEq] at hr
    obtain ⟨rfl, rfl⟩ := hr
    simp [wipeE]
    refine yes_map' (fun (d : D) => (match d with | .tup ds => D.tup (ds ++ [.int k]) | _ => .non)) (fun d hd => ?_) ?_
    · obtain ⟨r, hr, rfl⟩ := List.mem_map.mp hd
      obtain ⟨g1, _, _⟩ := lotK_ok k r hr
      exact ⟨_, rfl, eq_yes (hfe _ r k _ rfl rfl (by omega)) ⟨rfl, rfl⟩⟩
    · have e1 : (tupsOf (lotK k)).map (fun (d : D) => (match d with | .tup ds => D.tup (ds ++ [.int k]) | _ => .non)) = tupsOf ((lotK k).map fun r => r ++ [(k : Int)]) := by
        unfold tupsOf
        rw [List.map_map, List.map_map]
        refine List.map_congr_left fun r hr => ?_
        show D.tup _ = D.tup _
        simp
      rw [e1]
      have := lotK_len k
      have := z20 k (by omega)
      simp
      refine ⟨by omega, by omega, k + 1, ?_, by omega, rfl⟩
      rw [← tupsOf_app]
      rfl
  · rintro e q ⟨k, s2, rfl, hk, hr, rfl⟩
    have : k = n.toNat := Classical.byContradiction fun z => by
      have := congrArg List.length hr
      simp at this
      omega
    subst this
    simp [v_sortT (lotK_ne _)]
theorem all_lots_eq {p : PenSt} {n : Int} (h0 : 0 ≤ n) (h1 : n ≤ 20) : Cm.m__law_all_lots [.int n] p = some (.lst (tupsOf (tsort (lotK n.toNat))), p) :=
  lots_loop h0 h1 fun e r i p h4 h5 hl => by
    refine yes_eq ?_
    simp [h4, h5]
    omega
theorem tsort_mem {rows : List (List Int)} {r : List Int} : r ∈ tsort rows ↔ r ∈ rows := List.mem_mergeSort
theorem tsort_len {rows : List (List Int)} : (tsort rows).length = rows.length := List.length_mergeSort ..
/-! ### is it a lot -/
def ascB : List Int → Bool
  | x :: y :: r => decide (x < y) && ascB (y :: r)
  | _ => true
def isLot (n : Int) (d : D) : Bool := match d with
  | .tup ds => (match intsD ds with
    | some ns => ns.all (fun i => decide (0 ≤ i) && decide (i < n)) && ascB ns
    | none => false)
  | _ => false
theorem cut_front (ds : List D) : cutD ds none (some (-1)) = ds.dropLast := by
  unfold cutD
  have e : HT.sIx ds.length ds.length (some (-1)) = ds.length - 1 := by
    show (if (-1 : Int) < 0 then ((-1 : Int) + (ds.length : Int)).toNat else min (-1 : Int).toNat ds.length) = _
    rw [if_pos (by decide)]
    omega
  rw [e]
  show (ds.drop 0).take (ds.length - 1 - 0) = _
  rw [List.drop_zero, Nat.sub_zero, List.dropLast_eq_take]
theorem cut_tail (ds : List D) : cutD ds (some 1) none = ds.drop 1 := by
  unfold cutD
  have e : HT.sIx ds.length 0 (some 1) = min 1 ds.length := rfl
  rw [e]
  show (ds.drop (min 1 ds.length)).take (ds.length - min 1 ds.length) = _
  rw [List.take_of_length_le (by rw [List.length_drop]; exact Nat.le_refl _)]
  cases ds with
  | nil => rfl
  | cons a b => rw [show min 1 (a :: b).length = 1 by simp]
theorem zip_next : ∀ ns : List Int, zipD (ns.map D.int).dropLast ((ns.map D.int).drop 1) = (ns.zip (ns.drop 1)).map fun q => D.tup [.int q.1, .int q.2]
  | [] => rfl
  | [_] => rfl
  | x :: y :: r => by
    have ih := zip_next (y :: r)
    show D.tup [.int x, .int y] :: zipD ((y :: r).map D.int).dropLast (((y :: r).map D.int).drop 1) = _
    rw [ih]
    rfl
theorem asc_zip : ∀ ns : List Int, ((ns.zip (ns.drop 1)).filter fun q => decide (q.2 ≤ q.1)).isEmpty = ascB ns
  | [] => rfl
  | [_] => rfl
  | x :: y :: r => by
    have ih := asc_zip (y :: r)
    show (((x, y) :: ((y :: r).zip ((y :: r).drop 1))).filter fun q => decide (q.2 ≤ q.1)).isEmpty = (decide (x < y) && ascB (y :: r))
    rw [← ih, List.filter_cons]
    by_cases h : y ≤ x
    · have : ¬ x < y := by omega
      simp [h, this]
    · have : x < y := by omega
      simp [h, this]
theorem law_is_lot_eq {d : D} {n : Int} {p : PenSt} (h : pln d 50 = true) : Cm.m__law_is_lot [.int n, d] p = some (.bl (isLot n d), p) := by
  refine yes_eq ?_
  unfold Cm.m__law_is_lot
  cases d with
  | tup ds =>
    obtain ⟨g1, g2⟩ := pln_t.mp h
    simp [begin_, gIsi, isT, tyD, wipeE]
    refine yes_filter (fun d => !isIdx n d) (fun d hd => ⟨_, rfl, ?_⟩) ?_
    · simp
      refine eq_yes (whole_eq (g2 d hd)).2 ?_
      cases d with
      | int i =>
        simp [isInt, isIdx]
        by_cases h0 : 0 ≤ i
        · by_cases h1 : i < n <;> simp [h0, h1]
          omega
        · simp [h0]
      | _ => simp [isInt, isIdx]
    · have hd : dats (ds.filter fun d => !isIdx n d) 63 = true := plns_dat _ _ (plns_iff.mpr fun x hx => pln_up _ 49 63 (by decide) (g2 x (List.mem_filter.mp hx).1))
      have hl : (ds.filter fun d => !isIdx n d).length ≤ 16777216 := Nat.le_trans (List.length_filter_le ..) (by omega)
      rw [(v_eqNil hd).2]
      simp only [yesO_some, onB_bl]
      refine ⟨hl, ?_⟩
      by_cases he : (ds.filter fun d => !isIdx n d) = []
      · obtain ⟨ns, rfl⟩ := intsD_filter (ds := ds) (List.filter_eq_nil_iff.mpr fun d hd => by
          have := List.filter_eq_nil_iff.mp he d hd
          cases d <;> simp_all [isIdx, isInt])
        rw [he]
        have hall : (ns.all fun i => decide (0 ≤ i) && decide (i < n)) = true := by
          rw [List.all_eq_true]
          intro i hi
          have := List.filter_eq_nil_iff.mp he (.int i) (List.mem_map.mpr ⟨i, hi, rfl⟩)
          simpa [isIdx] using this
        simp [cut_front, cut_tail]
        have zz := zip_next ns
        simp only [List.drop_one] at zz
        rw [zz]
        refine yes_fm (fun (d : D) => (match d with | .tup [.int a, .int b] => decide (b ≤ a) | _ => false)) (fun _ => .int 1) (fun d hd => ?_) ?_
        · obtain ⟨q, hq, rfl⟩ := List.mem_map.mp hd
          refine ⟨_, rfl, ?_⟩
          simp
        · have l0 : (((ns.zip ns.tail).map fun q => D.tup [.int q.1, .int q.2]).filter (fun (d : D) => (match d with | .tup [.int a, .int b] => decide (b ≤ a) | _ => false))).length ≤ 16777216 := by
            refine Nat.le_trans (List.length_filter_le ..) ?_
            rw [List.length_map, List.length_zip]
            rw [List.length_map] at g1
            omega
          have e1 : ((((ns.zip ns.tail).map fun q => D.tup [.int q.1, .int q.2]).filter (fun (d : D) => (match d with | .tup [.int a, .int b] => decide (b ≤ a) | _ => false))).map fun _ => D.int 1).isEmpty = ascB ns := by
            rw [← asc_zip, List.drop_one, List.filter_map]
            simp [List.isEmpty_iff]
            rfl
          have d1 : dats ((((ns.zip ns.tail).map fun q => D.tup [.int q.1, .int q.2]).filter (fun (d : D) => (match d with | .tup [.int a, .int b] => decide (b ≤ a) | _ => false))).map fun _ => D.int 1) 63 = true := by
            generalize (((ns.zip ns.tail).map fun q => D.tup [.int q.1, .int q.2]).filter (fun (d : D) => (match d with | .tup [.int a, .int b] => decide (b ≤ a) | _ => false))) = l
            induction l with
            | nil => rfl
            | cons a l ih => exact ih
          rw [(v_eqNil d1).1, e1]
          simp [isLot, intsD_map]
          refine ⟨by simpa using l0, ?_⟩
          intro _ x hx
          have := List.all_eq_true.mp hall x hx
          simpa using this
      · have : (ds.filter fun d => !isIdx n d).isEmpty = false := by
          cases q : ds.filter fun d => !isIdx n d with
          | nil => exact absurd q he
          | cons _ _ => rfl
        rw [this]
        simp
        unfold isLot
        cases q : intsD ds with
        | none => simp [q]
        | some ns =>
          have := intsD_some q
          subst this
          simp [q]
          intro z
          refine absurd (List.filter_eq_nil_iff.mpr fun d hd => ?_) he
          obtain ⟨i, hi, rfl⟩ := List.mem_map.mp hd
          have := z i hi
          simp [isIdx, this]
  | lst ds => exact ⟨_, _, rfl, rfl, rfl⟩
  | non => exact ⟨_, _, rfl, rfl, rfl⟩
  | bl b => exact ⟨_, _, rfl, rfl, rfl⟩
  | int i => exact ⟨_, _, rfl, rfl, rfl⟩
  | _ => cases h
/-! ### a bent order -/
theorem ix_set {ds : List D} {k : Int} (h0 : 0 ≤ k) (h1 : k < ds.length) : ixN ds.length k = some k.toNat := by
  unfold ixN
  rw [if_pos h0, if_pos h1]
theorem pln_int {n : Nat} (i : Int) : pln (.int i) n = true := by cases n <;> rfl
theorem pln_ints {n : Nat} {ns : List Int} (h : ns.length ≤ 65536) : pln (.tup (ns.map D.int)) (n + 1) = true ∧ pln (.lst (ns.map D.int)) (n + 1) = true := by
  have q : ∀ x ∈ ns.map D.int, pln x n = true := fun x hx => by
    obtain ⟨i, _, rfl⟩ := List.mem_map.mp hx
    exact pln_int i
  exact ⟨pln_t.mpr ⟨by rw [List.length_map]; exact h, q⟩, pln_l.mpr ⟨by rw [List.length_map]; exact h, q⟩⟩
theorem v_mulL {ds : List D} {Q : D → Prop} {k : Nat} (h : ds.length * k ≤ 16777216) (hk : k < 1000) (q : Q (.lst (List.replicate k ds).flatten)) : YesO (gMul (.lst ds) (.int k)) Q := by
  have e : gMul (.lst ds) (.int k) = if -(2 ^ 63) ≤ (k : Int) ∧ (k : Int) < 2 ^ 63 ∧ ds.length * (k : Int).toNat ≤ 16777216 then some (.lst (List.replicate (k : Int).toNat ds).flatten) else none := rfl
  rw [e, if_pos ⟨by omega, by omega, by simpa using h⟩]
  simpa using q
def sc : D → Bool
  | .int _ => true
  | .bl _ => true
  | .non => true
  | _ => false
theorem sc_pln {x : D} {n : Nat} (h : sc x = true) : pln x n = true := by cases x <;> first | rfl | cases h | (cases n <;> rfl)
theorem pln_sc {ds : List D} {n : Nat} (h : ∀ x ∈ ds, sc x = true) (hl : ds.length ≤ 65536) : pln (.tup ds) (n + 1) = true ∧ pln (.lst ds) (n + 1) = true :=
  ⟨pln_t.mpr ⟨hl, fun x hx => sc_pln (h x hx)⟩, pln_l.mpr ⟨hl, fun x hx => sc_pln (h x hx)⟩⟩
theorem sc_ints {ns : List Int} : ∀ x ∈ ns.map D.int, sc x = true := fun x hx => by
  obtain ⟨i, _, rfl⟩ := List.mem_map.mp hx
  rfl
theorem bent_order_ok {p : PenSt} {ns : List Int} {Q : D → PenSt → Prop} (hp : p.Ok) (h0 : ns ≠ []) (h1 : ns.length ≤ 1000) (k : ∀ d p', pln d 3 = true → p'.Ok → p'.rows = p.rows → Q d p') : Yes (Cm.m__law_bent_order [.pen, .tup (ns.map D.int)] p) Q := by
  have hpos : 0 < ns.length := List.length_pos_iff.mpr h0
  unfold Cm.m__law_bent_order
  simp [begin_, setAll, toX]
  refine draw_ok hp (by omega) (by omega) fun a p1 ha0 ha1 ok1 e1 => ?_
  refine draw_ok ok1 (by omega) (by omega) fun b p2 hb0 hb1 ok2 e2 => ?_
  obtain ⟨i, rfl⟩ := Int.eq_ofNat_of_zero_le ha0
  obtain ⟨j, rfl⟩ := Int.eq_ofNat_of_zero_le hb0
  have hi : i < ns.length := by omega
  have hj : j < ns.length := by omega
  simp
  rw [(v_ix (ds := ns.map D.int) (n := j) (d := .int ns[j]) (by simp [hj]) (by simp; omega)).1, (v_ix (ds := ns.map D.int) (n := i) (d := .int ns[i]) (by simp [hi]) (by simp; omega)).1]
  simp
  have x1 := ix_set (ds := ns.map D.int) (k := (i : Int)) (by omega) (by simpa using ha1)
  have x2 := ix_set (ds := ns.map D.int) (k := (j : Int)) (by omega) (by simpa using hb1)
  rw [List.length_map] at x1 x2
  rw [x1, x2]
  simp
  refine v_mulL (k := 5) (by simp) (by decide) ?_
  simp [cut_tail]
  refine ⟨by omega, by omega, ?_⟩
  refine pick_ok ok2 (by simp) (by simp) fun d p' hd ok e => k d p' ?_ ok (by rw [e, e2, e1])
  have s1 : ∀ x ∈ (ns.map D.int).tail, sc x = true := fun x hx => sc_ints x (List.mem_of_mem_tail hx)
  have big : ns.length ≤ 65536 := by omega
  simp at hd
  rcases hd with rfl | rfl | rfl | rfl | rfl | rfl | rfl | rfl
  · show pln (.tup _) 3 = true
    refine (pln_sc (fun x hx => ?_) (by simp; omega)).1
    rcases List.mem_or_eq_of_mem_set hx with hx | rfl
    · rcases List.mem_or_eq_of_mem_set hx with hx | rfl
      · exact sc_ints x hx
      · rfl
    · rfl
  · exact (pln_sc sc_ints (by simp; omega)).1
  · exact (pln_sc s1 (by simp; omega)).1
  · refine (pln_sc (fun x hx => ?_) (by simp; omega)).1
    rcases List.mem_append.mp hx with hx | hx
    · exact sc_ints x hx
    · rw [List.mem_singleton] at hx
      subst hx
      rfl
  · exact (pln_sc sc_ints (by simp; omega)).2
  · rfl
  · refine (pln_sc (fun x hx => ?_) (by simp; omega)).1
    rcases List.mem_cons.mp hx with rfl | hx
    · rfl
    · exact s1 x hx
  · exact (pln_sc (fun x hx => sc_ints x (List.mem_reverse.mp hx)) (by simp; omega)).1
/-! ### what is told is what is due -/
theorem law_is_bl {a b c d : Bool} {p : PenSt} : Cm.m__law_is 12 [.tup [.bl a, .bl b], .tup [.bl c, .bl d]] p = some (.bl (a == c && b == d), p) := by
  cases a <;> cases b <;> cases c <;> cases d <;> rfl
theorem law_is_bl1 {a c : Bool} {p : PenSt} : Cm.m__law_is 12 [.bl a, .bl c] p = some (.bl (a == c), p) := by
  cases a <;> cases c <;> rfl
end Cr
/-! ## rows of numbers for pairs -/
namespace Cm
open PySem L2 Cr
def m__law_drawn_pairwise : MF := mOf 14 ((sSeq (sParX [2, 3] (xCons (fSh (f2 gAdd (fC (.int 1)) (fCall Cm.m__law_draw (aCons (fVar 0) (aCons (fVar 1) aNil))))) (xCons (fSh (fCall Cm.m__law_draw (aCons (fVar 0) (aCons (fC (.int 5)) aNil)))) xNil)))
  (sSeq (sParX [4, 5] (xCons (fSh (fCall Cm.m__law_shuffled (aCons (fVar 0) (aCons (fLstRg (fRg1 (fVar 2))) aNil)))) (xCons (fSh (fCall Cm.m__law_pick (aCons (fVar 0) (aCons (fLst (aCons (fC (.int 1)) (aCons (fC (.int 3)) (aCons (fC (.int 50)) aNil)))) aNil)))) xNil)))
  (sSeq (sAft 6 (sSet 6 (fX (fComp [7] (fRgI (fRg1 (fVar 2))) (bN 7) tfYes (fRow (f2 gMul (fLst (aCons (fC (.int 0)) aNil)) (fVarB 2)))))))
  (sSeq (sFor (fRgI (fRg1 (fVar 2))) (bN 7) (sFor (fRgI (fRg1 (fVar 7))) (bN 8) (sSeq (sParX [9, 10] (xCons (fSh (f2 gSub (fCall Cm.m__law_draw (aCons (fVar 0) (aCons (f2 gAdd (f2 gMul (fC (.int 2)) (fVarB 5)) (fC (.int 1))) aNil))) (fVarB 5))) (xCons (fSh (f2 gAdd (fCall Cm.m__law_draw (aCons (fVar 0) (aCons (f2 gAdd (fVarB 5) (fC (.int 1))) aNil))) (fIf (fBl (f2 gEq (fVarB 3) (fC (.int 3)))) (fC (.int 1)) (fC (.int 0))))) xNil)))
  (sSeq (sParX [11, 12] (xCons (fSh (f2 gIx (fVarB 4) (fVarB 8))) (xCons (fSh (f2 gIx (fVarB 4) (fVarB 7))) xNil)))
  (sSeq (sIf (tfOr (fBl (f2 gEq (fVarB 3) (fC (.int 0)))) (tfAnd (fBl (f2 gEq (fVarB 3) (fC (.int 2)))) (fBl (f2 gEq (fCall Cm.m__law_draw (aCons (fVar 0) (aCons (fC (.int 4)) aNil))) (fC (.int 0)))))) (sUnp [11, 12] (fIf (fBl (f2 gEq (fCall Cm.m__law_draw (aCons (fVar 0) (aCons (fC (.int 2)) aNil))) (fC (.int 0)))) (fTup (aCons (fVar 11) (aCons (fVar 12) aNil))) (fTup (aCons (fVar 12) (aCons (fVar 11) aNil))))) sNil)
  (sRow2 (f2 gIx (fVarB 6) (fVarB 11)) (fVar 12) (f2 gIx (fVarB 6) (fVarB 12)) (fVar 11) (fVar 9) (f2 gAdd (fVarB 9) (fVarB 10))))))))
  (sRet (f1 gTuple (fComp [13] (fItems (fVarB 6)) (bN 13) tfYes (fTupR (fVarB 13))))))))))
end Cm
namespace Cr
open PySem L2
structure Sq0 (n : Nat) (M : List (List Int)) : Prop where
  len : M.length = n
  row : ∀ (i : Nat) (r : List Int), M[i]? = some r → r.length = n ∧ (∀ x ∈ r, -1000 ≤ x ∧ x ≤ 1000) ∧ r[i]? = some 0
theorem Sq0.get {n : Nat} {M : List (List Int)} (h : Sq0 n M) {i : Nat} (hi : i < n) : ∃ r, M[i]? = some r ∧ r.length = n ∧ (∀ x ∈ r, -1000 ≤ x ∧ x ≤ 1000) ∧ r[i]? = some 0 := by
  have : i < M.length := by rw [h.len]; exact hi
  exact ⟨M[i], List.getElem?_eq_getElem this, h.row i _ (List.getElem?_eq_getElem this)⟩
theorem Sq0.set {n : Nat} {M : List (List Int)} (h : Sq0 n M) {a b : Nat} {r : List Int} {v : Int} (hr : M[a]? = some r) (hab : a ≠ b) (hv : -1000 ≤ v ∧ v ≤ 1000) : Sq0 n (M.set a (r.set b v)) := by
  obtain ⟨h1, h2, h3⟩ := h.row a r hr
  refine ⟨by rw [List.length_set]; exact h.len, fun i s hs => ?_⟩
  by_cases hi : a = i
  · subst hi
    rw [List.getElem?_set_self (List.getElem?_eq_some_iff.mp hr).1] at hs
    cases hs
    refine ⟨by rw [List.length_set]; exact h1, fun x hx => ?_, by rw [List.getElem?_set_ne (Ne.symm hab)]; exact h3⟩
    rcases List.mem_or_eq_of_mem_set hx with hx | rfl
    · exact h2 x hx
    · exact hv
  · rw [List.getElem?_set_ne hi] at hs
    exact h.row i s hs
theorem Sq0.zero (n : Nat) : Sq0 n (List.replicate n (List.replicate n 0)) := by
  refine ⟨List.length_replicate .., fun i r h => ?_⟩
  rw [List.getElem?_replicate] at h
  split at h
  · rename_i hi
    cases h
    refine ⟨List.length_replicate .., fun x hx => ?_, by rw [List.getElem?_replicate, if_pos hi]⟩
    have := List.eq_of_mem_replicate hx
    omega
  · cases h
/-- the rows as they are told -/
def refs (b n : Nat) : List D := (List.range n).map fun j => D.row (b + j)
@[simp] theorem refs_len {b n : Nat} : (refs b n).length = n := by unfold refs; simp
theorem refs_ix {b n : Nat} {i : Nat} (h : i < n) (hn : n ≤ 1000) : gIx (.lst (refs b n)) (.int i) = some (.row (b + i)) := by
  refine (v_ix ?_ (by rw [refs_len]; omega)).1
  unfold refs
  rw [List.getElem?_map, List.getElem?_range h]
  rfl
theorem rep_int (n : Nat) : (List.replicate n [D.int 0]).flatten = (List.replicate n (0 : Int)).map D.int := by
  induction n with
  | zero => rfl
  | succ n ih =>
    rw [List.replicate_succ, List.flatten_cons, ih, List.replicate_succ]
    rfl
theorem rows_comp {env : Env} {n : Nat} {i j : Nat} (hn : n < 1000) (hi : i < env.length) (hij : i ≠ j) (he : env[j]? = some (.sh (.int n))) : ∀ (ds : List D) (p : PenSt),
    compL (bN i) tfYes (fRow (f2 gMul (fLst (aCons (fC (.int 0)) aNil)) (fVarB j))) env ds p = some (refs p.rows.length ds.length, { p with rows := p.rows ++ List.replicate ds.length (List.replicate n 0) })
  | [], p => by simp [compL, refs]
  | d :: ds, p => by
    have ih := rows_comp (env := env) hn hi hij he ds { p with rows := p.rows ++ [List.replicate n 0] }
    have h1 : Yes (fRow (f2 gMul (fLst (aCons (fC (.int 0)) aNil)) (fVarB j)) (env.set i (.sh d)) p) fun r q => r = .row p.rows.length ∧ q = { p with rows := p.rows ++ [List.replicate n 0] } := by
      simp [List.getElem?_set_ne hij, he]
      refine v_mulL (k := n) (by simp; omega) hn ?_
      rw [rep_int]
      simp only [intsD_map, yesO_some]
    have h2 := yes_eq h1
    have hb : bN i d env = some (env.set i (.sh d)) := if_pos hi
    unfold compL
    rw [hb]
    simp only [show tfYes (env.set i (.sh d)) p = some (true, p) from rfl, h2, ih]
    simp only [Option.map_some, Option.some.injEq, Prod.mk.injEq, PenSt.mk.injEq, true_and]
    refine ⟨?_, ?_⟩
    · unfold refs
      rw [List.length_cons, List.range_succ_eq_map, List.map_cons, List.map_map]
      simp
      intro a ha
      omega
    · rw [List.length_cons, List.replicate_succ]
      simp
theorem app_get {B M : List (List Int)} {i : Nat} : (B ++ M)[B.length + i]? = M[i]? := by
  rw [List.getElem?_append_right (by omega)]
  congr 1
  omega
theorem app_set {B M : List (List Int)} {i : Nat} {r : List Int} : (B ++ M).set (B.length + i) r = B ++ M.set i r := by
  rw [List.set_append, if_neg (by omega)]
  congr 2
  omega
def rowT (q : PenSt) : D → D
  | .row k => (match q.rows[k]? with
    | some ns => D.tup (ns.map D.int)
    | none => .non)
  | _ => .non
theorem tups_row {q : PenSt} {B M : List (List Int)} (h : q.rows = B ++ M) : (refs B.length M.length).map (rowT q) = tupsOf M := by
  unfold refs tupsOf
  rw [List.map_map]
  refine List.ext_getElem (by simp) fun i h1 h2 => ?_
  simp at h1 h2
  simp [rowT, h, app_get, h1]
theorem mem_rngD {n : Int} {d : D} (h : d ∈ rngD 0 n) : ∃ i : Nat, d = .int i ∧ (i : Int) < n := by
  rw [rngD_0] at h
  obtain ⟨i, hi, rfl⟩ := List.mem_map.mp h
  have := rngI_mem.mp hi
  obtain ⟨k, rfl⟩ := Int.eq_ofNat_of_zero_le this.1
  exact ⟨k, rfl, this.2⟩
theorem perm_ints {ds : List D} {l : List Int} (h : ds.Perm (l.map D.int)) : ∃ os : List Int, ds = os.map D.int ∧ os.Perm l := by
  have e : ∀ d ∈ ds, ∃ i, d = .int i := fun d hd => by
    obtain ⟨i, _, rfl⟩ := List.mem_map.mp (h.subset hd)
    exact ⟨i, rfl⟩
  have f : ∀ (ds : List D), (∀ d ∈ ds, ∃ i, d = D.int i) → ds = (ds.filterMap fun | .int i => some i | _ => none).map D.int := by
    intro ds
    induction ds with
    | nil => intro _; rfl
    | cons d ds ih =>
      intro e
      obtain ⟨i, rfl⟩ := e d List.mem_cons_self
      have := ih fun x hx => e x (List.mem_cons_of_mem _ hx)
      simp
      exact this
  refine ⟨_, f ds e, ?_⟩
  have p := h.filterMap (fun | .int i => some i | _ => none)
  have q : ∀ l : List Int, (l.map D.int).filterMap (fun | .int i => some i | _ => none) = l := by
    intro l
    induction l with
    | nil => rfl
    | cons a l ih =>
      show a :: (l.map D.int).filterMap _ = _
      rw [ih]
  rw [q] at p
  exact p
theorem drawn_pw_ok {p : PenSt} {most : Nat} {Q : D → PenSt → Prop} (hp : p.Ok) (h0 : 1 ≤ most) (h1 : most ≤ 8) (k : ∀ M p', Sq0 M.length M → 1 ≤ M.length → M.length ≤ most → p'.Ok → Q (.tup (tupsOf M)) p') : Yes (Cm.m__law_drawn_pairwise [.pen, .int most] p) Q := by
  unfold Cm.m__law_drawn_pairwise
  simp [begin_, setAll, toX]
  refine draw_ok hp (by omega) (by omega) fun r0 p1 a0 a1 ok1 e1 => ?_
  obtain ⟨m, rfl⟩ := Int.eq_ofNat_of_zero_le a0
  obtain ⟨n, hn⟩ : ∃ n : Nat, n = m + 1 := ⟨_, rfl⟩
  have hn1 : (1 : Int) + (m : Int) = (n : Int) := by omega
  rw [v_addI, yesO_some, hn1]
  simp
  refine draw_ok ok1 (by omega) (by omega) fun way p2 b0 b1 ok2 e2 => ?_
  refine ⟨rgOk_0 (by omega) (by omega), ?_⟩
  refine shuffled_ok ok2 (by simp; omega) fun ord p3 hord ok3 e3 => ?_
  refine pick_ok ok3 (by simp) (by simp) fun far p4 hfar ok4 e4 => ?_
  rw [rngD_0] at hord
  obtain ⟨os, rfl, hos⟩ := perm_ints hord
  obtain ⟨f, rfl, hf0, hf1⟩ : ∃ f : Int, far = .int f ∧ 1 ≤ f ∧ f ≤ 50 := by
    simp at hfar
    rcases hfar with rfl | rfl | rfl <;> exact ⟨_, rfl, by decide, by decide⟩
  have hol : os.length = n := by rw [hos.length_eq, rngI_len]; omega
  have hond : os.Nodup := hos.nodup_iff.mpr (rngI_nodup _)
  have hoin : ∀ i ∈ os, 0 ≤ i ∧ i < n := fun i hi => rngI_mem.mp (hos.subset hi)
  refine ⟨by omega, ?_⟩
  simp [wipeE]
  rw [yes_at (rows_comp (n := n) (by omega) (by simp) (by decide) rfl _ _)]
  simp [s_for_]
  refine ⟨by omega, by omega, ?_⟩
  refine for_yes (I := fun rest e q => ∃ (s7 s8 s9 s10 s11 s12 : Slot) (M : List (List Int)), e = [.sh .pen, .sh (.int most), .sh (.int n), .sh (.int way), .sh (.lst (os.map D.int)), .sh (.int f), .sh (.lst (refs p4.rows.length n)), s7, s8, s9, s10, s11, s12, .no] ∧ (∀ d ∈ rest, ∃ i : Nat, d = .int i ∧ i < n) ∧ q.Ok ∧ q.rows = p4.rows ++ M ∧ Sq0 n M) ⟨_, _, _, _, _, _, _, rfl, fun d hd => (mem_rngD hd).imp fun i hi => ⟨hi.1, by omega⟩, ⟨ok4.1, ok4.2, ok4.3, ok4.4, ok4.5⟩, rfl, Sq0.zero n⟩ ?_ ?_
  · rintro d rest e q ⟨s7, s8, s9, s10, s11, s12, M, rfl, hrest, hq, hM, sq⟩
    obtain ⟨at_, rfl, hat⟩ := hrest d List.mem_cons_self
    simp [s_for_]
    refine ⟨by omega, ?_⟩
    refine for_yes (I := fun rest2 e q => ∃ (s8 s9 s10 s11 s12 : Slot) (M : List (List Int)), e = [.sh .pen, .sh (.int most), .sh (.int n), .sh (.int way), .sh (.lst (os.map D.int)), .sh (.int f), .sh (.lst (refs p4.rows.length n)), .sh (.int at_), s8, s9, s10, s11, s12, .no] ∧ (∀ d ∈ rest2, ∃ i : Nat, d = .int i ∧ i < at_) ∧ q.Ok ∧ q.rows = p4.rows ++ M ∧ Sq0 n M) ⟨_, _, _, _, _, _, rfl, fun d hd => (mem_rngD hd).imp fun i hi => ⟨hi.1, by omega⟩, hq, hM, sq⟩ ?_ ?_
    · rintro d2 rest2 e2' q2 ⟨s8, s9, s10, s11, s12, M, rfl, hrest2, hq2, hM2, sq2⟩
      obtain ⟨to, rfl, hto⟩ := hrest2 d2 List.mem_cons_self
      rw [t_name]
      refine ⟨by simp, ?_⟩
      simp only [List.set_cons_succ, List.set_cons_zero]
      -- low, more
      refine s_seq.mpr (YesS.mono (R := fun o => ∃ (lo mo : Int) (q3 : PenSt), o = .nx [.sh .pen, .sh (.int most), .sh (.int n), .sh (.int way), .sh (.lst (os.map D.int)), .sh (.int f), .sh (.lst (refs p4.rows.length n)), .sh (.int at_), .sh (.int to), .sh (.int lo), .sh (.int mo), s11, s12, .no] q3 ∧ (-50 ≤ lo ∧ lo ≤ 51) ∧ (0 ≤ mo ∧ mo ≤ 52) ∧ q3.Ok ∧ q3.rows = q2.rows) ?_ ?_)
      · simp [setAll]
        refine ⟨.inl (by decide), ?_⟩
        refine draw_ok hq2 (by omega) (by omega) fun a p5 c0 c1 ok5 e5 => ?_
        simp
        refine draw_ok ok5 (by omega) (by omega) fun b p6 d0 d1 ok6 e6 => ?_
        by_cases hw : way = 3
        · simp [hw]
          exact ⟨_, _, _, ⟨⟨rfl, rfl⟩, rfl⟩, by omega, by omega, ok6, by rw [e6, e5]⟩
        · simp [hw]
          exact ⟨_, _, _, ⟨⟨rfl, rfl⟩, rfl⟩, by omega, by omega, ok6, by rw [e6, e5]⟩
      · rintro o ⟨lo, mo, q3, rfl, hlo, hmo, ok3', e3'⟩
        rw [onNx_nx]
        -- one, other
        have g1 := (v_ix (ds := os.map D.int) (n := to) (d := .int (os[to]'(by omega))) (by rw [List.getElem?_map, List.getElem?_eq_getElem (by omega)]; rfl) (by simp; omega)).1
        have g2 := (v_ix (ds := os.map D.int) (n := at_) (d := .int (os[at_]'(by omega))) (by rw [List.getElem?_map, List.getElem?_eq_getElem (by omega)]; rfl) (by simp; omega)).1
        obtain ⟨x, hx⟩ : ∃ x, x = os[to]'(by omega) := ⟨_, rfl⟩
        obtain ⟨y, hy⟩ : ∃ y, y = os[at_]'(by omega) := ⟨_, rfl⟩
        rw [← hx] at g1
        rw [← hy] at g2
        have hx2 := hoin x (hx ▸ List.getElem_mem _)
        have hy2 := hoin y (hy ▸ List.getElem_mem _)
        have hxy : x ≠ y := fun z => by
          have := List.pairwise_iff_getElem.mp hond to at_ (by omega) (by omega) hto
          rw [← hx, ← hy] at this
          exact this z
        refine s_seq.mpr (YesS.mono (R := fun o => o = .nx [.sh .pen, .sh (.int most), .sh (.int n), .sh (.int way), .sh (.lst (os.map D.int)), .sh (.int f), .sh (.lst (refs p4.rows.length n)), .sh (.int at_), .sh (.int to), .sh (.int lo), .sh (.int mo), .sh (.int x), .sh (.int y), .no] q3) ?_ ?_)
        · simp [setAll, g1, g2]
        · rintro o rfl
          rw [onNx_nx]
          refine s_seq.mpr (YesS.mono (R := fun o => ∃ (a b : Int) (q4 : PenSt), o = .nx [.sh .pen, .sh (.int most), .sh (.int n), .sh (.int way), .sh (.lst (os.map D.int)), .sh (.int f), .sh (.lst (refs p4.rows.length n)), .sh (.int at_), .sh (.int to), .sh (.int lo), .sh (.int mo), .sh (.int a), .sh (.int b), .no] q4 ∧ (0 ≤ a ∧ a < n) ∧ (0 ≤ b ∧ b < n) ∧ a ≠ b ∧ q4.Ok ∧ q4.rows = q3.rows) ?_ ?_)
          · have sw : ∀ q4 : PenSt, q4.Ok → q4.rows = q3.rows → YesS (sUnp [11, 12] (fIf (fBl (f2 gEq (fCall Cm.m__law_draw (aCons (fVar 0) (aCons (fC (.int 2)) aNil))) (fC (.int 0)))) (fTup (aCons (fVar 11) (aCons (fVar 12) aNil))) (fTup (aCons (fVar 12) (aCons (fVar 11) aNil)))) [.sh .pen, .sh (.int most), .sh (.int n), .sh (.int way), .sh (.lst (os.map D.int)), .sh (.int f), .sh (.lst (refs p4.rows.length n)), .sh (.int at_), .sh (.int to), .sh (.int lo), .sh (.int mo), .sh (.int x), .sh (.int y), .no] q4) (fun o => ∃ (a b : Int) (q4 : PenSt), o = .nx [.sh .pen, .sh (.int most), .sh (.int n), .sh (.int way), .sh (.lst (os.map D.int)), .sh (.int f), .sh (.lst (refs p4.rows.length n)), .sh (.int at_), .sh (.int to), .sh (.int lo), .sh (.int mo), .sh (.int a), .sh (.int b), .no] q4 ∧ (0 ≤ a ∧ a < n) ∧ (0 ≤ b ∧ b < n) ∧ a ≠ b ∧ q4.Ok ∧ q4.rows = q3.rows) := fun q4 o4 e4' => by
              simp [setAll]
              refine draw_ok o4 (by omega) (by omega) fun a p5 c0 c1 ok5 e5 => ?_
              by_cases ha : a = 0
              · simp [ha]
                exact ⟨_, _, _, ⟨⟨rfl, rfl⟩, rfl⟩, hx2, hy2, hxy, ok5, by rw [e5, e4']⟩
              · simp [ha]
                exact ⟨_, _, _, ⟨⟨rfl, rfl⟩, rfl⟩, hy2, hx2, hxy.symm, ok5, by rw [e5, e4']⟩
            rw [s_if_, y_tor, y_bl, y_f2]
            simp [-s_unp_]
            by_cases hw : way = 0
            · rw [if_pos hw]
              exact sw q3 ok3' rfl
            · rw [if_neg hw]
              by_cases hw2 : way = 2
              · rw [if_pos hw2]
                refine draw_ok ok3' (by omega) (by omega) fun a p5 c0 c1 ok5 e5 => ?_
                by_cases ha : a = 0
                · simp [ha, -s_unp_]
                  exact sw p5 ok5 e5
                · simp [ha]
                  exact ⟨_, _, _, ⟨⟨rfl, rfl⟩, rfl⟩, hx2, hy2, hxy, ok5, e5⟩
              · rw [if_neg hw2]
                exact ⟨_, _, _, ⟨⟨rfl, rfl⟩, rfl⟩, hx2, hy2, hxy, ok3', rfl⟩
          · rintro o ⟨a, b, q4, rfl, ha, hb, hab, ok4', e4'⟩
            rw [onNx_nx]
            obtain ⟨a, rfl⟩ := Int.eq_ofNat_of_zero_le ha.1
            obtain ⟨b, rfl⟩ := Int.eq_ofNat_of_zero_le hb.1
            have ha2 : a < n := by omega
            have hb2 : b < n := by omega
            have hab2 : a ≠ b := fun z => hab (by rw [z])
            obtain ⟨ra, j1, j2, j3, j4⟩ := sq2.get ha2
            have sq3 := sq2.set (v := lo) j1 hab2 (by omega)
            obtain ⟨rb, i1, i2, i3, i4⟩ := sq3.get hb2
            have sq4 := sq3.set (v := lo + mo) i1 (Ne.symm hab2) (by omega)
            have r4 : q4.rows = p4.rows ++ M := by rw [e4', e3', hM2]
            have x1 := ix_set (ds := (refs 0 n)) (k := (b : Int)) (by omega) (by simp; omega)
            have x2 := ix_set (ds := (refs 0 n)) (k := (a : Int)) (by omega) (by simp; omega)
            rw [refs_len] at x1 x2
            simp [refs_ix ha2 (by omega), refs_ix hb2 (by omega), r4, app_get, app_set, j1, j2, x1, x2, i1, i2]
            exact ⟨fun d hd => hrest2 d (List.mem_cons_of_mem _ hd), ⟨ok4'.1, ok4'.2, ok4'.3, ok4'.4, ok4'.5⟩, sq4⟩
    · rintro e q2 ⟨s8, s9, s10, s11, s12, M, rfl, hrest2, hq2, hM2, sq2⟩
      exact ⟨⟨_, _, _, _, _, _, rfl⟩, fun d hd => hrest d (List.mem_cons_of_mem _ hd), hq2, M, hM2, sq2⟩
  · rintro e q ⟨s7, s8, s9, s10, s11, s12, M, rfl, hrest, hq, hM, sq⟩
    simp
    have tr := tups_row (q := q) hM
    rw [sq.len] at tr
    refine yes_map' (rowT q) (fun d hd => ⟨_, rfl, ?_⟩) ?_
    · unfold refs at hd
      obtain ⟨j, hj, rfl⟩ := List.mem_map.mp hd
      have hj := List.mem_range.mp hj
      obtain ⟨r, hr, _⟩ := sq.get hj
      simp [rowD, rowT, hM, app_get, hr]
    · rw [tr]
      refine ⟨by rw [tupsOf_len, sq.len]; omega, k M q ?_ (by rw [sq.len]; omega) (by rw [sq.len]; omega) hq⟩
      rw [sq.len]
      exact sq
end Cr
/-! ## plain: dicts, sorted by a key, rows of pairs, rooms' ends -/
namespace Cr
open PySem L2
section
variable {env : Env} {p : PenSt} {fa fb fk fv fe : FV D} {fr : FV (Int × Int)} {Q : D → PenSt → Prop} {R : Out → Prop}
@[simp] theorem y_dct0 : Yes (fDct0 env p) Q ↔ Q (.dct []) p := by unfold fDct0; simp
def onOd (s : Option Slot) (A : List (Key × D) → Prop) : Prop := match s with
  | some (.od kvs) => A kvs
  | _ => False
@[simp] theorem onOd_od {d : List (Key × D)} {A : List (Key × D) → Prop} : onOd (some (.od d)) A ↔ A d := Iff.rfl
theorem s_putD_ {i : Nat} (h : Yes (fv env p) fun d p => Yes (fk env p) fun kd p => YesO (keyD kd) fun k => onOd env[i]? fun kvs => kvs.length < 16777216 ∧ R (.nx (env.set i (.od (putKD kvs k d))) p)) : YesS (sPutD i fk fv env p) R := by
  obtain ⟨d, p1, h1, kd, p2, h2, k, h3, h⟩ := h
  unfold sPutD
  rw [h1]
  simp only [h2, h3]
  unfold onOd at h
  split at h
  · rename_i kvs he
    simp only [he]
    rw [if_pos h.1]
    exact ⟨_, rfl, h.2⟩
  · exact h.elim
theorem y_sortK {i : Nat} (h : Yes (fa env p) fun x p => ∃ ns kz p', x = .lst (ns.map D.int) ∧ keysL i fe env ns p = some (kz, p') ∧ ns.length ≤ 16777216 ∧ Q (.lst ((kSort kz ns).map D.int)) p') : Yes (fSortK i fa fe env p) Q := by
  obtain ⟨x, p1, h1, ns, kz, p', rfl, h2, h3, q⟩ := h
  unfold fSortK
  rw [h1]
  simp only [intsD_map, h2]
  rw [if_pos h3]
  exact ⟨_, _, rfl, q⟩
theorem y_sortKR {i : Nat} (h : Yes (fr env p) fun r p => ∃ kz p', rgOk r = true ∧ keysL i fe env (rgI r) p = some (kz, p') ∧ (rgI r).length ≤ 16777216 ∧ Q (.lst ((kSort kz (rgI r)).map D.int)) p') : Yes (fSortKR i fr fe env p) Q := by
  obtain ⟨r, p1, h1, kz, p', h0, h2, h3, q⟩ := h
  unfold fSortKR
  rw [h1]
  simp only [h0, h2, if_true]
  rw [if_pos h3]
  exact ⟨_, _, rfl, q⟩
/-- keys without draws -/
theorem keys_map {i : Nat} {F : Int → Int} : ∀ {ns : List Int}, (∀ n ∈ ns, fe (env.set i (.sh (.int n))) p = some (.int (F n), p)) → keysL i fe env ns p = some (ns.map F, p)
  | [], _ => rfl
  | n :: ns, h => by
    unfold keysL
    rw [h n List.mem_cons_self]
    simp only [keys_map fun m hm => h m (List.mem_cons_of_mem _ hm)]
    rfl
end
theorem kSort_perm {kz ns : List Int} (h : kz.length = ns.length) : (kSort kz ns).Perm ns := by
  have := (ksort_perm (kz.zip ns)).map Prod.snd
  rwa [List.map_snd_zip (by omega)] at this
/-! ### dicts by ints -/
def valN (kvs : List (Key × D)) (i : Int) : Int := match valD kvs (.inl i) with
  | some (.int x) => x
  | _ => 0
/-- i is a key, its value an int -/
def HasI (kvs : List (Key × D)) (i : Int) : Prop := valD kvs (.inl i) = some (.int (valN kvs i))
theorem hasI_of {kvs : List (Key × D)} {i x : Int} (h : valD kvs (.inl i) = some (.int x)) : HasI kvs i := by
  unfold HasI valN
  rw [h]
theorem find_map (k j : Key) (d : D) : ∀ kvs : List (Key × D), valD (kvs.map fun kv => if kv.1 = k then (kv.1, d) else kv) j = (valD kvs j).map fun x => if j = k then d else x
  | [] => rfl
  | (a, x) :: r => by
    have ih := find_map k j d r
    unfold valD at ih ⊢
    rw [List.map_cons, List.find?_cons, List.find?_cons]
    by_cases h1 : a = k
    · rw [if_pos h1]
      by_cases h2 : a = j
      · subst h2
        simp [h1]
      · simp only [h2, decide_false]
        exact ih
    · rw [if_neg h1]
      by_cases h2 : a = j
      · subst h2
        simp [h1]
      · simp only [h2, decide_false]
        exact ih
theorem valD_app (j : Key) (ys : List (Key × D)) : ∀ kvs : List (Key × D), valD (kvs ++ ys) j = (valD kvs j).or (valD ys j)
  | [] => by simp [valD]
  | (a, x) :: r => by
    have ih := valD_app j ys r
    unfold valD at ih ⊢
    rw [List.cons_append, List.find?_cons, List.find?_cons]
    by_cases h2 : a = j
    · simp [h2]
    · simp only [h2, decide_false]
      exact ih
theorem any_valD (k : Key) : ∀ kvs : List (Key × D), (kvs.any fun kv => decide (kv.1 = k)) = (valD kvs k).isSome
  | [] => rfl
  | (a, x) :: r => by
    have ih := any_valD k r
    unfold valD at ih ⊢
    rw [List.any_cons, List.find?_cons]
    by_cases h2 : a = k
    · simp [h2]
    · simp only [h2, decide_false, Bool.false_or]
      exact ih
theorem valD_put (kvs : List (Key × D)) (k j : Key) (d : D) : valD (putKD kvs k d) j = if j = k then some d else valD kvs j := by
  unfold putKD
  by_cases h : (kvs.any fun kv => decide (kv.1 = k)) = true
  · rw [if_pos h, find_map]
    by_cases hj : j = k
    · subst hj
      rw [any_valD] at h
      obtain ⟨x, hx⟩ := Option.isSome_iff_exists.mp h
      rw [hx]
      simp
    · simp [hj]
  · rw [if_neg h, valD_app]
    have hn : valD kvs k = none := by
      rw [any_valD] at h
      cases e : valD kvs k with
      | none => rfl
      | some x => rw [e] at h; exact absurd rfl h
    by_cases hj : j = k
    · subst hj
      rw [hn]
      simp [valD]
    · have : valD [(k, d)] j = none := by
        unfold valD
        simp [Ne.symm hj]
      rw [this, if_neg hj]
      simp
theorem put_len (kvs : List (Key × D)) (k : Key) (d : D) : (putKD kvs k d).length ≤ kvs.length + 1 := by
  unfold putKD
  split
  · rw [List.length_map]; omega
  · rw [List.length_append]; exact Nat.le_refl _
@[simp] theorem key_i {i : Int} : keyD (.int i) = some (.inl i) := rfl
theorem v_dget {kvs : List (Key × D)} {i : Int} {Q : D → Prop} (h : HasI kvs i) (q : Q (.int (valN kvs i))) : YesO (gDGet (.dct kvs) (.int i)) Q := ⟨_, h, q⟩
end Cr
namespace K69
open PySem L2 Cr
noncomputable section
def clsL : List String := ["Dues", "Tight", "Timelier"]
def m_is_whole : MF := mOf 1 ((sRet (fAnd (f1 (gIsi "int") (fVarB 0)) (fNot (f1 (gIsi "bool") (fVarB 0))))))
def m_is_number : MF := mOf 1 ((sRet (fAnd (fCall m_is_whole (aCons (fVar 0) aNil)) (f2 gGe (fVarB 0) (fC (.int 0))))))
def m_as_tuples : Nat → MF
  | 0 => fun _ _ => none
  | n + 1 => mOf 2 ((sSeq (sIf (fTru (f1 (gIsi2 "list" "tuple") (fVarB 0))) (sRet (f1 gTuple (fComp [1] (fItems (fVarB 0)) (bN 1) tfYes (fCall (m_as_tuples n) (aCons (fVar 1) aNil))))) sNil)
  (sRet (fVar 0))))
def m_is_index : MF := mOf 2 ((sRet (fAnd (fCall m_is_whole (aCons (fVar 0) aNil)) (fChain gLe gLt (fC (.int 0)) (fVarB 0) (fVarB 1)))))
def m_is_order : MF := mOf 3 ((sSeq (sIf (tfOr (tfNot (fTru (f1 (gIsi "tuple") (fVarB 1)))) (tfOr (fBl (f2 gNe (f1 gLen (fVarB 1)) (fVarB 0))) (tfNot (fTru (f1 gAll (fComp [2] (fItems (fVarB 1)) (bN 2) tfYes (fCall m_is_index (aCons (fVar 2) (aCons (fVar 0) aNil))))))))) (sRet (fC (.bl false))) sNil)
  (sRet (f2 gEq (f1 gSorted (fVarB 1)) (fLstRg (fRg1 (fVar 0)))))))
def m_need_order : MF := mOf 3 ((sSeq (sSet 2 (fSh (fIf (fTru (f1 (gIsi "list") (fVarB 1))) (f1 gTuple (fVarB 1)) (fVar 1))))
  (sSeq (sIf (tfNot (fTru (fCall m_is_order (aCons (fVar 0) (aCons (fVar 2) aNil))))) sBad sNil)
  (sRet (fVar 2)))))
def m_is_lot : MF := mOf 4 ((sSeq (sIf (tfOr (tfNot (fTru (f1 (gIsi "tuple") (fVarB 1)))) (tfNot (fTru (f1 gAll (fComp [2] (fItems (fVarB 1)) (bN 2) tfYes (fCall m_is_index (aCons (fVar 2) (aCons (fVar 0) aNil)))))))) (sRet (fC (.bl false))) sNil)
  (sRet (f1 gAll (fComp [3] (fRgI (fRg1 (f2 gSub (f1 gLen (fVarB 1)) (fC (.int 1))))) (bN 3) tfYes (f2 gLt (f2 gIx (fVarB 1) (fVarB 3)) (f2 gIx (fVarB 1) (f2 gAdd (fVarB 3) (fC (.int 1))))))))))
def m_is_due_job : MF := mOf 1 ((sSeq (sIf (tfOr (tfNot (fTru (f1 (gIsi "tuple") (fVarB 0)))) (tfOr (fBl (f2 gNe (f1 gLen (fVarB 0)) (fC (.int 2)))) (tfOr (tfNot (fTru (fCall m_is_whole (aCons (f2 gIx (fVarB 0) (fC (.int 0))) aNil)))) (tfNot (fTru (fCall m_is_number (aCons (f2 gIx (fVarB 0) (fC (.int 1))) aNil))))))) (sRet (fC (.bl false))) sNil)
  (sRet (fAnd (fChain gLe gLe (fC (.int 1)) (f2 gIx (fVarB 0) (fC (.int 0))) (fC (.int 1000000))) (f2 gLe (f2 gIx (fVarB 0) (fC (.int 1))) (fC (.int 10000000)))))))
def mi_Dues : MI := initOf 2 "Dues" ((sSeq (sIf (tfOr (tfNot (fTru (f1 (gIsi2 "list" "tuple") (fVarB 1)))) (tfNot (fBl (fChain gLe gLe (fC (.int 1)) (f1 gLen (fVarB 1)) (fC (.int 10)))))) sBad sNil)
  (sSeq (sFor (fItems (fVar 1)) (bN 2) (sIf (tfNot (fTru (fCall m_is_due_job (aCons (fVar 2) aNil)))) sBad sNil))
  (sFldS 0 "rows" (f1 gTuple (fVarB 1))))))
def mq_Dues : MF := mOf 2 ((sRet (fAnd (f1 (gIsiC "Dues") (fVarB 1)) (f2 gEq (f1 (gFld clsL "rows") (fVarB 0)) (f1 (gFld clsL "rows") (fVarB 1))))))
def mn_Dues : MF := mOf 2 ((sRet (fNot (fOwn "Dues" mq_Dues (fVar 0) (fVar 1)))))
def mi_Tight : MI := initOf 1 "Tight" ((sFldS 0 "lot" (fCall (m_as_tuples 12) (aCons (fVar 1) aNil))))
def mq_Tight : MF := mOf 2 ((sRet (fAnd (f1 (gIsiC "Tight") (fVarB 1)) (f2 gEq (f1 (gFld clsL "lot") (fVarB 0)) (f1 (gFld clsL "lot") (fVarB 1))))))
def mn_Tight : MF := mOf 2 ((sRet (fNot (fOwn "Tight" mq_Tight (fVar 0) (fVar 1)))))
def mi_Timelier : MI := initOf 1 "Timelier" ((sFldS 0 "order" (fCall (m_as_tuples 12) (aCons (fVar 1) aNil))))
def mq_Timelier : MF := mOf 2 ((sRet (fAnd (f1 (gIsiC "Timelier") (fVarB 1)) (f2 gEq (f1 (gFld clsL "order") (fVarB 0)) (f1 (gFld clsL "order") (fVarB 1))))))
def mn_Timelier : MF := mOf 2 ((sRet (fNot (fOwn "Timelier" mq_Timelier (fVar 0) (fVar 1)))))
def m_need_dues : MF := mOf 1 ((sSeq (sIf (tfNot (fTru (f1 (gIsiC "Dues") (fVarB 0)))) sBad sNil)
  (sRet (fVar 0))))
def m_need_due_order : MF := mOf 2 ((sRet (fCall m_need_order (aCons (f1 gLen (f1 (gFld clsL "rows") (fCall m_need_dues (aCons (fVar 0) aNil)))) (aCons (fVar 1) aNil)))))
def m_latenesses_by : MF := mOf 5 ((sSeq (sParX [2, 3] (xCons (fX (f2 gMul (fLst (aCons (fC (.int 0)) aNil)) (f1 gLen (f1 (gFld clsL "rows") (fVarB 0))))) (xCons (fSh (fC (.int 0))) xNil)))
  (sSeq (sFor (fItems (fVar 1)) (bN 4) (sSeq (sSet 3 (fSh (f2 gAdd (fVarB 3) (f2 gIx (f2 gIx (f1 (gFld clsL "rows") (fVarB 0)) (fVarB 4)) (fC (.int 0))))))
  (sSetIx 2 (fVar 4) (f2 gSub (fVarB 3) (f2 gIx (f2 gIx (f1 (gFld clsL "rows") (fVarB 0)) (fVarB 4)) (fC (.int 1)))))))
  (sRet (fVarB 2)))))
def m_by_dues : MF := mOf 2 ((sRet (f1 gTuple (fSortKR 1 (fRg1 (f1 gLen (f1 (gFld clsL "rows") (fVarB 0)))) (f2 gIx (f2 gIx (f1 (gFld clsL "rows") (fVarB 0)) (fVarB 1)) (fC (.int 1)))))))
def m_least_by_dues : MF := mOf 1 ((sRet (f1 gMax1 (fCall m_latenesses_by (aCons (fVar 0) (aCons (fCall m_by_dues (aCons (fVar 0) aNil)) aNil))))))
def m_bound_by : MF := mOf 3 ((sRet (f2 gSub (f1 gSum (fComp [2] (fItems (fVarB 1)) (bN 2) tfYes (f2 gIx (f2 gIx (f1 (gFld clsL "rows") (fVarB 0)) (fVarB 2)) (fC (.int 0))))) (f1 gMax1 (fComp [2] (fItems (fVarB 1)) (bN 2) tfYes (f2 gIx (f2 gIx (f1 (gFld clsL "rows") (fVarB 0)) (fVarB 2)) (fC (.int 1))))))))
def m_lots_by : MF := mOf 4 ((sSeq (sSet 1 (fSh (fLst (aCons (fTup aNil) aNil))))
  (sSeq (sFor (fRgI (fRg1 (fVar 0))) (bN 2) (sSet 1 (fSh (f2 gAdd (fVarB 1) (fComp [3] (fItems (fVarB 1)) (bN 3) tfYes (fTup (aStar (fVarB 3) (aCons (fVar 2) aNil))))))))
  (sRet (f1 gSorted (fVarB 1))))))
def m_first_tight : MF := mOf 3 ((sSeq (sFor (fItems (fSl (fCall m_lots_by (aCons (f1 gLen (f1 (gFld clsL "rows") (fVarB 0))) aNil)) (fPart (fC (.int 1))) fNoPart)) (bN 2) (sIf (fBl (f2 gEq (fCall m_bound_by (aCons (fVar 0) (aCons (fVar 2) aNil))) (fVarB 1))) (sRet (fVar 2)) sNil))
  (sRet (fC .non))))
def m_tight_or_timelier : MF := mOf 3 ((sSeq (sSet 2 (fSh (f1 gMax1 (fCall m_latenesses_by (aCons (fVar 0) (aCons (fCall m_need_due_order (aCons (fVar 0) (aCons (fVar 1) aNil))) aNil))))))
  (sSeq (sIf (fBl (f2 gGt (fVarB 2) (fCall m_least_by_dues (aCons (fVar 0) aNil)))) (sRet (fMake "Timelier" mi_Timelier (aCons (fCall m_by_dues (aCons (fVar 0) aNil)) aNil))) sNil)
  (sRet (fMake "Tight" mi_Tight (aCons (fCall m_first_tight (aCons (fVar 0) (aCons (fVar 2) aNil))) aNil))))))
def m_tight_holds : MF := mOf 4 ((sSeq (sSet 3 (fSh (f1 gMax1 (fCall m_latenesses_by (aCons (fVar 0) (aCons (fCall m_need_due_order (aCons (fVar 0) (aCons (fVar 1) aNil))) aNil))))))
  (sSeq (sIf (tfOr (tfNot (fTru (f1 (gIsiC "Tight") (fVarB 2)))) (tfOr (tfNot (fTru (fCall m_is_lot (aCons (f1 gLen (f1 (gFld clsL "rows") (fVarB 0))) (aCons (f1 (gFld clsL "lot") (fVarB 2)) aNil))))) (tfNot (fTru (f1 (gFld clsL "lot") (fVarB 2)))))) (sRet (fC (.bl false))) sNil)
  (sRet (f2 gEq (fCall m_bound_by (aCons (fVar 0) (aCons (f1 (gFld clsL "lot") (fVarB 2)) aNil))) (fVarB 3))))))
def m_timelier_holds : MF := mOf 4 ((sSeq (sSet 3 (fSh (f1 gMax1 (fCall m_latenesses_by (aCons (fVar 0) (aCons (fCall m_need_due_order (aCons (fVar 0) (aCons (fVar 1) aNil))) aNil))))))
  (sSeq (sIf (tfOr (tfNot (fTru (f1 (gIsiC "Timelier") (fVarB 2)))) (tfNot (fTru (fCall m_is_order (aCons (f1 gLen (f1 (gFld clsL "rows") (fVarB 0))) (aCons (f1 (gFld clsL "order") (fVarB 2)) aNil)))))) (sRet (fC (.bl false))) sNil)
  (sRet (f2 gLt (f1 gMax1 (fCall m_latenesses_by (aCons (fVar 0) (aCons (f1 (gFld clsL "order") (fVarB 2)) aNil)))) (fVarB 3))))))
def m__law_draw : MF := mOf 5 ((sSeq (sPen 0 uCount (f2 gAdd (fPen 0 (fun p => .int p.count)) (fC (.int 1))))
  (sSeq (sIf (tfAnd (fBl (f2 gEq (fPen 0 (fun p => .int p.digits)) (fC (.int 0)))) (fBl (f2 gLt (fPen 0 (fun p => .int p.at_)) (f1 gLen (fPen 0 (fun p => .lst (p.cells.map D.int))))))) (sSeq (sSet 2 (fSh (f2 gIx (fPen 0 (fun p => .lst (p.cells.map D.int))) (fPen 0 (fun p => .int p.at_)))))
  (sSeq (sPen 0 uAt (f2 gAdd (fPen 0 (fun p => .int p.at_)) (fC (.int 1))))
  (sIf (fBl (f2 gGe (fVarB 2) (f2 gPow (fC (.int 10)) (fC (.int 18))))) (sPen 0 uDigits (f2 gSub (fVarB 2) (f2 gPow (fC (.int 10)) (fC (.int 18))))) (sPen 0 uFold (f2 gMod (f1 gInt (f2 gAdd (f2 gMul (fPen 0 (fun p => .int p.fold)) (fC (.int 69069))) (fVarB 2))) (fC (.int 2147483587))))))) sNil)
  (sSeq (sIf (fBl (f2 gGt (fPen 0 (fun p => .int p.digits)) (fC (.int 0)))) (sSeq (sSet 3 (fSh (f2 gMod (f1 gInt (fPen 0 (fun p => .int p.digits))) (fVarB 1))))
  (sSeq (sPen 0 uDigits (f2 gDiv (fPen 0 (fun p => .int p.digits)) (fVarB 1)))
  (sRet (fVar 3)))) sNil)
  (sSeq (sSet 4 (fSh (f2 gMod (f1 gInt (f2 gAdd (f2 gAdd (f2 gMul (fPen 0 (fun p => .int p.fold)) (fC (.int 48271))) (f2 gMul (fPen 0 (fun p => .int p.count)) (fC (.int 7919)))) (fC (.int 13)))) (fC (.int 2147483647)))))
  (sSeq (sSet 4 (fSh (f2 gMod (f1 gInt (f2 gAdd (f2 gAdd (f2 gMul (fVarB 4) (fVarB 4)) (f2 gMul (fC (.int 31)) (fVarB 4))) (fPen 0 (fun p => .int p.count)))) (fC (.int 2147483629)))))
  (sSeq (sPen 0 uFold (f2 gMod (f1 gInt (f2 gAdd (f2 gMul (fVarB 4) (fC (.int 16807))) (fC (.int 7)))) (fC (.int 2147483647))))
  (sRet (f2 gMod (f1 gInt (f2 gDiv (fVarB 4) (fC (.int 64)))) (fVarB 1))))))))))
def m__law_pick : MF := mOf 2 ((sRet (f2 gIx (fVarB 1) (fCall m__law_draw (aCons (fVar 0) (aCons (f1 gLen (fVarB 1)) aNil))))))
def m__law_shuffled : MF := mOf 5 ((sSeq (sParX [2, 3] (xCons (fX (f1 gList (fVarB 1))) (xCons (fX (fLst aNil)) xNil)))
  (sSeq (sFor (fRgI (fRg1 (f1 gLen (fVarB 1)))) (bN 4) (sAppPop 3 2 (fCall m__law_draw (aCons (fVar 0) (aCons (f1 gLen (fVarB 2)) aNil)))))
  (sRet (fVarB 3)))))
def m__law_is : Nat → MF
  | 0 => fun _ _ => none
  | n + 1 => mOf 3 ((sSeq (sIf (fTru (f1 (gIsi "tuple") (fVarB 1))) (sSeq (sIf (tfOr (tfNot (fTru (f1 (gIsi "tuple") (fVarB 0)))) (fBl (f2 gNe (f1 gLen (fVarB 0)) (f1 gLen (fVarB 1))))) (sRet (fC (.bl false))) sNil)
  (sRet (f2 gEq (fComp [2] (fRgI (fRg1 (f1 gLen (fVarB 1)))) (bN 2) (tfNot (fTru (fCall (m__law_is n) (aCons (f2 gIx (fVarB 0) (fVarB 2)) (aCons (f2 gIx (fVarB 1) (fVarB 2)) aNil))))) (fVar 2)) (fLst aNil)))) sNil)
  (sSeq (sIf (fBl (f2 (gIs false) (fVarB 1) (fC .non))) (sRet (f2 (gIs false) (fVarB 0) (fC .non))) sNil)
  (sSeq (sIf (fBl (f2 (gIs false) (fVarB 1) (fC (.bl true)))) (sRet (f2 (gIs false) (fVarB 0) (fC (.bl true)))) sNil)
  (sSeq (sIf (fBl (f2 (gIs false) (fVarB 1) (fC (.bl false)))) (sRet (f2 (gIs false) (fVarB 0) (fC (.bl false)))) sNil)
  (sSeq (sIf (fTru (f1 (gIsi "str") (fVarB 1))) (sRet (fAnd (f1 (gIsi "str") (fVarB 0)) (f2 gEq (fVarB 0) (fVarB 1)))) sNil)
  (sRet (fAnd (f1 (gIsi "int") (fVarB 0)) (fAnd (fNot (f1 (gIsi "bool") (fVarB 0))) (f2 gEq (fVarB 0) (fVarB 1)))))))))))
def m__law_whole : MF := mOf 1 ((sRet (fAnd (f1 (gIsi "int") (fVarB 0)) (fNot (f1 (gIsi "bool") (fVarB 0))))))
def m__law_is_order : MF := mOf 3 ((sSeq (sIf (tfOr (tfNot (fTru (f1 (gIsi "tuple") (fVarB 1)))) (fBl (f2 gNe (fComp [2] (fItems (fVarB 1)) (bN 2) (tfNot (fTru (fCall m__law_whole (aCons (fVar 2) aNil)))) (fVar 2)) (fLst aNil)))) (sRet (fC (.bl false))) sNil)
  (sRet (f2 gEq (f1 gSorted (fVarB 1)) (fLstRg (fRg1 (fVar 0)))))))
def m__law_is_lot : MF := mOf 4 ((sSeq (sIf (tfOr (tfNot (fTru (f1 (gIsi "tuple") (fVarB 1)))) (fBl (f2 gNe (fComp [2] (fItems (fVarB 1)) (bN 2) (tfOr (tfNot (fTru (fCall m__law_whole (aCons (fVar 2) aNil)))) (tfNot (fBl (fChain gLe gLt (fC (.int 0)) (fVarB 2) (fVarB 0))))) (fVar 2)) (fLst aNil)))) (sRet (fC (.bl false))) sNil)
  (sRet (f2 gEq (fComp [2, 3] (fZip (fSl (fVarB 1) fNoPart (fPart (f1 gNeg (fC (.int 1))))) (fSl (fVarB 1) (fPart (fC (.int 1))) fNoPart)) (bTup 2 (bCons (bN 2) (bCons (bN 3) bNil))) (fBl (f2 gGe (fVarB 2) (fVarB 3))) (fC (.int 1))) (fLst aNil)))))
def m__law_drawn_dues : MF := mOf 10 ((sSeq (sParX [2, 3, 4, 5] (xCons (fSh (f2 gAdd (fC (.int 1)) (fCall m__law_draw (aCons (fVar 0) (aCons (fVar 1) aNil))))) (xCons (fSh (fCall m__law_draw (aCons (fVar 0) (aCons (fC (.int 4)) aNil)))) (xCons (fX (fLst aNil)) (xCons (fSh (fC (.int 0))) xNil)))))
  (sSeq (sSet 6 (fSh (fCall m__law_pick (aCons (fVar 0) (aCons (fLst (aCons (fC (.int 3)) (aCons (fC (.int 9)) (aCons (fC (.int 1000000)) aNil)))) aNil)))))
  (sSeq (sFor (fRgI (fRg1 (fVar 2))) (bN 7) (sSeq (sSet 8 (fSh (f2 gAdd (fC (.int 1)) (fCall m__law_draw (aCons (fVar 0) (aCons (fVar 6) aNil))))))
  (sSeq (sSet 5 (fSh (f2 gAdd (fVarB 5) (fVarB 8))))
  (sSeq (sSet 9 (fSh (f2 gIx (fLst (aCons (fCall m__law_draw (aCons (fVar 0) (aCons (f2 gAdd (f2 gMul (fC (.int 2)) (fVarB 5)) (fC (.int 1))) aNil))) (aCons (fVar 5) (aCons (fCall m__law_draw (aCons (fVar 0) (aCons (fC (.int 4)) aNil))) (aCons (f2 gMax2 (fC (.int 0)) (f2 gSub (f2 gSub (fVarB 5) (fC (.int 1))) (fCall m__law_draw (aCons (fVar 0) (aCons (fVar 8) aNil))))) aNil))))) (fVarB 3))))
  (sMut1 4 uApp (fTup (aCons (fVar 8) (aCons (f2 gMin2 (fC (.int 9000000)) (fVarB 9)) aNil))))))))
  (sFz 4 (sRet (f1 gTuple (fCall m__law_shuffled (aCons (fVar 0) (aCons (fVar 4) aNil))))))))))
def m__law_late_row : MF := mOf 5 ((sSeq (sParX [2, 3] (xCons (fX (f2 gMul (fLst (aCons (fC (.int 0)) aNil)) (f1 gLen (fVarB 0)))) (xCons (fSh (fC (.int 0))) xNil)))
  (sSeq (sFor (fItems (fVar 1)) (bN 4) (sSeq (sSet 3 (fSh (f2 gAdd (fVarB 3) (f2 gIx (f2 gIx (fVarB 0) (fVarB 4)) (fC (.int 0))))))
  (sSetIx 2 (fVar 4) (f2 gSub (fVarB 3) (f2 gIx (f2 gIx (fVarB 0) (fVarB 4)) (fC (.int 1)))))))
  (sRet (fVarB 2)))))
def m__law_by_dues : MF := mOf 2 ((sRet (f1 gTuple (fSortK 1 (fLstRg (fRg1 (f1 gLen (fVarB 0)))) (f2 gIx (f2 gIx (fVarB 0) (fVarB 1)) (fC (.int 1)))))))
def m__law_all_lots : MF := mOf 4 ((sSeq (sSet 1 (fSh (fLst (aCons (fTup aNil) aNil))))
  (sSeq (sFor (fRgI (fRg1 (fVar 0))) (bN 2) (sSet 1 (fSh (f2 gAdd (fVarB 1) (fComp [3] (fItems (fVarB 1)) (bN 3) tfYes (f2 gAdd (fVarB 3) (fTup (aCons (fVar 2) aNil))))))))
  (sRet (f1 gSorted (fVarB 1))))))
def m__law_lot_bound : MF := mOf 3 ((sRet (f2 gSub (f1 gSum (fComp [2] (fItems (fVarB 1)) (bN 2) tfYes (f2 gIx (f2 gIx (fVarB 0) (fVarB 2)) (fC (.int 0))))) (f1 gMax1 (fComp [2] (fItems (fVarB 1)) (bN 2) tfYes (f2 gIx (f2 gIx (fVarB 0) (fVarB 2)) (fC (.int 1))))))))
def m__law_bent_order : MF := mOf 6 ((sSeq (sSet 2 (fSh (f1 gLen (fVarB 1))))
  (sSeq (sParX [3, 4] (xCons (fSh (fCall m__law_draw (aCons (fVar 0) (aCons (fVar 2) aNil)))) (xCons (fSh (fCall m__law_draw (aCons (fVar 0) (aCons (fVar 2) aNil)))) xNil)))
  (sSeq (sSet 5 (fX (f1 gList (fVarB 1))))
  (sSeq (sSetIx2 5 (fVar 3) (fVar 4) (f2 gIx (fVarB 5) (fVarB 4)) (f2 gIx (fVarB 5) (fVarB 3)))
  (sRet (fCall m__law_pick (aCons (fVar 0) (aCons (f2 gAdd (f2 gMul (fLst (aCons (f1 gTuple (fVarB 5)) aNil)) (fC (.int 5))) (fLst (aCons (fVar 1) (aCons (fSl (fVarB 1) (fPart (fC (.int 1))) fNoPart) (aCons (f2 gAdd (fVarB 1) (fTup (aCons (fVar 2) aNil))) (aCons (f1 gList (fVarB 1)) (aCons (fC .non) (aCons (f2 gAdd (fTup (aCons (fC (.bl true)) aNil)) (fSl (fVarB 1) (fPart (fC (.int 1))) fNoPart)) (aCons (f1 gRev (fVarB 1)) aNil))))))))) aNil)))))))))
def b_law : FS := (sSeq (sFor (fRgI (fRg1 (fC (.int 3)))) (bN 2) (sSeq (sSet 3 (fSh (fCall m__law_drawn_dues (aCons (fVar 1) (aCons (fC (.int 6)) aNil)))))
  (sSeq (sParX [4, 5, 6] (xCons (fSh (f1 gLen (fVarB 3))) (xCons (fSh (fMake "Dues" mi_Dues (aCons (fVar 3) aNil))) (xCons (fSh (fCall m__law_by_dues (aCons (fVar 3) aNil))) xNil))))
  (sSeq (sSet 7 (fSh (fCall m__law_all_lots (aCons (fVar 4) aNil))))
  (sFor (fRgI (fRg1 (fC (.int 10)))) (bN 8) (sSeq (sSet 9 (fSh (fCall m__law_pick (aCons (fVar 1) (aCons (fLst (aCons (fVar 6) (aCons (f1 gTuple (fCall m__law_shuffled (aCons (fVar 1) (aCons (fLstRg (fRg1 (fVar 4))) aNil)))) aNil))) aNil)))))
  (sSeq (sSet 10 (fSh (f1 gMax1 (fCall m__law_late_row (aCons (fVar 3) (aCons (fVar 9) aNil))))))
  (sSeq (sAft 11 (sSet 11 (fX (fComp [12] (fItems (fSl (fVarB 7) (fPart (fC (.int 1))) fNoPart)) (bN 12) (fBl (f2 gEq (fCall m__law_lot_bound (aCons (fVar 3) (aCons (fVar 12) aNil))) (fVarB 10))) (fVar 12)))))
  (sSeq (sSet 12 (fSh (fCall m__law_pick (aCons (fVar 1) (aCons (f2 gAdd (fVarB 7) (f2 gMul (fVarB 11) (fC (.int 3)))) aNil)))))
  (sSeq (sSet 13 (fSh (fCall m__law_bent_order (aCons (fVar 1) (aCons (fCall m__law_pick (aCons (fVar 1) (aCons (fLst (aCons (fVar 6) (aCons (fVar 9) (aCons (f1 gTuple (fCall m__law_shuffled (aCons (fVar 1) (aCons (fLstRg (fRg1 (fVar 4))) aNil)))) aNil)))) aNil))) aNil)))))
  (sSeq (sSet 14 (fSh (fLst (aCons (fCall m_tight_or_timelier (aCons (fVar 5) (aCons (fVar 9) aNil))) (aCons (fMake "Tight" mi_Tight (aCons (fVar 12) aNil)) (aCons (fMake "Tight" mi_Tight (aCons (fVar 12) aNil)) (aCons (fMake "Tight" mi_Tight (aCons (f1 gRev (fVarB 12)) aNil)) (aCons (fMake "Tight" mi_Tight (aCons (f2 gAdd (fVarB 12) (fSl (fVarB 12) (fPart (f1 gNeg (fC (.int 1)))) fNoPart)) aNil)) (aCons (fMake "Tight" mi_Tight (aCons (fTup (aCons (fVar 4) aNil)) aNil)) (aCons (fMake "Tight" mi_Tight (aCons (fTup (aCons (fC (.bl true)) aNil)) aNil)) (aCons (fMake "Tight" mi_Tight (aCons (fC .non) aNil)) (aCons (fMake "Tight" mi_Tight (aCons (f1 gList (fVarB 12)) aNil)) aNil))))))))))))
  (sSeq (sSet 15 (fSh (fCall m__law_pick (aCons (fVar 1) (aCons (f2 gAdd (f2 gAdd (fVarB 14) (f2 gMul (fLst (aCons (fMake "Timelier" mi_Timelier (aCons (fVar 13) aNil)) aNil)) (fC (.int 4)))) (fLst (aCons (fMake "Timelier" mi_Timelier (aCons (fC .non) aNil)) (aCons (fMake "Tight" mi_Tight (aCons (fVar 13) aNil)) (aCons (fMake "Timelier" mi_Timelier (aCons (fVar 12) aNil)) (aCons (fVar 9) (aCons (fC .non) aNil))))))) aNil)))))
  (sSeq (sSet 16 (fSh (fAnd (f1 (gIsiC "Tight") (fVarB 15)) (fAnd (fCall m__law_is_lot (aCons (fVar 4) (aCons (f1 (gFld clsL "lot") (fVarB 15)) aNil))) (f2 gInS (f1 (gFld clsL "lot") (fVarB 15)) (fVarB 11))))))
  (sSeq (sSet 17 (fSh (fAnd (f1 (gIsiC "Timelier") (fVarB 15)) (fAnd (fCall m__law_is_order (aCons (fVar 4) (aCons (f1 (gFld clsL "order") (fVarB 15)) aNil))) (f2 gLt (f1 gMax1 (fCall m__law_late_row (aCons (fVar 3) (aCons (f1 (gFld clsL "order") (fVarB 15)) aNil)))) (fVarB 10))))))
  (sIf (tfNot (fTru (fCall (m__law_is 12) (aCons (fTup (aCons (fCall m_tight_holds (aCons (fVar 5) (aCons (fVar 9) (aCons (fVar 15) aNil)))) (aCons (fCall m_timelier_holds (aCons (fVar 5) (aCons (fVar 9) (aCons (fVar 15) aNil)))) aNil))) (aCons (fTup (aCons (fVar 16) (aCons (fVar 17) aNil))) aNil))))) (sRet (fC (.bl false))) sNil)))))))))))))))
  (sSeq (sParX [18, 19] (xCons (fSh (fMake "Tight" mi_Tight (aCons (fLst (aCons (fC (.int 0)) aNil)) aNil))) (xCons (fSh (fMake "Timelier" mi_Timelier (aCons (fLst (aCons (fC (.int 0)) (aCons (fC (.int 1)) aNil))) aNil))) xNil)))
  (sSeq (sIf (tfOr (fBl (f2 (gIs true) (fOwn "Tight" mq_Tight (fVar 18) (fMake "Tight" mi_Tight (aCons (fTup (aCons (fC (.int 0)) aNil)) aNil))) (fC (.bl true)))) (tfOr (fBl (f2 (gIs true) (fOwn "Tight" mn_Tight (fVar 18) (fMake "Tight" mi_Tight (aCons (fTup aNil) aNil))) (fC (.bl true)))) (fBl (f2 (gIs true) (fOwn "Tight" mq_Tight (fVar 18) (fTup (aCons (fC (.int 0)) aNil))) (fC (.bl false)))))) (sRet (fC (.bl false))) sNil)
  (sRet (fAnd (f2 (gIs false) (fOwn "Timelier" mq_Timelier (fVar 19) (fMake "Timelier" mi_Timelier (aCons (fTup (aCons (fC (.int 0)) (aCons (fC (.int 1)) aNil))) aNil))) (fC (.bl true))) (fAnd (f2 (gIs false) (fOwn "Timelier" mn_Timelier (fVar 19) (fMake "Timelier" mi_Timelier (aCons (fTup (aCons (fC (.int 1)) (aCons (fC (.int 0)) aNil))) aNil))) (fC (.bl true))) (f2 (gIs false) (fOwn "Timelier" mq_Timelier (fVar 19) (fVar 18)) (fC (.bl false)))))))))
end
end K69
namespace K69
open PySem L2 Cr
def top (i : Nat) : Stmt := PySem.Challenge.pw_whatfirst_k69_worst_lateness_bent.main.body.getD i (.Pass ⟨0, 0, 0, 0⟩)
abbrev t_is_whole : Stmt := top 4
abbrev t_is_number : Stmt := top 5
abbrev t_as_tuples : Stmt := top 6
abbrev t_is_index : Stmt := top 7
abbrev t_is_order : Stmt := top 9
abbrev t_need_order : Stmt := top 10
abbrev t_is_lot : Stmt := top 11
abbrev t_Dues : Stmt := inClass (top 16) 0
abbrev t_q_Dues : Stmt := inClass (top 16) 1
abbrev t_n_Dues : Stmt := inClass (top 16) 2
abbrev t_Tight : Stmt := inClass (top 17) 0
abbrev t_q_Tight : Stmt := inClass (top 17) 1
abbrev t_n_Tight : Stmt := inClass (top 17) 2
abbrev t_Timelier : Stmt := inClass (top 18) 0
abbrev t_q_Timelier : Stmt := inClass (top 18) 1
abbrev t_n_Timelier : Stmt := inClass (top 18) 2
abbrev t_is_due_job : Stmt := top 19
abbrev t_need_dues : Stmt := top 20
abbrev t_need_due_order : Stmt := top 21
abbrev t_latenesses_by : Stmt := top 22
abbrev t_by_dues : Stmt := top 23
abbrev t_least_by_dues : Stmt := top 24
abbrev t_bound_by : Stmt := top 25
abbrev t_lots_by : Stmt := top 26
abbrev t_first_tight : Stmt := top 27
abbrev t_tight_or_timelier : Stmt := top 28
abbrev t_tight_holds : Stmt := top 29
abbrev t_timelier_holds : Stmt := top 30
abbrev t__law_pen : Stmt := top 32
abbrev t__law_draw : Stmt := top 33
abbrev t__law_pick : Stmt := top 34
abbrev t__law_shuffled : Stmt := top 35
abbrev t__law_is : Stmt := top 36
abbrev t__law_whole : Stmt := top 37
abbrev t__law_is_order : Stmt := top 38
abbrev t__law_is_lot : Stmt := top 39
abbrev t__law_drawn_dues : Stmt := top 40
abbrev t__law_late_row : Stmt := top 41
abbrev t__law_by_dues : Stmt := top 42
abbrev t__law_all_lots : Stmt := top 43
abbrev t__law_lot_bound : Stmt := top 44
abbrev t__law_bent_order : Stmt := top 45
abbrev t_law : Stmt := top 46
structure Txt (K : PySem.W.Frag) (mg : Str → Option Value) (G : Gm) (base : Heap) : Prop where
  d0 : True
  b_all : mg "all" = none
  b_bool : mg "bool" = none
  b_int : mg "int" = none
  b_isinstance : mg "isinstance" = none
  b_len : mg "len" = none
  b_list : mg "list" = none
  b_max : mg "max" = none
  b_min : mg "min" = none
  b_range : mg "range" = none
  b_sorted : mg "sorted" = none
  b_str : mg "str" = none
  b_sum : mg "sum" = none
  b_tuple : mg "tuple" = none
  b_zip : mg "zip" = none
  k_MOST_JOBS : ∃ u, mg "MOST_JOBS" = some u ∧ RelV (.int 10) u
  k_MOST_LENGTH : ∃ u, mg "MOST_LENGTH" = some u ∧ RelV (.int 1000000) u
  k_MOST_DUE : ∃ u, mg "MOST_DUE" = some u ∧ RelV (.int 10000000) u
  g_Dues : ∃ A, G "Dues" = some A ∧ mg "Dues" = some (.ref A)
  x_Dues : ClsX K mg G "Dues" "Dues"
  g_Tight : ∃ A, G "Tight" = some A ∧ mg "Tight" = some (.ref A)
  x_Tight : ClsX K mg G "Tight" "Tight"
  g_Timelier : ∃ A, G "Timelier" = some A ∧ mg "Timelier" = some (.ref A)
  x_Timelier : ClsX K mg G "Timelier" "Timelier"
  cf : ClsF K G
  na_rows : ∀ c C, G c = some C → NoAttr K C "rows"
  na_lot : ∀ c C, G c = some C → NoAttr K C "lot"
  na_order : ∀ c C, G c = some C → NoAttr K C "order"
  l_by_dues : MkT K mg base G "by_dues" "by_dues.<locals>.<lambda>"
  l__law_by_dues : MkT K mg base G "_law_by_dues" "_law_by_dues.<locals>.<lambda>"
  d_is_whole : DefF K mg "is_whole" t_is_whole ["value"]
  d_is_number : DefF K mg "is_number" t_is_number ["value"]
  d_as_tuples : DefF K mg "as_tuples" t_as_tuples ["value"]
  d_is_index : DefF K mg "is_index" t_is_index ["value", "many"]
  d_is_order : DefF K mg "is_order" t_is_order ["many", "value"]
  d_need_order : DefF K mg "need_order" t_need_order ["many", "order"]
  d_is_lot : DefF K mg "is_lot" t_is_lot ["many", "value"]
  m_Dues : MethF K G "Dues" "__init__" "Dues.__init__" t_Dues ["self", "rows"]
  m_q_Dues : MethF K G "Dues" "__eq__" "Dues.__eq__" t_q_Dues ["self", "other"]
  m_n_Dues : MethF K G "Dues" "__ne__" "Dues.__ne__" t_n_Dues ["self", "other"]
  m_Tight : MethF K G "Tight" "__init__" "Tight.__init__" t_Tight ["self", "lot"]
  m_q_Tight : MethF K G "Tight" "__eq__" "Tight.__eq__" t_q_Tight ["self", "other"]
  m_n_Tight : MethF K G "Tight" "__ne__" "Tight.__ne__" t_n_Tight ["self", "other"]
  m_Timelier : MethF K G "Timelier" "__init__" "Timelier.__init__" t_Timelier ["self", "order"]
  m_q_Timelier : MethF K G "Timelier" "__eq__" "Timelier.__eq__" t_q_Timelier ["self", "other"]
  m_n_Timelier : MethF K G "Timelier" "__ne__" "Timelier.__ne__" t_n_Timelier ["self", "other"]
  d_is_due_job : DefF K mg "is_due_job" t_is_due_job ["value"]
  d_need_dues : DefF K mg "need_dues" t_need_dues ["dues"]
  d_need_due_order : DefF K mg "need_due_order" t_need_due_order ["dues", "order"]
  d_latenesses_by : DefF K mg "latenesses_by" t_latenesses_by ["dues", "order"]
  d_by_dues : DefF K mg "by_dues" t_by_dues ["dues"]
  d_least_by_dues : DefF K mg "least_by_dues" t_least_by_dues ["dues"]
  d_bound_by : DefF K mg "bound_by" t_bound_by ["dues", "lot"]
  d_lots_by : DefF K mg "lots_by" t_lots_by ["many"]
  d_first_tight : DefF K mg "first_tight" t_first_tight ["dues", "worst"]
  d_tight_or_timelier : DefF K mg "tight_or_timelier" t_tight_or_timelier ["dues", "order"]
  d_tight_holds : DefF K mg "tight_holds" t_tight_holds ["dues", "order", "value"]
  d_timelier_holds : DefF K mg "timelier_holds" t_timelier_holds ["dues", "order", "value"]
  d__law_pen : DefF K mg "_law_pen" t__law_pen ["script"]
  d__law_draw : DefF K mg "_law_draw" t__law_draw ["pen", "many"]
  d__law_pick : DefF K mg "_law_pick" t__law_pick ["pen", "some"]
  d__law_shuffled : DefF K mg "_law_shuffled" t__law_shuffled ["pen", "some"]
  d__law_is : DefF K mg "_law_is" t__law_is ["told", "due"]
  d__law_whole : DefF K mg "_law_whole" t__law_whole ["value"]
  d__law_is_order : DefF K mg "_law_is_order" t__law_is_order ["many", "value"]
  d__law_is_lot : DefF K mg "_law_is_lot" t__law_is_lot ["many", "value"]
  d__law_drawn_dues : DefF K mg "_law_drawn_dues" t__law_drawn_dues ["pen", "most"]
  d__law_late_row : DefF K mg "_law_late_row" t__law_late_row ["rows", "order"]
  d__law_by_dues : DefF K mg "_law_by_dues" t__law_by_dues ["rows"]
  d__law_all_lots : DefF K mg "_law_all_lots" t__law_all_lots ["many"]
  d__law_lot_bound : DefF K mg "_law_lot_bound" t__law_lot_bound ["rows", "lot"]
  d__law_bent_order : DefF K mg "_law_bent_order" t__law_bent_order ["pen", "order"]
def fas : List He.Fa := [.free "all", .free "bool", .free "int", .free "isinstance", .free "len", .free "list", .free "max", .free "min", .free "range", .free "sorted", .free "str", .free "sum", .free "tuple", .free "zip", .int "MOST_JOBS" 10, .int "MOST_LENGTH" 1000000, .int "MOST_DUE" 10000000, .glo "Dues", .glo "Tight", .glo "Timelier", .glo "by_dues", .glo "_law_by_dues", .glo "is_whole", .glo "is_number", .glo "as_tuples", .glo "is_index", .glo "is_order", .glo "need_order", .glo "is_lot", .meth "Dues" "__init__", .meth "Dues" "__eq__", .meth "Dues" "__ne__", .meth "Tight" "__init__", .meth "Tight" "__eq__", .meth "Tight" "__ne__", .meth "Timelier" "__init__", .meth "Timelier" "__eq__", .meth "Timelier" "__ne__", .glo "is_due_job", .glo "need_dues", .glo "need_due_order", .glo "latenesses_by", .glo "least_by_dues", .glo "bound_by", .glo "lots_by", .glo "first_tight", .glo "tight_or_timelier", .glo "tight_holds", .glo "timelier_holds", .glo "_law_pen", .glo "_law_draw", .glo "_law_pick", .glo "_law_shuffled", .glo "_law_is", .glo "_law_whole", .glo "_law_is_order", .glo "_law_is_lot", .glo "_law_drawn_dues", .glo "_law_late_row", .glo "_law_all_lots", .glo "_law_lot_bound", .glo "_law_bent_order", .glo "law"]
def fns : List He.DefD := [dTop "is_whole" t_is_whole, dTop "is_number" t_is_number, dTop "as_tuples" t_as_tuples, dTop "is_index" t_is_index, dTop "is_order" t_is_order, dTop "need_order" t_need_order, dTop "is_lot" t_is_lot, dMeth "Dues" "__init__" "Dues.__init__" t_Dues, dMeth "Dues" "__eq__" "Dues.__eq__" t_q_Dues, dMeth "Dues" "__ne__" "Dues.__ne__" t_n_Dues, dMeth "Tight" "__init__" "Tight.__init__" t_Tight, dMeth "Tight" "__eq__" "Tight.__eq__" t_q_Tight, dMeth "Tight" "__ne__" "Tight.__ne__" t_n_Tight, dMeth "Timelier" "__init__" "Timelier.__init__" t_Timelier, dMeth "Timelier" "__eq__" "Timelier.__eq__" t_q_Timelier, dMeth "Timelier" "__ne__" "Timelier.__ne__" t_n_Timelier, dTop "is_due_job" t_is_due_job, dTop "need_dues" t_need_dues, dTop "need_due_order" t_need_due_order, dTop "latenesses_by" t_latenesses_by, dTop "by_dues" t_by_dues, dTop "least_by_dues" t_least_by_dues, dTop "bound_by" t_bound_by, dTop "lots_by" t_lots_by, dTop "first_tight" t_first_tight, dTop "tight_or_timelier" t_tight_or_timelier, dTop "tight_holds" t_tight_holds, dTop "timelier_holds" t_timelier_holds, dTop "_law_pen" t__law_pen, dTop "_law_draw" t__law_draw, dTop "_law_pick" t__law_pick, dTop "_law_shuffled" t__law_shuffled, dTop "_law_is" t__law_is, dTop "_law_whole" t__law_whole, dTop "_law_is_order" t__law_is_order, dTop "_law_is_lot" t__law_is_lot, dTop "_law_drawn_dues" t__law_drawn_dues, dTop "_law_late_row" t__law_late_row, dTop "_law_by_dues" t__law_by_dues, dTop "_law_all_lots" t__law_all_lots, dTop "_law_lot_bound" t__law_lot_bound, dTop "_law_bent_order" t__law_bent_order, dTop "law" t_law]
def tfs : List He.Defn := [("by_dues", none), ("_law_by_dues", none)]
def cs : List (String × Str) := [("Dues", "Dues"), ("Tight", "Tight"), ("Timelier", "Timelier")]
def fls : List Str := ["rows", "lot", "order"]
theorem txt_of {K : PySem.W.Frag} {mg : Str → Option Value} {h base : Heap} (X : K.In h) (N : h.Ns mainGlobals mg) (c : He.SaysD fas fns K) (e2 : exB2 cs fls tfs K = true) (hT : ∀ p ∈ tfs, LamX.TabB base mg (He.cT K p).1 (He.cT K p).2) : Txt K mg (gmOf (gmK K cs) (tbK K tfs)) base :=
  have e := exB2_1 e2
  {
    d0 := True.intro
    b_all := He.free_ok X N (c.fact 0 rfl)
    b_bool := He.free_ok X N (c.fact 1 rfl)
    b_int := He.free_ok X N (c.fact 2 rfl)
    b_isinstance := He.free_ok X N (c.fact 3 rfl)
    b_len := He.free_ok X N (c.fact 4 rfl)
    b_list := He.free_ok X N (c.fact 5 rfl)
    b_max := He.free_ok X N (c.fact 6 rfl)
    b_min := He.free_ok X N (c.fact 7 rfl)
    b_range := He.free_ok X N (c.fact 8 rfl)
    b_sorted := He.free_ok X N (c.fact 9 rfl)
    b_str := He.free_ok X N (c.fact 10 rfl)
    b_sum := He.free_ok X N (c.fact 11 rfl)
    b_tuple := He.free_ok X N (c.fact 12 rfl)
    b_zip := He.free_ok X N (c.fact 13 rfl)
    k_MOST_JOBS := int_of X N c 14 rfl
    k_MOST_LENGTH := int_of X N c 15 rfl
    k_MOST_DUE := int_of X N c 16 rfl
    g_Dues := ⟨_, rfl, He.glo_ok X N (c.fact 17 rfl)⟩
    x_Dues := exB_x e rfl (He.glo_ok X N (c.fact 17 rfl))
    g_Tight := ⟨_, rfl, He.glo_ok X N (c.fact 18 rfl)⟩
    x_Tight := exB_x e rfl (He.glo_ok X N (c.fact 18 rfl))
    g_Timelier := ⟨_, rfl, He.glo_ok X N (c.fact 19 rfl)⟩
    x_Timelier := exB_x e rfl (He.glo_ok X N (c.fact 19 rfl))
    cf := exB_cf e
    na_rows := exB_na e (by decide)
    na_lot := exB_na e (by decide)
    na_order := exB_na e (by decide)
    l_by_dues := mk_of e2 hT (by decide) (by decide) (He.glo_ok X N (c.fact 20 rfl))
    l__law_by_dues := mk_of e2 hT (by decide) (by decide) (He.glo_ok X N (c.fact 21 rfl))
    d_is_whole := defF_of X N c 0 22 rfl rfl (fun _ _ _ _ _ _ us hl => match us, hl with | [_], _ => rfl)
    d_is_number := defF_of X N c 1 23 rfl rfl (fun _ _ _ _ _ _ us hl => match us, hl with | [_], _ => rfl)
    d_as_tuples := defF_of X N c 2 24 rfl rfl (fun _ _ _ _ _ _ us hl => match us, hl with | [_], _ => rfl)
    d_is_index := defF_of X N c 3 25 rfl rfl (fun _ _ _ _ _ _ us hl => match us, hl with | [_, _], _ => rfl)
    d_is_order := defF_of X N c 4 26 rfl rfl (fun _ _ _ _ _ _ us hl => match us, hl with | [_, _], _ => rfl)
    d_need_order := defF_of X N c 5 27 rfl rfl (fun _ _ _ _ _ _ us hl => match us, hl with | [_, _], _ => rfl)
    d_is_lot := defF_of X N c 6 28 rfl rfl (fun _ _ _ _ _ _ us hl => match us, hl with | [_, _], _ => rfl)
    m_Dues := methF_of c 7 29 rfl rfl rfl (fun _ _ _ _ _ _ us hl => match us, hl with | [_, _], _ => rfl)
    m_q_Dues := methF_of c 8 30 rfl rfl rfl (fun _ _ _ _ _ _ us hl => match us, hl with | [_, _], _ => rfl)
    m_n_Dues := methF_of c 9 31 rfl rfl rfl (fun _ _ _ _ _ _ us hl => match us, hl with | [_, _], _ => rfl)
    m_Tight := methF_of c 10 32 rfl rfl rfl (fun _ _ _ _ _ _ us hl => match us, hl with | [_, _], _ => rfl)
    m_q_Tight := methF_of c 11 33 rfl rfl rfl (fun _ _ _ _ _ _ us hl => match us, hl with | [_, _], _ => rfl)
    m_n_Tight := methF_of c 12 34 rfl rfl rfl (fun _ _ _ _ _ _ us hl => match us, hl with | [_, _], _ => rfl)
    m_Timelier := methF_of c 13 35 rfl rfl rfl (fun _ _ _ _ _ _ us hl => match us, hl with | [_, _], _ => rfl)
    m_q_Timelier := methF_of c 14 36 rfl rfl rfl (fun _ _ _ _ _ _ us hl => match us, hl with | [_, _], _ => rfl)
    m_n_Timelier := methF_of c 15 37 rfl rfl rfl (fun _ _ _ _ _ _ us hl => match us, hl with | [_, _], _ => rfl)
    d_is_due_job := defF_of X N c 16 38 rfl rfl (fun _ _ _ _ _ _ us hl => match us, hl with | [_], _ => rfl)
    d_need_dues := defF_of X N c 17 39 rfl rfl (fun _ _ _ _ _ _ us hl => match us, hl with | [_], _ => rfl)
    d_need_due_order := defF_of X N c 18 40 rfl rfl (fun _ _ _ _ _ _ us hl => match us, hl with | [_, _], _ => rfl)
    d_latenesses_by := defF_of X N c 19 41 rfl rfl (fun _ _ _ _ _ _ us hl => match us, hl with | [_, _], _ => rfl)
    d_by_dues := defF_of X N c 20 20 rfl rfl (fun _ _ _ _ _ _ us hl => match us, hl with | [_], _ => rfl)
    d_least_by_dues := defF_of X N c 21 42 rfl rfl (fun _ _ _ _ _ _ us hl => match us, hl with | [_], _ => rfl)
    d_bound_by := defF_of X N c 22 43 rfl rfl (fun _ _ _ _ _ _ us hl => match us, hl with | [_, _], _ => rfl)
    d_lots_by := defF_of X N c 23 44 rfl rfl (fun _ _ _ _ _ _ us hl => match us, hl with | [_], _ => rfl)
    d_first_tight := defF_of X N c 24 45 rfl rfl (fun _ _ _ _ _ _ us hl => match us, hl with | [_, _], _ => rfl)
    d_tight_or_timelier := defF_of X N c 25 46 rfl rfl (fun _ _ _ _ _ _ us hl => match us, hl with | [_, _], _ => rfl)
    d_tight_holds := defF_of X N c 26 47 rfl rfl (fun _ _ _ _ _ _ us hl => match us, hl with | [_, _, _], _ => rfl)
    d_timelier_holds := defF_of X N c 27 48 rfl rfl (fun _ _ _ _ _ _ us hl => match us, hl with | [_, _, _], _ => rfl)
    d__law_pen := defF_of X N c 28 49 rfl rfl (fun _ _ _ _ _ _ us hl => match us, hl with | [_], _ => rfl)
    d__law_draw := defF_of X N c 29 50 rfl rfl (fun _ _ _ _ _ _ us hl => match us, hl with | [_, _], _ => rfl)
    d__law_pick := defF_of X N c 30 51 rfl rfl (fun _ _ _ _ _ _ us hl => match us, hl with | [_, _], _ => rfl)
    d__law_shuffled := defF_of X N c 31 52 rfl rfl (fun _ _ _ _ _ _ us hl => match us, hl with | [_, _], _ => rfl)
    d__law_is := defF_of X N c 32 53 rfl rfl (fun _ _ _ _ _ _ us hl => match us, hl with | [_, _], _ => rfl)
    d__law_whole := defF_of X N c 33 54 rfl rfl (fun _ _ _ _ _ _ us hl => match us, hl with | [_], _ => rfl)
    d__law_is_order := defF_of X N c 34 55 rfl rfl (fun _ _ _ _ _ _ us hl => match us, hl with | [_, _], _ => rfl)
    d__law_is_lot := defF_of X N c 35 56 rfl rfl (fun _ _ _ _ _ _ us hl => match us, hl with | [_, _], _ => rfl)
    d__law_drawn_dues := defF_of X N c 36 57 rfl rfl (fun _ _ _ _ _ _ us hl => match us, hl with | [_, _], _ => rfl)
    d__law_late_row := defF_of X N c 37 58 rfl rfl (fun _ _ _ _ _ _ us hl => match us, hl with | [_, _], _ => rfl)
    d__law_by_dues := defF_of X N c 38 21 rfl rfl (fun _ _ _ _ _ _ us hl => match us, hl with | [_], _ => rfl)
    d__law_all_lots := defF_of X N c 39 59 rfl rfl (fun _ _ _ _ _ _ us hl => match us, hl with | [_], _ => rfl)
    d__law_lot_bound := defF_of X N c 40 60 rfl rfl (fun _ _ _ _ _ _ us hl => match us, hl with | [_, _], _ => rfl)
    d__law_bent_order := defF_of X N c 41 61 rfl rfl (fun _ _ _ _ _ _ us hl => match us, hl with | [_, _], _ => rfl)
  }
section
variable {P : Program} {w : World} {K : PySem.W.Frag} {mg : Str → Option Value} {base : Heap} {G : Gm}
end
end K69
namespace K69
open PySem L2 Cr
noncomputable section
section
variable {P : Program} {w : World} {K : PySem.W.Frag} {mg : Str → Option Value} {base : Heap} {G : Gm}
theorem sc__law_pen : FnScope ["script", "fold", "cell"] ["script"] (defScope t__law_pen) := ⟨rfl, rfl, rfl, by decide +kernel, rfl, by decide +kernel, by decide +kernel⟩
theorem ok__law_pen (T : Txt K mg G base) : ∀ f fd, L2.Fun K "_law_pen" "_law_pen" t__law_pen f fd → FnOk P w K mg base CX0 1 f fd ["script"] (spPen K) := fun f fd F => by
  refine F.ok sc__law_pen (fun vs H Q E ⟨a, ns, e, _⟩ => by rw [e]; rfl) (fun cdv A outer s H vs Q E hr ⟨a, ns, e, hS, hl, k⟩ => ?_)
  refine ⟨_, pss_cons (ps_set (i := 1) sc__law_pen.nd rfl (.inl rfl) pe_int)
    (pss_cons (ps_for PassesOwn.never rfl (pi_list (pv 0)) (pg_name (i := 2) sc__law_pen.nd rfl (.inl rfl))
      (pss_one (ps_set (i := 1) sc__law_pen.nd rfl (.inl rfl) (pe_op op_mod (pe_callTy call_int1 rfl T.b_int boot_int_ (pa_cons (pe_op op_add (pe_op op_mul (pv 1) pe_int) (pv 2)) pa_nil)) pe_int))))
    (pss_one (ps_ret (pe_disp (pps_cons pe_str (pe_callTy call_list_of rfl T.b_list boot_list_ (pa_cons (pv 0) pa_nil)) (pps_cons pe_str pe_int (pps_cons pe_str pe_int (pps_cons pe_str pe_int (pps_cons pe_str (pv 1) pps_nil))))) rfl rfl (by decide) (by decide))))), ?_⟩
  subst e
  refine ⟨_, rfl, a, rfl, ⟨_, hS⟩, ?_⟩
  refine for_list (xs := ns.map V.int) (fun i σ' H' => H' = H ∧ ∃ v2, σ' = [some (V.ref a), some (V.int (foldOf (ns.take i))), v2]) ⟨rfl, _, rfl⟩ (fun i σ' H' hi ⟨e, _⟩ => e ▸ hS) (fun i x σ' H' hx ⟨e, v2, es⟩ => ?_) (fun σ' H' ⟨e, v2, es⟩ => ?_)
  · subst e es
    rw [List.getElem?_map] at hx
    cases hn : ns[i]? with
    | none => rw [hn] at hx; cases hx
    | some n =>
      rw [hn] at hx
      cases hx
      refine ⟨_, rfl, _, _, rfl, rfl, .inr ⟨by decide, by decide⟩, _, rfl, _, _, rfl, rfl, .inl ⟨_, rfl, _, _, rfl, rfl, (show (0 : Int) < 1000000007 by decide), rfl, some (V.int n), ?_⟩⟩
      rw [foldOf_take hn]
      rfl
  · subst e es
    intro p hp
    have hS2 : SqL K (upd H' p (.dK [])) a (ns.map V.int) := sqL_upd hS hp
    refine ⟨_, rfl, a, ns.map V.int, rfl, .inl hS2, fun c hc => ⟨_, rfl, ?_⟩⟩
    have npc : c ≠ p := fun z => by rw [z, upd_same] at hc; cases hc
    rw [upd_ne npc] at hc
    refine ⟨by rw [upd_ne (Ne.symm npc)]; exact upd_same, [(kCells, .ref c), (kAt, .int 0), (kDigits, .int 0), (kCount, .int 0), (kFold, .int (foldOf ns))], ?_, (show 5 ≤ 15 by decide), k p c _ hp hc (Ne.symm npc) (fun T hT => pen_tabs hp hc npc hT) ?_ ?_⟩
    · rw [List.length_map, List.take_length]
      rfl
    · rw [upd_ne npc, upd_same]
    · rw [upd_same]
      rfl

end
end
end K69
namespace K69
open PySem L2 Cr
noncomputable section
section
variable {P : Program} {w : World} {K : PySem.W.Frag} {mg : Str → Option Value} {base : Heap} {G : Gm}
theorem sc_is_whole : FnScope ["value"] ["value"] (defScope t_is_whole) := ⟨rfl, rfl, rfl, by decide +kernel, rfl, by decide +kernel, by decide +kernel⟩
theorem ok_is_whole (T : Txt K mg G base) : ∀ f fd, L2.Fun K "is_whole" "is_whole" t_is_whole f fd → FnOk P w K mg base CX0 1 f fd ["value"] (spM G 1 m_is_whole) := fun f fd F => fn_ok F sc_is_whole (fun cdv A outer s H E hr =>
  (ss_one (s_ret (e_and (e_isiT T.cf rfl T.b_isinstance (by decide) (b_var (pv 0)) (pe_bltn rfl T.b_int boot_int_ rfl)) (e_one (e_not (e_isiT T.cf rfl T.b_isinstance (by decide) (b_var (pv 0)) (pe_bltn rfl T.b_bool boot_bool_ rfl))))))))
theorem c_is_whole (T : Txt K mg G base) : Cal P w K mg base G 1 "is_whole" 1 m_is_whole := cal_of T.d_is_whole rfl (ok_is_whole T)
theorem sc_is_number : FnScope ["value"] ["value"] (defScope t_is_number) := ⟨rfl, rfl, rfl, by decide +kernel, rfl, by decide +kernel, by decide +kernel⟩
theorem ok_is_number (T : Txt K mg G base) : ∀ f fd, L2.Fun K "is_number" "is_number" t_is_number f fd → FnOk P w K mg base CX0 2 f fd ["value"] (spM G 1 m_is_number) := fun f fd F => fn_ok F sc_is_number (fun cdv A outer s H E hr =>
  (ss_one (s_ret (e_and (e_cal (c_is_whole T) (hr.mono (by omega)) rfl (al1 al0) (a_cons (e_var (pv 0)) a_nil)) (e_one (e_cmp (op_ge) is_ge (nomark _) (b_var (pv 0)) (b_e e_int)))))))
theorem c_is_number (T : Txt K mg G base) : Cal P w K mg base G 2 "is_number" 1 m_is_number := cal_of T.d_is_number rfl (ok_is_number T)
theorem sc_as_tuples : FnScope ["value", "one"] ["value"] (defScope t_as_tuples) := ⟨rfl, rfl, rfl, by decide +kernel, rfl, by decide +kernel, by decide +kernel⟩
theorem ok_as_tuples (T : Txt K mg G base) : ∀ i f fd, L2.Fun K "as_tuples" "as_tuples" t_as_tuples f fd → Cal P w K mg base G (0 + i) "as_tuples" 1 (m_as_tuples i) → FnOk P w K mg base CX0 (0 + i + 1) f fd ["value"] (spM G 1 (m_as_tuples (i + 1))) := fun i f fd F c => fn_ok F sc_as_tuples (fun cdv A outer s H E hr =>
  (ss_cons (s_if (t_tru (b_e (e_isi2 T.cf rfl T.b_isinstance (by decide) (by decide) (b_var (pv 0)) (pe_bltn rfl T.b_list boot_list_ rfl) (pe_bltn rfl T.b_tuple boot_tuple_ rfl)))) (ss_one (s_ret (e_n (n_t1 call_tuple_of is_tuple rfl T.b_tuple boot_tuple_ (b_e (e_n (n_lc (own := [("one", 1)]) rfl sc_as_tuples.nd (by decide) (i_seq (b_var (pv 0))) (blkOk_by (by kernel_rfl)) (fun _ _ _ _ _ => (g_name (pg_name (i := 1) sc_as_tuples.nd rfl (by first | exact .inl rfl | exact .inr rfl)))) (fun _ _ _ _ _ => ts_nil) (fun _ _ _ _ _ => (e_cal c (hr.mono (by omega)) rfl (al1 al0) (a_cons (e_var (pv 1)) a_nil)))))))))) ss_nil)
  (ss_one (s_ret (e_var (pv 0))))))
theorem c_as_tuples (T : Txt K mg G base) : Cal P w K mg base G 12 "as_tuples" 1 (m_as_tuples 12) := cal_rec T.d_as_tuples rfl rfl (ok_as_tuples T) 12
theorem sc_is_index : FnScope ["value", "many"] ["value", "many"] (defScope t_is_index) := ⟨rfl, rfl, rfl, by decide +kernel, rfl, by decide +kernel, by decide +kernel⟩
theorem ok_is_index (T : Txt K mg G base) : ∀ f fd, L2.Fun K "is_index" "is_index" t_is_index f fd → FnOk P w K mg base CX0 2 f fd ["value", "many"] (spM G 2 m_is_index) := fun f fd F => fn_ok F sc_is_index (fun cdv A outer s H E hr =>
  (ss_one (s_ret (e_and (e_cal (c_is_whole T) (hr.mono (by omega)) rfl (al1 al0) (a_cons (e_var (pv 0)) a_nil)) (e_one (e_chain (op_le) is_le (op_ltA (hr.un0)) is_lt (b_e e_int) (b_var (pv 0)) (b_var (pv 1))))))))
theorem c_is_index (T : Txt K mg G base) : Cal P w K mg base G 2 "is_index" 2 m_is_index := cal_of T.d_is_index rfl (ok_is_index T)
theorem sc_is_order : FnScope ["many", "value", "one"] ["many", "value"] (defScope t_is_order) := ⟨rfl, rfl, rfl, by decide +kernel, rfl, by decide +kernel, by decide +kernel⟩
theorem ok_is_order (T : Txt K mg G base) : ∀ f fd, L2.Fun K "is_order" "is_order" t_is_order f fd → FnOk P w K mg base CX0 3 f fd ["many", "value"] (spM G 2 m_is_order) := fun f fd F => fn_ok F sc_is_order (fun cdv A outer s H E hr =>
  (ss_cons (s_if (PW.pt (w_or (t_not (t_tru (b_e (e_isiT T.cf rfl T.b_isinstance (by decide) (b_var (pv 1)) (pe_bltn rfl T.b_tuple boot_tuple_ rfl))))) (w_or (t_cmp (op_neD hr.units) is_ne (nomark _) (b_e (e_b1 call_len is_len rfl T.b_len PySem.boot_len (b_var (pv 1)))) (b_var (pv 0))) (w_or1 (t_not (t_tru (b_e (e_b1 (cr_all rfl) is_all rfl T.b_all boot_all_ (b_e (e_n (n_lc (own := [("one", 2)]) rfl sc_is_order.nd (by decide) (i_seq (b_var (pv 1))) (blkOk_by (by kernel_rfl)) (fun _ _ _ _ _ => (g_name (pg_name (i := 2) sc_is_order.nd rfl (by first | exact .inl rfl | exact .inr rfl)))) (fun _ _ _ _ _ => ts_nil) (fun _ _ _ _ _ => (e_cal (c_is_index T) (hr.mono (by omega)) rfl (al1 (al1 al0)) (a_cons (e_var (pv 2)) (a_cons (e_var (pv 0)) a_nil))))))))))))))) (ss_one (s_ret e_bl)) ss_nil)
  (ss_one (s_ret (e_cmp (op_eqD hr.units) is_eq (nomark _) (b_e (e_n (n_sorted hr.un65 rfl T.b_sorted (b_var (pv 1))))) (b_e (e_n (n_lstRg rfl rfl T.b_list (rg_1 rfl T.b_range (e_var (pv 0)))))))))))
theorem c_is_order (T : Txt K mg G base) : Cal P w K mg base G 3 "is_order" 2 m_is_order := cal_of T.d_is_order rfl (ok_is_order T)
theorem sc_need_order : FnScope ["many", "order", "known"] ["many", "order"] (defScope t_need_order) := ⟨rfl, rfl, rfl, by decide +kernel, rfl, by decide +kernel, by decide +kernel⟩
theorem ok_need_order (T : Txt K mg G base) : ∀ f fd, L2.Fun K "need_order" "need_order" t_need_order f fd → FnOk P w K mg base CX0 4 f fd ["many", "order"] (spM G 2 m_need_order) := fun f fd F => fn_ok F sc_need_order (fun cdv A outer s H E hr =>
  (ss_cons (s_set (i := 2) sc_need_order.nd rfl (by first | exact .inl rfl | exact .inr rfl) (x_e (e_if (t_tru (b_e (e_isiT T.cf rfl T.b_isinstance (by decide) (b_var (pv 1)) (pe_bltn rfl T.b_list boot_list_ rfl)))) (e_n (n_t1 call_tuple_of is_tuple rfl T.b_tuple boot_tuple_ (b_var (pv 1)))) (e_var (pv 1)))))
  (ss_cons (s_if (t_not (t_tru (b_e (e_cal (c_is_order T) (hr.mono (by omega)) rfl (al1 (al1 al0)) (a_cons (e_var (pv 0)) (a_cons (e_var (pv 2)) a_nil)))))) (ss_one s_bad) ss_nil)
  (ss_one (s_ret (e_var (pv 2)))))))
theorem c_need_order (T : Txt K mg G base) : Cal P w K mg base G 4 "need_order" 2 m_need_order := cal_of T.d_need_order rfl (ok_need_order T)
theorem sc_is_lot : FnScope ["many", "value", "one", "at"] ["many", "value"] (defScope t_is_lot) := ⟨rfl, rfl, rfl, by decide +kernel, rfl, by decide +kernel, by decide +kernel⟩
theorem ok_is_lot (T : Txt K mg G base) : ∀ f fd, L2.Fun K "is_lot" "is_lot" t_is_lot f fd → FnOk P w K mg base CX0 3 f fd ["many", "value"] (spM G 2 m_is_lot) := fun f fd F => fn_ok F sc_is_lot (fun cdv A outer s H E hr =>
  (ss_cons (s_if (PW.pt (w_or (t_not (t_tru (b_e (e_isiT T.cf rfl T.b_isinstance (by decide) (b_var (pv 1)) (pe_bltn rfl T.b_tuple boot_tuple_ rfl))))) (w_or1 (t_not (t_tru (b_e (e_b1 (cr_all rfl) is_all rfl T.b_all boot_all_ (b_e (e_n (n_lc (own := [("one", 2)]) rfl sc_is_lot.nd (by decide) (i_seq (b_var (pv 1))) (blkOk_by (by kernel_rfl)) (fun _ _ _ _ _ => (g_name (pg_name (i := 2) sc_is_lot.nd rfl (by first | exact .inl rfl | exact .inr rfl)))) (fun _ _ _ _ _ => ts_nil) (fun _ _ _ _ _ => (e_cal (c_is_index T) (hr.mono (by omega)) rfl (al1 (al1 al0)) (a_cons (e_var (pv 2)) (a_cons (e_var (pv 0)) a_nil)))))))))))))) (ss_one (s_ret e_bl)) ss_nil)
  (ss_one (s_ret (e_b1 (cr_all rfl) is_all rfl T.b_all boot_all_ (b_e (e_n (n_lc (own := [("at", 3)]) rfl sc_is_lot.nd (by decide) (i_is (is_range1 rfl T.b_range (e_op op_sub is_sub (b_e (e_b1 call_len is_len rfl T.b_len PySem.boot_len (b_var (pv 1)))) (b_e e_int)))) (blkOk_by (by kernel_rfl)) (fun _ _ _ _ _ => (g_name (pg_name (i := 3) sc_is_lot.nd rfl (by first | exact .inl rfl | exact .inr rfl)))) (fun _ _ _ _ _ => ts_nil) (fun _ _ _ _ _ => (e_cmp (op_ltA (hr.un0)) is_lt (nomark _) (b_e (e_ix ix_seq is_ix (b_var (pv 1)) (b_var (pv 3)) (fun _ _ => rfl))) (b_e (e_ix ix_seq is_ix (b_var (pv 1)) (b_e (e_n (n_op op_addA is_add (b_var (pv 3)) (b_e e_int)))) (fun _ _ => rfl)))))))))))))
theorem c_is_lot (T : Txt K mg G base) : Cal P w K mg base G 3 "is_lot" 2 m_is_lot := cal_of T.d_is_lot rfl (ok_is_lot T)
theorem sc_is_due_job : FnScope ["value"] ["value"] (defScope t_is_due_job) := ⟨rfl, rfl, rfl, by decide +kernel, rfl, by decide +kernel, by decide +kernel⟩
theorem ok_is_due_job (T : Txt K mg G base) : ∀ f fd, L2.Fun K "is_due_job" "is_due_job" t_is_due_job f fd → FnOk P w K mg base CX0 3 f fd ["value"] (spM G 1 m_is_due_job) := fun f fd F => fn_ok F sc_is_due_job (fun cdv A outer s H E hr =>
  (ss_cons (s_if (PW.pt (w_or (t_not (t_tru (b_e (e_isiT T.cf rfl T.b_isinstance (by decide) (b_var (pv 0)) (pe_bltn rfl T.b_tuple boot_tuple_ rfl))))) (w_or (t_cmp (op_neD hr.units) is_ne (nomark _) (b_e (e_b1 call_len is_len rfl T.b_len PySem.boot_len (b_var (pv 0)))) (b_e e_int)) (w_or (t_not (t_tru (b_e (e_cal (c_is_whole T) (hr.mono (by omega)) rfl (al1 al0) (a_cons (e_ix ix_seq is_ix (b_var (pv 0)) (b_e e_int) (fun _ _ => rfl)) a_nil))))) (w_or1 (t_not (t_tru (b_e (e_cal (c_is_number T) (hr.mono (by omega)) rfl (al1 al0) (a_cons (e_ix ix_seq is_ix (b_var (pv 0)) (b_e e_int) (fun _ _ => rfl)) a_nil)))))))))) (ss_one (s_ret e_bl)) ss_nil)
  (ss_one (s_ret (e_and (e_chain (op_le) is_le (op_le) is_le (b_e e_int) (b_e (e_ix ix_seq is_ix (b_var (pv 0)) (b_e e_int) (fun _ _ => rfl))) (b_e (e_glob rfl T.k_MOST_LENGTH))) (e_one (e_cmp (op_le) is_le (nomark _) (b_e (e_ix ix_seq is_ix (b_var (pv 0)) (b_e e_int) (fun _ _ => rfl))) (b_e (e_glob rfl T.k_MOST_DUE)))))))))
theorem c_is_due_job (T : Txt K mg G base) : Cal P w K mg base G 3 "is_due_job" 1 m_is_due_job := cal_of T.d_is_due_job rfl (ok_is_due_job T)
theorem sc_Dues : FnScope ["self", "rows", "row"] ["self", "rows"] (defScope t_Dues) := ⟨rfl, rfl, rfl, by decide +kernel, rfl, by decide +kernel, by decide +kernel⟩
theorem ok_Dues (T : Txt K mg G base) : ∀ f fd, L2.Fun K "__init__" "Dues.__init__" t_Dues f fd → FnOk P w K mg base CX0 4 f fd ["self", "rows"] (spI G "Dues" 1 mi_Dues) := fun f fd F => init_ok (N := ["rows", "row"]) (ps := ["rows"]) F sc_Dues (fun cdv A outer s H E hr =>
  (ss_cons (s_if (PW.pt (w_or (t_not (t_tru (b_e (e_isi2 T.cf rfl T.b_isinstance (by decide) (by decide) (b_var (pv 1)) (pe_bltn rfl T.b_list boot_list_ rfl) (pe_bltn rfl T.b_tuple boot_tuple_ rfl))))) (w_or1 (t_not (t_chain (op_le) is_le (op_le) is_le (b_e e_int) (b_e (e_b1 call_len is_len rfl T.b_len PySem.boot_len (b_var (pv 1)))) (b_e (e_glob rfl T.k_MOST_JOBS))))))) (ss_one s_bad) ss_nil)
  (ss_cons (s_for PassesOwn.never rfl (is_seq (e_var (pv 1))) (g_name (pg_name (i := 2) sc_Dues.nd rfl (by first | exact .inl rfl | exact .inr rfl))) (ss_one (s_if (t_not (t_tru (b_e (e_cal (c_is_due_job T) (hr.mono (by omega)) rfl (al1 al0) (a_cons (e_var (pv 2)) a_nil))))) (ss_one s_bad) ss_nil)))
  (ss_one (s_fld (i := 0) T.cf T.na_rows (pv 0) (e_n (n_t1 call_tuple_of is_tuple rfl T.b_tuple boot_tuple_ (b_var (pv 1)))))))))
theorem c_Dues (T : Txt K mg G base) : Mak P w K mg base G 4 "Dues" "Dues" 1 mi_Dues := mak_of T.m_Dues T.x_Dues (ok_Dues T)
theorem sc_q_Dues : FnScope ["self", "other"] ["self", "other"] (defScope t_q_Dues) := ⟨rfl, rfl, rfl, by decide +kernel, rfl, by decide +kernel, by decide +kernel⟩
theorem ok_q_Dues (T : Txt K mg G base) : ∀ f fd, L2.Fun K "__eq__" "Dues.__eq__" t_q_Dues f fd → FnOk P w K mg base CX0 1 f fd ["self", "other"] (spM G 2 mq_Dues) := fun f fd F => fn_ok F sc_q_Dues (fun cdv A outer s H E hr =>
  (ss_one (s_ret (e_and (e_isiG T.cf T.g_Dues rfl rfl T.b_isinstance (b_var (pv 1))) (e_one (e_cmp (op_eqD hr.units) is_eq (nomark _) (b_e (e_fld T.cf (fun c _ C h => T.na_rows c C h) (b_var (pv 0)) rfl)) (b_e (e_fld T.cf (fun c _ C h => T.na_rows c C h) (b_var (pv 1)) rfl))))))))
theorem c_q_Dues (T : Txt K mg G base) : Opr P w K mg base G 1 "Dues" "__eq__" mq_Dues := opr_of T.m_q_Dues T.x_Dues (ok_q_Dues T)
theorem sc_n_Dues : FnScope ["self", "other"] ["self", "other"] (defScope t_n_Dues) := ⟨rfl, rfl, rfl, by decide +kernel, rfl, by decide +kernel, by decide +kernel⟩
theorem ok_n_Dues (T : Txt K mg G base) : ∀ f fd, L2.Fun K "__ne__" "Dues.__ne__" t_n_Dues f fd → FnOk P w K mg base CX0 2 f fd ["self", "other"] (spM G 2 mn_Dues) := fun f fd F => fn_ok F sc_n_Dues (fun cdv A outer s H E hr =>
  (ss_one (s_ret (e_not (e_own (c_q_Dues T) (hr.mono (by omega)) (e_var (pv 0)) (e_var (pv 1)))))))
theorem c_n_Dues (T : Txt K mg G base) : Opr P w K mg base G 2 "Dues" "__ne__" mn_Dues := opr_of T.m_n_Dues T.x_Dues (ok_n_Dues T)
theorem sc_Tight : FnScope ["self", "lot"] ["self", "lot"] (defScope t_Tight) := ⟨rfl, rfl, rfl, by decide +kernel, rfl, by decide +kernel, by decide +kernel⟩
theorem ok_Tight (T : Txt K mg G base) : ∀ f fd, L2.Fun K "__init__" "Tight.__init__" t_Tight f fd → FnOk P w K mg base CX0 13 f fd ["self", "lot"] (spI G "Tight" 1 mi_Tight) := fun f fd F => init_ok (N := ["lot"]) (ps := ["lot"]) F sc_Tight (fun cdv A outer s H E hr =>
  (ss_one (s_fld (i := 0) T.cf T.na_lot (pv 0) (e_cal (c_as_tuples T) (hr.mono (by omega)) rfl (al1 al0) (a_cons (e_var (pv 1)) a_nil)))))
theorem c_Tight (T : Txt K mg G base) : Mak P w K mg base G 13 "Tight" "Tight" 1 mi_Tight := mak_of T.m_Tight T.x_Tight (ok_Tight T)
theorem sc_q_Tight : FnScope ["self", "other"] ["self", "other"] (defScope t_q_Tight) := ⟨rfl, rfl, rfl, by decide +kernel, rfl, by decide +kernel, by decide +kernel⟩
theorem ok_q_Tight (T : Txt K mg G base) : ∀ f fd, L2.Fun K "__eq__" "Tight.__eq__" t_q_Tight f fd → FnOk P w K mg base CX0 1 f fd ["self", "other"] (spM G 2 mq_Tight) := fun f fd F => fn_ok F sc_q_Tight (fun cdv A outer s H E hr =>
  (ss_one (s_ret (e_and (e_isiG T.cf T.g_Tight rfl rfl T.b_isinstance (b_var (pv 1))) (e_one (e_cmp (op_eqD hr.units) is_eq (nomark _) (b_e (e_fld T.cf (fun c _ C h => T.na_lot c C h) (b_var (pv 0)) rfl)) (b_e (e_fld T.cf (fun c _ C h => T.na_lot c C h) (b_var (pv 1)) rfl))))))))
theorem c_q_Tight (T : Txt K mg G base) : Opr P w K mg base G 1 "Tight" "__eq__" mq_Tight := opr_of T.m_q_Tight T.x_Tight (ok_q_Tight T)
theorem sc_n_Tight : FnScope ["self", "other"] ["self", "other"] (defScope t_n_Tight) := ⟨rfl, rfl, rfl, by decide +kernel, rfl, by decide +kernel, by decide +kernel⟩
theorem ok_n_Tight (T : Txt K mg G base) : ∀ f fd, L2.Fun K "__ne__" "Tight.__ne__" t_n_Tight f fd → FnOk P w K mg base CX0 2 f fd ["self", "other"] (spM G 2 mn_Tight) := fun f fd F => fn_ok F sc_n_Tight (fun cdv A outer s H E hr =>
  (ss_one (s_ret (e_not (e_own (c_q_Tight T) (hr.mono (by omega)) (e_var (pv 0)) (e_var (pv 1)))))))
theorem c_n_Tight (T : Txt K mg G base) : Opr P w K mg base G 2 "Tight" "__ne__" mn_Tight := opr_of T.m_n_Tight T.x_Tight (ok_n_Tight T)
theorem sc_Timelier : FnScope ["self", "order"] ["self", "order"] (defScope t_Timelier) := ⟨rfl, rfl, rfl, by decide +kernel, rfl, by decide +kernel, by decide +kernel⟩
theorem ok_Timelier (T : Txt K mg G base) : ∀ f fd, L2.Fun K "__init__" "Timelier.__init__" t_Timelier f fd → FnOk P w K mg base CX0 13 f fd ["self", "order"] (spI G "Timelier" 1 mi_Timelier) := fun f fd F => init_ok (N := ["order"]) (ps := ["order"]) F sc_Timelier (fun cdv A outer s H E hr =>
  (ss_one (s_fld (i := 0) T.cf T.na_order (pv 0) (e_cal (c_as_tuples T) (hr.mono (by omega)) rfl (al1 al0) (a_cons (e_var (pv 1)) a_nil)))))
theorem c_Timelier (T : Txt K mg G base) : Mak P w K mg base G 13 "Timelier" "Timelier" 1 mi_Timelier := mak_of T.m_Timelier T.x_Timelier (ok_Timelier T)
theorem sc_q_Timelier : FnScope ["self", "other"] ["self", "other"] (defScope t_q_Timelier) := ⟨rfl, rfl, rfl, by decide +kernel, rfl, by decide +kernel, by decide +kernel⟩
theorem ok_q_Timelier (T : Txt K mg G base) : ∀ f fd, L2.Fun K "__eq__" "Timelier.__eq__" t_q_Timelier f fd → FnOk P w K mg base CX0 1 f fd ["self", "other"] (spM G 2 mq_Timelier) := fun f fd F => fn_ok F sc_q_Timelier (fun cdv A outer s H E hr =>
  (ss_one (s_ret (e_and (e_isiG T.cf T.g_Timelier rfl rfl T.b_isinstance (b_var (pv 1))) (e_one (e_cmp (op_eqD hr.units) is_eq (nomark _) (b_e (e_fld T.cf (fun c _ C h => T.na_order c C h) (b_var (pv 0)) rfl)) (b_e (e_fld T.cf (fun c _ C h => T.na_order c C h) (b_var (pv 1)) rfl))))))))
theorem c_q_Timelier (T : Txt K mg G base) : Opr P w K mg base G 1 "Timelier" "__eq__" mq_Timelier := opr_of T.m_q_Timelier T.x_Timelier (ok_q_Timelier T)
theorem sc_n_Timelier : FnScope ["self", "other"] ["self", "other"] (defScope t_n_Timelier) := ⟨rfl, rfl, rfl, by decide +kernel, rfl, by decide +kernel, by decide +kernel⟩
theorem ok_n_Timelier (T : Txt K mg G base) : ∀ f fd, L2.Fun K "__ne__" "Timelier.__ne__" t_n_Timelier f fd → FnOk P w K mg base CX0 2 f fd ["self", "other"] (spM G 2 mn_Timelier) := fun f fd F => fn_ok F sc_n_Timelier (fun cdv A outer s H E hr =>
  (ss_one (s_ret (e_not (e_own (c_q_Timelier T) (hr.mono (by omega)) (e_var (pv 0)) (e_var (pv 1)))))))
theorem c_n_Timelier (T : Txt K mg G base) : Opr P w K mg base G 2 "Timelier" "__ne__" mn_Timelier := opr_of T.m_n_Timelier T.x_Timelier (ok_n_Timelier T)
theorem sc_need_dues : FnScope ["dues"] ["dues"] (defScope t_need_dues) := ⟨rfl, rfl, rfl, by decide +kernel, rfl, by decide +kernel, by decide +kernel⟩
theorem ok_need_dues (T : Txt K mg G base) : ∀ f fd, L2.Fun K "need_dues" "need_dues" t_need_dues f fd → FnOk P w K mg base CX0 1 f fd ["dues"] (spM G 1 m_need_dues) := fun f fd F => fn_ok F sc_need_dues (fun cdv A outer s H E hr =>
  (ss_cons (s_if (t_not (t_tru (b_e (e_isiG T.cf T.g_Dues rfl rfl T.b_isinstance (b_var (pv 0)))))) (ss_one s_bad) ss_nil)
  (ss_one (s_ret (e_var (pv 0))))))
theorem c_need_dues (T : Txt K mg G base) : Cal P w K mg base G 1 "need_dues" 1 m_need_dues := cal_of T.d_need_dues rfl (ok_need_dues T)
theorem sc_need_due_order : FnScope ["dues", "order"] ["dues", "order"] (defScope t_need_due_order) := ⟨rfl, rfl, rfl, by decide +kernel, rfl, by decide +kernel, by decide +kernel⟩
theorem ok_need_due_order (T : Txt K mg G base) : ∀ f fd, L2.Fun K "need_due_order" "need_due_order" t_need_due_order f fd → FnOk P w K mg base CX0 5 f fd ["dues", "order"] (spM G 2 m_need_due_order) := fun f fd F => fn_ok F sc_need_due_order (fun cdv A outer s H E hr =>
  (ss_one (s_ret (e_cal (c_need_order T) (hr.mono (by omega)) rfl (al1 (al1 al0)) (a_cons (e_b1 call_len is_len rfl T.b_len PySem.boot_len (b_e (e_fld T.cf (fun c _ C h => T.na_rows c C h) (b_e (e_cal (c_need_dues T) (hr.mono (by omega)) rfl (al1 al0) (a_cons (e_var (pv 0)) a_nil))) rfl))) (a_cons (e_var (pv 1)) a_nil))))))
theorem c_need_due_order (T : Txt K mg G base) : Cal P w K mg base G 5 "need_due_order" 2 m_need_due_order := cal_of T.d_need_due_order rfl (ok_need_due_order T)
theorem sc_latenesses_by : FnScope ["dues", "order", "found", "time", "at"] ["dues", "order"] (defScope t_latenesses_by) := ⟨rfl, rfl, rfl, by decide +kernel, rfl, by decide +kernel, by decide +kernel⟩
theorem ok_latenesses_by (T : Txt K mg G base) : ∀ f fd, L2.Fun K "latenesses_by" "latenesses_by" t_latenesses_by f fd → FnOk P w K mg base CX0 1 f fd ["dues", "order"] (spM G 2 m_latenesses_by) := fun f fd F => fn_ok F sc_latenesses_by (fun cdv A outer s H E hr =>
  (ss_cons (by first | exact (s_par2 (i := 2) (j := 3) rfl sc_latenesses_by.nd rfl rfl (by decide) rfl rfl (ax_cons (x_n (n_op op_mulA is_mul (b_e (e_n (n_lst (a_cons e_int a_nil)))) (b_e (e_b1 call_len is_len rfl T.b_len PySem.boot_len (b_e (e_fld T.cf (fun c _ C h => T.na_rows c C h) (b_var (pv 0)) rfl)))))) (ax_cons (x_e e_int) ax_nil)) (by rfl)) | exact (s_parT (is := [2, 3]) (n := 2) rfl (ax_cons (x_n (n_op op_mulA is_mul (b_e (e_n (n_lst (a_cons e_int a_nil)))) (b_e (e_b1 call_len is_len rfl T.b_len PySem.boot_len (b_e (e_fld T.cf (fun c _ C h => T.na_rows c C h) (b_var (pv 0)) rfl)))))) (ax_cons (x_e e_int) ax_nil)) (pgs_cons (pg_name (i := 2) sc_latenesses_by.nd rfl (by first | exact .inl rfl | exact .inr rfl)) (pgs_cons (pg_name (i := 3) sc_latenesses_by.nd rfl (by first | exact .inl rfl | exact .inr rfl)) pgs_nil))))
  (ss_cons (s_for PassesOwn.never rfl (is_seq (e_var (pv 1))) (g_name (pg_name (i := 4) sc_latenesses_by.nd rfl (by first | exact .inl rfl | exact .inr rfl))) (ss_cons (s_set (i := 3) sc_latenesses_by.nd rfl (by first | exact .inl rfl | exact .inr rfl) (x_e (e_n (n_op op_addA is_add (b_var (pv 3)) (b_e (e_ix ix_seq is_ix (b_e (e_ix ix_seq is_ix (b_e (e_fld T.cf (fun c _ C h => T.na_rows c C h) (b_var (pv 0)) rfl)) (b_var (pv 4)) (fun _ _ => rfl))) (b_e e_int) (fun _ _ => rfl)))))))
  (ss_one (s_setIx (i := 2) (pv 2) (e_var (pv 4)) (e_op op_sub is_sub (b_var (pv 3)) (b_e (e_ix ix_seq is_ix (b_e (e_ix ix_seq is_ix (b_e (e_fld T.cf (fun c _ C h => T.na_rows c C h) (b_var (pv 0)) rfl)) (b_var (pv 4)) (fun _ _ => rfl))) (b_e e_int) (fun _ _ => rfl))))))))
  (ss_one (s_retB (b_var (pv 2)))))))
theorem c_latenesses_by (T : Txt K mg G base) : Cal P w K mg base G 1 "latenesses_by" 2 m_latenesses_by := cal_of T.d_latenesses_by rfl (ok_latenesses_by T)
theorem sc_by_dues : FnScope ["dues", "at"] ["dues"] (defScope t_by_dues) := ⟨rfl, rfl, rfl, by decide +kernel, rfl, by decide +kernel, by decide +kernel⟩
theorem ok_by_dues (T : Txt K mg G base) : ∀ f fd, L2.Fun K "by_dues" "by_dues" t_by_dues f fd → f = He.fAd K ("by_dues", none) → FnOk P w K mg base CX0 6 f fd ["dues"] (spM G 1 m_by_dues) := fun f fd F hf => fn_okL F hf sc_by_dues (fun cdv A outer s H E hcd hr =>
  (ss_one (s_ret (e_n (n_t1 call_tuple_of is_tuple rfl T.b_tuple boot_tuple_ (b_e (e_n (n_sortKR (k := 1) (i := 1) (x := "at") rfl rfl T.b_sorted (rg_1 rfl T.b_range (e_b1 call_len is_len rfl T.b_len PySem.boot_len (b_e (e_fld T.cf (fun c _ C h => T.na_rows c C h) (b_var (pv 0)) rfl)))) (lamM_of T.l_by_dues hcd rfl rfl (by kernel_rfl) (by rfl) sc_by_dues.nd) (fun _ _ _ _ => rfl) (hr.mono (by omega)) (fun A s H f c' hr => (e_ix ix_seq is_ix (b_e (e_ix ix_seq is_ix (b_e (e_fld T.cf (fun c _ C h => T.na_rows c C h) (b_var (pv 0)) rfl)) (b_var (pv 1)) (fun _ _ => rfl))) (b_e e_int) (fun _ _ => rfl)))))))))))
theorem c_by_dues (T : Txt K mg G base) : Cal P w K mg base G 6 "by_dues" 1 m_by_dues := cal_ofL T.d_by_dues T.l_by_dues.at_ rfl (ok_by_dues T)
theorem sc_least_by_dues : FnScope ["dues"] ["dues"] (defScope t_least_by_dues) := ⟨rfl, rfl, rfl, by decide +kernel, rfl, by decide +kernel, by decide +kernel⟩
theorem ok_least_by_dues (T : Txt K mg G base) : ∀ f fd, L2.Fun K "least_by_dues" "least_by_dues" t_least_by_dues f fd → FnOk P w K mg base CX0 7 f fd ["dues"] (spM G 1 m_least_by_dues) := fun f fd F => fn_ok F sc_least_by_dues (fun cdv A outer s H E hr =>
  (ss_one (s_ret (e_b1 (cr_max rfl) is_max1 rfl T.b_max boot_max_ (b_e (e_cal (c_latenesses_by T) (hr.mono (by omega)) rfl (al1 (al1 al0)) (a_cons (e_var (pv 0)) (a_cons (e_cal (c_by_dues T) (hr.mono (by omega)) rfl (al1 al0) (a_cons (e_var (pv 0)) a_nil)) a_nil))))))))
theorem c_least_by_dues (T : Txt K mg G base) : Cal P w K mg base G 7 "least_by_dues" 1 m_least_by_dues := cal_of T.d_least_by_dues rfl (ok_least_by_dues T)
theorem sc_bound_by : FnScope ["dues", "lot", "at"] ["dues", "lot"] (defScope t_bound_by) := ⟨rfl, rfl, rfl, by decide +kernel, rfl, by decide +kernel, by decide +kernel⟩
theorem ok_bound_by (T : Txt K mg G base) : ∀ f fd, L2.Fun K "bound_by" "bound_by" t_bound_by f fd → FnOk P w K mg base CX0 1 f fd ["dues", "lot"] (spM G 2 m_bound_by) := fun f fd F => fn_ok F sc_bound_by (fun cdv A outer s H E hr =>
  (ss_one (s_ret (e_op op_sub is_sub (b_e (e_b1 (cr_sum rfl) is_sum rfl T.b_sum boot_sum_ (b_e (e_n (n_lc (own := [("at", 2)]) rfl sc_bound_by.nd (by decide) (i_seq (b_var (pv 1))) (blkOk_by (by kernel_rfl)) (fun _ _ _ _ _ => (g_name (pg_name (i := 2) sc_bound_by.nd rfl (by first | exact .inl rfl | exact .inr rfl)))) (fun _ _ _ _ _ => ts_nil) (fun _ _ _ _ _ => (e_ix ix_seq is_ix (b_e (e_ix ix_seq is_ix (b_e (e_fld T.cf (fun c _ C h => T.na_rows c C h) (b_var (pv 0)) rfl)) (b_var (pv 2)) (fun _ _ => rfl))) (b_e e_int) (fun _ _ => rfl)))))))) (b_e (e_b1 (cr_max rfl) is_max1 rfl T.b_max boot_max_ (b_e (e_n (n_lc (own := [("at", 2)]) rfl sc_bound_by.nd (by decide) (i_seq (b_var (pv 1))) (blkOk_by (by kernel_rfl)) (fun _ _ _ _ _ => (g_name (pg_name (i := 2) sc_bound_by.nd rfl (by first | exact .inl rfl | exact .inr rfl)))) (fun _ _ _ _ _ => ts_nil) (fun _ _ _ _ _ => (e_ix ix_seq is_ix (b_e (e_ix ix_seq is_ix (b_e (e_fld T.cf (fun c _ C h => T.na_rows c C h) (b_var (pv 0)) rfl)) (b_var (pv 2)) (fun _ _ => rfl))) (b_e e_int) (fun _ _ => rfl))))))))))))
theorem c_bound_by (T : Txt K mg G base) : Cal P w K mg base G 1 "bound_by" 2 m_bound_by := cal_of T.d_bound_by rfl (ok_bound_by T)
theorem sc_lots_by : FnScope ["many", "lots", "at", "lot"] ["many"] (defScope t_lots_by) := ⟨rfl, rfl, rfl, by decide +kernel, rfl, by decide +kernel, by decide +kernel⟩
theorem ok_lots_by (T : Txt K mg G base) : ∀ f fd, L2.Fun K "lots_by" "lots_by" t_lots_by f fd → FnOk P w K mg base CX0 1 f fd ["many"] (spM G 1 m_lots_by) := fun f fd F => fn_ok F sc_lots_by (fun cdv A outer s H E hr =>
  (ss_cons (s_set (i := 1) sc_lots_by.nd rfl (by first | exact .inl rfl | exact .inr rfl) (x_e (e_n (n_lst (a_cons (e_n (n_tup a_nil)) a_nil)))))
  (ss_cons (s_for PassesOwn.never rfl (is_range1 rfl T.b_range (e_var (pv 0))) (g_name (pg_name (i := 2) sc_lots_by.nd rfl (by first | exact .inl rfl | exact .inr rfl))) (ss_one (s_set (i := 1) sc_lots_by.nd rfl (by first | exact .inl rfl | exact .inr rfl) (x_e (e_n (n_op op_addA is_add (b_var (pv 1)) (b_e (e_n (n_lc (own := [("lot", 3)]) rfl sc_lots_by.nd (by decide) (i_seq (b_var (pv 1))) (blkOk_by (by kernel_rfl)) (fun _ _ _ _ _ => (g_name (pg_name (i := 3) sc_lots_by.nd rfl (by first | exact .inl rfl | exact .inr rfl)))) (fun _ _ _ _ _ => ts_nil) (fun _ _ _ _ _ => (e_n (n_tup (a_star (b_var (pv 3)) (a_cons (e_var (pv 2)) a_nil))))))))))))))
  (ss_one (s_ret (e_n (n_sorted hr.un65 rfl T.b_sorted (b_var (pv 1)))))))))
theorem c_lots_by (T : Txt K mg G base) : Cal P w K mg base G 1 "lots_by" 1 m_lots_by := cal_of T.d_lots_by rfl (ok_lots_by T)
theorem sc_first_tight : FnScope ["dues", "worst", "lot"] ["dues", "worst"] (defScope t_first_tight) := ⟨rfl, rfl, rfl, by decide +kernel, rfl, by decide +kernel, by decide +kernel⟩
theorem ok_first_tight (T : Txt K mg G base) : ∀ f fd, L2.Fun K "first_tight" "first_tight" t_first_tight f fd → FnOk P w K mg base CX0 2 f fd ["dues", "worst"] (spM G 2 m_first_tight) := fun f fd F => fn_ok F sc_first_tight (fun cdv A outer s H E hr =>
  (ss_cons (s_for PassesOwn.never rfl (is_seq (e_n (n_sl (b_e (e_cal (c_lots_by T) (hr.mono (by omega)) rfl (al1 al0) (a_cons (e_b1 call_len is_len rfl T.b_len PySem.boot_len (b_e (e_fld T.cf (fun c _ C h => T.na_rows c C h) (b_var (pv 0)) rfl))) a_nil))) (o_some e_int) o_none))) (g_name (pg_name (i := 2) sc_first_tight.nd rfl (by first | exact .inl rfl | exact .inr rfl))) (ss_one (s_if (t_cmp (op_eqD hr.units) is_eq (nomark _) (b_e (e_cal (c_bound_by T) (hr.mono (by omega)) rfl (al1 (al1 al0)) (a_cons (e_var (pv 0)) (a_cons (e_var (pv 2)) a_nil)))) (b_var (pv 1))) (ss_one (s_ret (e_var (pv 2)))) ss_nil)))
  (ss_one (s_ret e_non))))
theorem c_first_tight (T : Txt K mg G base) : Cal P w K mg base G 2 "first_tight" 2 m_first_tight := cal_of T.d_first_tight rfl (ok_first_tight T)
theorem sc_tight_or_timelier : FnScope ["dues", "order", "worst"] ["dues", "order"] (defScope t_tight_or_timelier) := ⟨rfl, rfl, rfl, by decide +kernel, rfl, by decide +kernel, by decide +kernel⟩
theorem ok_tight_or_timelier (T : Txt K mg G base) : ∀ f fd, L2.Fun K "tight_or_timelier" "tight_or_timelier" t_tight_or_timelier f fd → FnOk P w K mg base CX0 15 f fd ["dues", "order"] (spM G 2 m_tight_or_timelier) := fun f fd F => fn_ok F sc_tight_or_timelier (fun cdv A outer s H E hr =>
  (ss_cons (s_set (i := 2) sc_tight_or_timelier.nd rfl (by first | exact .inl rfl | exact .inr rfl) (x_e (e_b1 (cr_max rfl) is_max1 rfl T.b_max boot_max_ (b_e (e_cal (c_latenesses_by T) (hr.mono (by omega)) rfl (al1 (al1 al0)) (a_cons (e_var (pv 0)) (a_cons (e_cal (c_need_due_order T) (hr.mono (by omega)) rfl (al1 (al1 al0)) (a_cons (e_var (pv 0)) (a_cons (e_var (pv 1)) a_nil))) a_nil)))))))
  (ss_cons (s_if (t_cmp (op_gt) is_gt (nomark _) (b_var (pv 2)) (b_e (e_cal (c_least_by_dues T) (hr.mono (by omega)) rfl (al1 al0) (a_cons (e_var (pv 0)) a_nil)))) (ss_one (s_ret (e_mak (c_Timelier T) (hr.mono (by omega)) rfl (al1 al0) (a_cons (e_cal (c_by_dues T) (hr.mono (by omega)) rfl (al1 al0) (a_cons (e_var (pv 0)) a_nil)) a_nil)))) ss_nil)
  (ss_one (s_ret (e_mak (c_Tight T) (hr.mono (by omega)) rfl (al1 al0) (a_cons (e_cal (c_first_tight T) (hr.mono (by omega)) rfl (al1 (al1 al0)) (a_cons (e_var (pv 0)) (a_cons (e_var (pv 2)) a_nil))) a_nil)))))))
theorem c_tight_or_timelier (T : Txt K mg G base) : Cal P w K mg base G 15 "tight_or_timelier" 2 m_tight_or_timelier := cal_of T.d_tight_or_timelier rfl (ok_tight_or_timelier T)
theorem sc_tight_holds : FnScope ["dues", "order", "value", "worst"] ["dues", "order", "value"] (defScope t_tight_holds) := ⟨rfl, rfl, rfl, by decide +kernel, rfl, by decide +kernel, by decide +kernel⟩
theorem ok_tight_holds (T : Txt K mg G base) : ∀ f fd, L2.Fun K "tight_holds" "tight_holds" t_tight_holds f fd → FnOk P w K mg base CX0 6 f fd ["dues", "order", "value"] (spM G 3 m_tight_holds) := fun f fd F => fn_ok F sc_tight_holds (fun cdv A outer s H E hr =>
  (ss_cons (s_set (i := 3) sc_tight_holds.nd rfl (by first | exact .inl rfl | exact .inr rfl) (x_e (e_b1 (cr_max rfl) is_max1 rfl T.b_max boot_max_ (b_e (e_cal (c_latenesses_by T) (hr.mono (by omega)) rfl (al1 (al1 al0)) (a_cons (e_var (pv 0)) (a_cons (e_cal (c_need_due_order T) (hr.mono (by omega)) rfl (al1 (al1 al0)) (a_cons (e_var (pv 0)) (a_cons (e_var (pv 1)) a_nil))) a_nil)))))))
  (ss_cons (s_if (PW.pt (w_or (t_not (t_tru (b_e (e_isiG T.cf T.g_Tight rfl rfl T.b_isinstance (b_var (pv 2)))))) (w_or (t_not (t_tru (b_e (e_cal (c_is_lot T) (hr.mono (by omega)) rfl (al1 (al1 al0)) (a_cons (e_b1 call_len is_len rfl T.b_len PySem.boot_len (b_e (e_fld T.cf (fun c _ C h => T.na_rows c C h) (b_var (pv 0)) rfl))) (a_cons (e_fld T.cf (fun c _ C h => T.na_lot c C h) (b_var (pv 2)) rfl) a_nil)))))) (w_or1 (t_not (t_tru (b_e (e_fld T.cf (fun c _ C h => T.na_lot c C h) (b_var (pv 2)) rfl)))))))) (ss_one (s_ret e_bl)) ss_nil)
  (ss_one (s_ret (e_cmp (op_eqD hr.units) is_eq (nomark _) (b_e (e_cal (c_bound_by T) (hr.mono (by omega)) rfl (al1 (al1 al0)) (a_cons (e_var (pv 0)) (a_cons (e_fld T.cf (fun c _ C h => T.na_lot c C h) (b_var (pv 2)) rfl) a_nil)))) (b_var (pv 3))))))))
theorem c_tight_holds (T : Txt K mg G base) : Cal P w K mg base G 6 "tight_holds" 3 m_tight_holds := cal_of T.d_tight_holds rfl (ok_tight_holds T)
theorem sc_timelier_holds : FnScope ["dues", "order", "value", "worst"] ["dues", "order", "value"] (defScope t_timelier_holds) := ⟨rfl, rfl, rfl, by decide +kernel, rfl, by decide +kernel, by decide +kernel⟩
theorem ok_timelier_holds (T : Txt K mg G base) : ∀ f fd, L2.Fun K "timelier_holds" "timelier_holds" t_timelier_holds f fd → FnOk P w K mg base CX0 6 f fd ["dues", "order", "value"] (spM G 3 m_timelier_holds) := fun f fd F => fn_ok F sc_timelier_holds (fun cdv A outer s H E hr =>
  (ss_cons (s_set (i := 3) sc_timelier_holds.nd rfl (by first | exact .inl rfl | exact .inr rfl) (x_e (e_b1 (cr_max rfl) is_max1 rfl T.b_max boot_max_ (b_e (e_cal (c_latenesses_by T) (hr.mono (by omega)) rfl (al1 (al1 al0)) (a_cons (e_var (pv 0)) (a_cons (e_cal (c_need_due_order T) (hr.mono (by omega)) rfl (al1 (al1 al0)) (a_cons (e_var (pv 0)) (a_cons (e_var (pv 1)) a_nil))) a_nil)))))))
  (ss_cons (s_if (PW.pt (w_or (t_not (t_tru (b_e (e_isiG T.cf T.g_Timelier rfl rfl T.b_isinstance (b_var (pv 2)))))) (w_or1 (t_not (t_tru (b_e (e_cal (c_is_order T) (hr.mono (by omega)) rfl (al1 (al1 al0)) (a_cons (e_b1 call_len is_len rfl T.b_len PySem.boot_len (b_e (e_fld T.cf (fun c _ C h => T.na_rows c C h) (b_var (pv 0)) rfl))) (a_cons (e_fld T.cf (fun c _ C h => T.na_order c C h) (b_var (pv 2)) rfl) a_nil))))))))) (ss_one (s_ret e_bl)) ss_nil)
  (ss_one (s_ret (e_cmp (op_ltA (hr.un0)) is_lt (nomark _) (b_e (e_b1 (cr_max rfl) is_max1 rfl T.b_max boot_max_ (b_e (e_cal (c_latenesses_by T) (hr.mono (by omega)) rfl (al1 (al1 al0)) (a_cons (e_var (pv 0)) (a_cons (e_fld T.cf (fun c _ C h => T.na_order c C h) (b_var (pv 2)) rfl) a_nil)))))) (b_var (pv 3))))))))
theorem c_timelier_holds (T : Txt K mg G base) : Cal P w K mg base G 6 "timelier_holds" 3 m_timelier_holds := cal_of T.d_timelier_holds rfl (ok_timelier_holds T)
theorem sc__law_draw : FnScope ["pen", "many", "cell", "digit", "blend"] ["pen", "many"] (defScope t__law_draw) := ⟨rfl, rfl, rfl, by decide +kernel, rfl, by decide +kernel, by decide +kernel⟩
theorem ok__law_draw (T : Txt K mg G base) : ∀ f fd, L2.Fun K "_law_draw" "_law_draw" t__law_draw f fd → FnOk P w K mg base CX0 1 f fd ["pen", "many"] (spM G 2 m__law_draw) := fun f fd F => fn_ok F sc__law_draw (fun cdv A outer s H E hr =>
  (ss_cons (s_pen (i := 0) pu_count hr.un1 (pv 0) pe_str (e_n (n_op op_addA is_add (b_e (e_pen pk_count hr.un1 (pv 0) pe_str (fun _ _ => rfl))) (b_e e_int))))
  (ss_cons (s_if (PW.pt (w_and (t_cmp (op_eqD hr.units) is_eq (nomark _) (b_e (e_pen pk_digits hr.un1 (pv 0) pe_str (fun _ _ => rfl))) (b_e e_int)) (w_and1 (t_cmp (op_ltA (hr.un0)) is_lt (nomark _) (b_e (e_pen pk_at hr.un1 (pv 0) pe_str (fun _ _ => rfl))) (b_e (e_b1 call_len is_len rfl T.b_len PySem.boot_len (b_e (e_pen pk_cells hr.un1 (pv 0) pe_str (fun _ _ => rfl))))))))) (ss_cons (s_set (i := 2) sc__law_draw.nd rfl (by first | exact .inl rfl | exact .inr rfl) (x_e (e_ix ix_seq is_ix (b_e (e_pen pk_cells hr.un1 (pv 0) pe_str (fun _ _ => rfl))) (b_e (e_pen pk_at hr.un1 (pv 0) pe_str (fun _ _ => rfl))) (fun _ _ => rfl))))
  (ss_cons (s_pen (i := 0) pu_at hr.un1 (pv 0) pe_str (e_n (n_op op_addA is_add (b_e (e_pen pk_at hr.un1 (pv 0) pe_str (fun _ _ => rfl))) (b_e e_int))))
  (ss_one (s_if (t_cmp (op_ge) is_ge (nomark _) (b_var (pv 2)) (b_e (e_op op_pow is_pow (b_e e_int) (b_e e_int)))) (ss_one (s_pen (i := 0) pu_digits hr.un1 (pv 0) pe_str (e_op op_sub is_sub (b_var (pv 2)) (b_e (e_op op_pow is_pow (b_e e_int) (b_e e_int)))))) (ss_one (s_pen (i := 0) pu_fold hr.un1 (pv 0) pe_str (e_op op_mod is_mod (b_e (e_t1 call_int1 is_int rfl T.b_int boot_int_ (b_e (e_n (n_op op_addA is_add (b_e (e_n (n_op op_mulA is_mul (b_e (e_pen pk_fold hr.un1 (pv 0) pe_str (fun _ _ => rfl))) (b_e e_int)))) (b_var (pv 2))))))) (b_e e_int)))))))) ss_nil)
  (ss_cons (s_if (t_cmp (op_gt) is_gt (nomark _) (b_e (e_pen pk_digits hr.un1 (pv 0) pe_str (fun _ _ => rfl))) (b_e e_int)) (ss_cons (s_set (i := 3) sc__law_draw.nd rfl (by first | exact .inl rfl | exact .inr rfl) (x_e (e_op op_mod is_mod (b_e (e_t1 call_int1 is_int rfl T.b_int boot_int_ (b_e (e_pen pk_digits hr.un1 (pv 0) pe_str (fun _ _ => rfl))))) (b_var (pv 1)))))
  (ss_cons (s_pen (i := 0) pu_digits hr.un1 (pv 0) pe_str (e_op op_fdivW is_div (b_e (e_pen pk_digits hr.un1 (pv 0) pe_str (fun _ _ => rfl))) (b_var (pv 1))))
  (ss_one (s_ret (e_var (pv 3)))))) ss_nil)
  (ss_cons (s_set (i := 4) sc__law_draw.nd rfl (by first | exact .inl rfl | exact .inr rfl) (x_e (e_op op_mod is_mod (b_e (e_t1 call_int1 is_int rfl T.b_int boot_int_ (b_e (e_n (n_op op_addA is_add (b_e (e_n (n_op op_addA is_add (b_e (e_n (n_op op_mulA is_mul (b_e (e_pen pk_fold hr.un1 (pv 0) pe_str (fun _ _ => rfl))) (b_e e_int)))) (b_e (e_n (n_op op_mulA is_mul (b_e (e_pen pk_count hr.un1 (pv 0) pe_str (fun _ _ => rfl))) (b_e e_int))))))) (b_e e_int)))))) (b_e e_int))))
  (ss_cons (s_set (i := 4) sc__law_draw.nd rfl (by first | exact .inl rfl | exact .inr rfl) (x_e (e_op op_mod is_mod (b_e (e_t1 call_int1 is_int rfl T.b_int boot_int_ (b_e (e_n (n_op op_addA is_add (b_e (e_n (n_op op_addA is_add (b_e (e_n (n_op op_mulA is_mul (b_var (pv 4)) (b_var (pv 4))))) (b_e (e_n (n_op op_mulA is_mul (b_e e_int) (b_var (pv 4)))))))) (b_e (e_pen pk_count hr.un1 (pv 0) pe_str (fun _ _ => rfl)))))))) (b_e e_int))))
  (ss_cons (s_pen (i := 0) pu_fold hr.un1 (pv 0) pe_str (e_op op_mod is_mod (b_e (e_t1 call_int1 is_int rfl T.b_int boot_int_ (b_e (e_n (n_op op_addA is_add (b_e (e_n (n_op op_mulA is_mul (b_var (pv 4)) (b_e e_int)))) (b_e e_int)))))) (b_e e_int)))
  (ss_one (s_ret (e_op op_mod is_mod (b_e (e_t1 call_int1 is_int rfl T.b_int boot_int_ (b_e (e_op op_fdivW is_div (b_var (pv 4)) (b_e e_int))))) (b_var (pv 1))))))))))))
theorem c__law_draw (T : Txt K mg G base) : Cal P w K mg base G 1 "_law_draw" 2 m__law_draw := cal_of T.d__law_draw rfl (ok__law_draw T)
theorem sc__law_pick : FnScope ["pen", "some"] ["pen", "some"] (defScope t__law_pick) := ⟨rfl, rfl, rfl, by decide +kernel, rfl, by decide +kernel, by decide +kernel⟩
theorem ok__law_pick (T : Txt K mg G base) : ∀ f fd, L2.Fun K "_law_pick" "_law_pick" t__law_pick f fd → FnOk P w K mg base CX0 2 f fd ["pen", "some"] (spM G 2 m__law_pick) := fun f fd F => fn_ok F sc__law_pick (fun cdv A outer s H E hr =>
  (ss_one (s_ret (e_ix ix_seq is_ix (b_var (pv 1)) (b_e (e_cal (c__law_draw T) (hr.mono (by omega)) rfl (al1 (al1 al0)) (a_cons (e_var (pv 0)) (a_cons (e_b1 call_len is_len rfl T.b_len PySem.boot_len (b_var (pv 1))) a_nil)))) (fun _ _ => rfl)))))
theorem c__law_pick (T : Txt K mg G base) : Cal P w K mg base G 2 "_law_pick" 2 m__law_pick := cal_of T.d__law_pick rfl (ok__law_pick T)
theorem sc__law_shuffled : FnScope ["pen", "some", "left", "found", "lap"] ["pen", "some"] (defScope t__law_shuffled) := ⟨rfl, rfl, rfl, by decide +kernel, rfl, by decide +kernel, by decide +kernel⟩
theorem ok__law_shuffled (T : Txt K mg G base) : ∀ f fd, L2.Fun K "_law_shuffled" "_law_shuffled" t__law_shuffled f fd → FnOk P w K mg base CX0 2 f fd ["pen", "some"] (spM G 2 m__law_shuffled) := fun f fd F => fn_ok F sc__law_shuffled (fun cdv A outer s H E hr =>
  (ss_cons (by first | exact (s_par2 (i := 2) (j := 3) rfl sc__law_shuffled.nd rfl rfl (by decide) rfl rfl (ax_cons (x_n (n_t1 call_list_of is_list rfl T.b_list boot_list_ (b_var (pv 1)))) (ax_cons (x_n (n_lst a_nil)) ax_nil)) (by rfl)) | exact (s_parT (is := [2, 3]) (n := 2) rfl (ax_cons (x_n (n_t1 call_list_of is_list rfl T.b_list boot_list_ (b_var (pv 1)))) (ax_cons (x_n (n_lst a_nil)) ax_nil)) (pgs_cons (pg_name (i := 2) sc__law_shuffled.nd rfl (by first | exact .inl rfl | exact .inr rfl)) (pgs_cons (pg_name (i := 3) sc__law_shuffled.nd rfl (by first | exact .inl rfl | exact .inr rfl)) pgs_nil))))
  (ss_cons (s_for PassesOwn.never rfl (is_range1 rfl T.b_range (e_b1 call_len is_len rfl T.b_len PySem.boot_len (b_var (pv 1)))) (g_name (pg_name (i := 4) sc__law_shuffled.nd rfl (by first | exact .inl rfl | exact .inr rfl))) (ss_one (s_appPop (i := 3) (j := 2) (by decide) (pv 3) (pv 2) (e_cal (c__law_draw T) (hr.mono (by omega)) rfl (al1 (al1 al0)) (a_cons (e_var (pv 0)) (a_cons (e_b1 call_len is_len rfl T.b_len PySem.boot_len (b_var (pv 2))) a_nil))))))
  (ss_one (s_retB (b_var (pv 3)))))))
theorem c__law_shuffled (T : Txt K mg G base) : Cal P w K mg base G 2 "_law_shuffled" 2 m__law_shuffled := cal_of T.d__law_shuffled rfl (ok__law_shuffled T)
theorem sc__law_is : FnScope ["told", "due", "at"] ["told", "due"] (defScope t__law_is) := ⟨rfl, rfl, rfl, by decide +kernel, rfl, by decide +kernel, by decide +kernel⟩
theorem ok__law_is (T : Txt K mg G base) : ∀ i f fd, L2.Fun K "_law_is" "_law_is" t__law_is f fd → Cal P w K mg base G (0 + i) "_law_is" 2 (m__law_is i) → FnOk P w K mg base CX0 (0 + i + 1) f fd ["told", "due"] (spM G 2 (m__law_is (i + 1))) := fun i f fd F c => fn_ok F sc__law_is (fun cdv A outer s H E hr =>
  (ss_cons (s_if (t_tru (b_e (e_isiT T.cf rfl T.b_isinstance (by decide) (b_var (pv 1)) (pe_bltn rfl T.b_tuple boot_tuple_ rfl)))) (ss_cons (s_if (PW.pt (w_or (t_not (t_tru (b_e (e_isiT T.cf rfl T.b_isinstance (by decide) (b_var (pv 0)) (pe_bltn rfl T.b_tuple boot_tuple_ rfl))))) (w_or1 (t_cmp (op_neD hr.units) is_ne (nomark _) (b_e (e_b1 call_len is_len rfl T.b_len PySem.boot_len (b_var (pv 0)))) (b_e (e_b1 call_len is_len rfl T.b_len PySem.boot_len (b_var (pv 1)))))))) (ss_one (s_ret e_bl)) ss_nil)
  (ss_one (s_ret (e_cmp (op_eqD hr.units) is_eq (nomark _) (b_e (e_n (n_lc (own := [("at", 2)]) rfl sc__law_is.nd (by decide) (i_is (is_range1 rfl T.b_range (e_b1 call_len is_len rfl T.b_len PySem.boot_len (b_var (pv 1))))) (blkOk_by (by kernel_rfl)) (fun _ _ _ _ _ => (g_name (pg_name (i := 2) sc__law_is.nd rfl (by first | exact .inl rfl | exact .inr rfl)))) (fun _ _ _ _ _ => (ts_one (t_not (t_tru (b_e (e_cal c (hr.mono (by omega)) rfl (al1 (al1 al0)) (a_cons (e_ix ix_seq is_ix (b_var (pv 0)) (b_var (pv 2)) (fun _ _ => rfl)) (a_cons (e_ix ix_seq is_ix (b_var (pv 1)) (b_var (pv 2)) (fun _ _ => rfl)) a_nil)))))))) (fun _ _ _ _ _ => (e_var (pv 2)))))) (b_e (e_n (n_lst a_nil))))))) ss_nil)
  (ss_cons (s_if (t_cmp (op_is) is_is (nomark _) (b_var (pv 1)) (b_e e_non)) (ss_one (s_ret (e_cmp (op_is) is_is (nomark _) (b_var (pv 0)) (b_e e_non)))) ss_nil)
  (ss_cons (s_if (t_cmp (op_is) is_is (nomark _) (b_var (pv 1)) (b_e e_bl)) (ss_one (s_ret (e_cmp (op_is) is_is (nomark _) (b_var (pv 0)) (b_e e_bl)))) ss_nil)
  (ss_cons (s_if (t_cmp (op_is) is_is (nomark _) (b_var (pv 1)) (b_e e_bl)) (ss_one (s_ret (e_cmp (op_is) is_is (nomark _) (b_var (pv 0)) (b_e e_bl)))) ss_nil)
  (ss_cons (s_if (t_tru (b_e (e_isiT T.cf rfl T.b_isinstance (by decide) (b_var (pv 1)) (pe_bltn rfl T.b_str boot_str_ rfl)))) (ss_one (s_ret (e_and (e_isiT T.cf rfl T.b_isinstance (by decide) (b_var (pv 0)) (pe_bltn rfl T.b_str boot_str_ rfl)) (e_one (e_cmp (op_eqD hr.units) is_eq (nomark _) (b_var (pv 0)) (b_var (pv 1))))))) ss_nil)
  (ss_one (s_ret (e_and (e_isiT T.cf rfl T.b_isinstance (by decide) (b_var (pv 0)) (pe_bltn rfl T.b_int boot_int_ rfl)) (e_and (e_not (e_isiT T.cf rfl T.b_isinstance (by decide) (b_var (pv 0)) (pe_bltn rfl T.b_bool boot_bool_ rfl))) (e_one (e_cmp (op_eqD hr.units) is_eq (nomark _) (b_var (pv 0)) (b_var (pv 1))))))))))))))
theorem c__law_is (T : Txt K mg G base) : Cal P w K mg base G 12 "_law_is" 2 (m__law_is 12) := cal_rec T.d__law_is rfl rfl (ok__law_is T) 12
theorem sc__law_whole : FnScope ["value"] ["value"] (defScope t__law_whole) := ⟨rfl, rfl, rfl, by decide +kernel, rfl, by decide +kernel, by decide +kernel⟩
theorem ok__law_whole (T : Txt K mg G base) : ∀ f fd, L2.Fun K "_law_whole" "_law_whole" t__law_whole f fd → FnOk P w K mg base CX0 1 f fd ["value"] (spM G 1 m__law_whole) := fun f fd F => fn_ok F sc__law_whole (fun cdv A outer s H E hr =>
  (ss_one (s_ret (e_and (e_isiT T.cf rfl T.b_isinstance (by decide) (b_var (pv 0)) (pe_bltn rfl T.b_int boot_int_ rfl)) (e_one (e_not (e_isiT T.cf rfl T.b_isinstance (by decide) (b_var (pv 0)) (pe_bltn rfl T.b_bool boot_bool_ rfl))))))))
theorem c__law_whole (T : Txt K mg G base) : Cal P w K mg base G 1 "_law_whole" 1 m__law_whole := cal_of T.d__law_whole rfl (ok__law_whole T)
theorem sc__law_is_order : FnScope ["many", "value", "job"] ["many", "value"] (defScope t__law_is_order) := ⟨rfl, rfl, rfl, by decide +kernel, rfl, by decide +kernel, by decide +kernel⟩
theorem ok__law_is_order (T : Txt K mg G base) : ∀ f fd, L2.Fun K "_law_is_order" "_law_is_order" t__law_is_order f fd → FnOk P w K mg base CX0 2 f fd ["many", "value"] (spM G 2 m__law_is_order) := fun f fd F => fn_ok F sc__law_is_order (fun cdv A outer s H E hr =>
  (ss_cons (s_if (PW.pt (w_or (t_not (t_tru (b_e (e_isiT T.cf rfl T.b_isinstance (by decide) (b_var (pv 1)) (pe_bltn rfl T.b_tuple boot_tuple_ rfl))))) (w_or1 (t_cmp (op_neD hr.units) is_ne (nomark _) (b_e (e_n (n_lc (own := [("job", 2)]) rfl sc__law_is_order.nd (by decide) (i_seq (b_var (pv 1))) (blkOk_by (by kernel_rfl)) (fun _ _ _ _ _ => (g_name (pg_name (i := 2) sc__law_is_order.nd rfl (by first | exact .inl rfl | exact .inr rfl)))) (fun _ _ _ _ _ => (ts_one (t_not (t_tru (b_e (e_cal (c__law_whole T) (hr.mono (by omega)) rfl (al1 al0) (a_cons (e_var (pv 2)) a_nil))))))) (fun _ _ _ _ _ => (e_var (pv 2)))))) (b_e (e_n (n_lst a_nil))))))) (ss_one (s_ret e_bl)) ss_nil)
  (ss_one (s_ret (e_cmp (op_eqD hr.units) is_eq (nomark _) (b_e (e_n (n_sorted hr.un65 rfl T.b_sorted (b_var (pv 1))))) (b_e (e_n (n_lstRg rfl rfl T.b_list (rg_1 rfl T.b_range (e_var (pv 0)))))))))))
theorem c__law_is_order (T : Txt K mg G base) : Cal P w K mg base G 2 "_law_is_order" 2 m__law_is_order := cal_of T.d__law_is_order rfl (ok__law_is_order T)
theorem sc__law_is_lot : FnScope ["many", "value", "one", "two"] ["many", "value"] (defScope t__law_is_lot) := ⟨rfl, rfl, rfl, by decide +kernel, rfl, by decide +kernel, by decide +kernel⟩
theorem ok__law_is_lot (T : Txt K mg G base) : ∀ f fd, L2.Fun K "_law_is_lot" "_law_is_lot" t__law_is_lot f fd → FnOk P w K mg base CX0 2 f fd ["many", "value"] (spM G 2 m__law_is_lot) := fun f fd F => fn_ok F sc__law_is_lot (fun cdv A outer s H E hr =>
  (ss_cons (s_if (PW.pt (w_or (t_not (t_tru (b_e (e_isiT T.cf rfl T.b_isinstance (by decide) (b_var (pv 1)) (pe_bltn rfl T.b_tuple boot_tuple_ rfl))))) (w_or1 (t_cmp (op_neD hr.units) is_ne (nomark _) (b_e (e_n (n_lc (own := [("one", 2)]) rfl sc__law_is_lot.nd (by decide) (i_seq (b_var (pv 1))) (blkOk_by (by kernel_rfl)) (fun _ _ _ _ _ => (g_name (pg_name (i := 2) sc__law_is_lot.nd rfl (by first | exact .inl rfl | exact .inr rfl)))) (fun _ _ _ _ _ => (ts_one (PW.pt (w_or (t_not (t_tru (b_e (e_cal (c__law_whole T) (hr.mono (by omega)) rfl (al1 al0) (a_cons (e_var (pv 2)) a_nil))))) (w_or1 (t_not (t_chain (op_le) is_le (op_ltA (hr.un0)) is_lt (b_e e_int) (b_var (pv 2)) (b_var (pv 0))))))))) (fun _ _ _ _ _ => (e_var (pv 2)))))) (b_e (e_n (n_lst a_nil))))))) (ss_one (s_ret e_bl)) ss_nil)
  (ss_one (s_ret (e_cmp (op_eqD hr.units) is_eq (nomark _) (b_e (e_n (n_lc (own := [("one", 2), ("two", 3)]) rfl sc__law_is_lot.nd (by decide) (i_zip rfl T.b_zip (b_e (e_n (n_sl (b_var (pv 1)) o_none (o_some (e_un un_neg is_neg (b_e e_int)))))) (b_e (e_n (n_sl (b_var (pv 1)) (o_some e_int) o_none)))) (blkOk_by (by kernel_rfl)) (fun _ _ _ _ _ => (g_tup rfl (gs_cons (g_name (pg_name (i := 2) sc__law_is_lot.nd rfl (by first | exact .inl rfl | exact .inr rfl))) (gs_cons (g_name (pg_name (i := 3) sc__law_is_lot.nd rfl (by first | exact .inl rfl | exact .inr rfl))) gs_nil)))) (fun _ _ _ _ _ => (ts_one (t_cmp (op_ge) is_ge (nomark _) (b_var (pv 2)) (b_var (pv 3))))) (fun _ _ _ _ _ => e_int)))) (b_e (e_n (n_lst a_nil))))))))
theorem c__law_is_lot (T : Txt K mg G base) : Cal P w K mg base G 2 "_law_is_lot" 2 m__law_is_lot := cal_of T.d__law_is_lot rfl (ok__law_is_lot T)
theorem sc__law_drawn_dues : FnScope ["pen", "most", "many", "way", "rows", "time", "far", "at", "length", "due"] ["pen", "most"] (defScope t__law_drawn_dues) := ⟨rfl, rfl, rfl, by decide +kernel, rfl, by decide +kernel, by decide +kernel⟩
theorem ok__law_drawn_dues (T : Txt K mg G base) : ∀ f fd, L2.Fun K "_law_drawn_dues" "_law_drawn_dues" t__law_drawn_dues f fd → FnOk P w K mg base CX0 3 f fd ["pen", "most"] (spM G 2 m__law_drawn_dues) := fun f fd F => fn_ok F sc__law_drawn_dues (fun cdv A outer s H E hr =>
  (ss_cons (s_parT (is := [2, 3, 4, 5]) (n := 4) rfl (ax_cons (x_e (e_n (n_op op_addA is_add (b_e e_int) (b_e (e_cal (c__law_draw T) (hr.mono (by omega)) rfl (al1 (al1 al0)) (a_cons (e_var (pv 0)) (a_cons (e_var (pv 1)) a_nil))))))) (ax_cons (x_e (e_cal (c__law_draw T) (hr.mono (by omega)) rfl (al1 (al1 al0)) (a_cons (e_var (pv 0)) (a_cons e_int a_nil)))) (ax_cons (x_n (n_lst a_nil)) (ax_cons (x_e e_int) ax_nil)))) (pgs_cons (pg_name (i := 2) sc__law_drawn_dues.nd rfl (by first | exact .inl rfl | exact .inr rfl)) (pgs_cons (pg_name (i := 3) sc__law_drawn_dues.nd rfl (by first | exact .inl rfl | exact .inr rfl)) (pgs_cons (pg_name (i := 4) sc__law_drawn_dues.nd rfl (by first | exact .inl rfl | exact .inr rfl)) (pgs_cons (pg_name (i := 5) sc__law_drawn_dues.nd rfl (by first | exact .inl rfl | exact .inr rfl)) pgs_nil)))))
  (ss_cons (s_set (i := 6) sc__law_drawn_dues.nd rfl (by first | exact .inl rfl | exact .inr rfl) (x_e (e_cal (c__law_pick T) (hr.mono (by omega)) rfl (al1 (al1 al0)) (a_cons (e_var (pv 0)) (a_cons (e_n (n_lst (a_cons e_int (a_cons e_int (a_cons e_int a_nil))))) a_nil)))))
  (ss_cons (s_for PassesOwn.never rfl (is_range1 rfl T.b_range (e_var (pv 2))) (g_name (pg_name (i := 7) sc__law_drawn_dues.nd rfl (by first | exact .inl rfl | exact .inr rfl))) (ss_cons (s_set (i := 8) sc__law_drawn_dues.nd rfl (by first | exact .inl rfl | exact .inr rfl) (x_e (e_n (n_op op_addA is_add (b_e e_int) (b_e (e_cal (c__law_draw T) (hr.mono (by omega)) rfl (al1 (al1 al0)) (a_cons (e_var (pv 0)) (a_cons (e_var (pv 6)) a_nil))))))))
  (ss_cons (s_set (i := 5) sc__law_drawn_dues.nd rfl (by first | exact .inl rfl | exact .inr rfl) (x_e (e_n (n_op op_addA is_add (b_var (pv 5)) (b_var (pv 8))))))
  (ss_cons (s_set (i := 9) sc__law_drawn_dues.nd rfl (by first | exact .inl rfl | exact .inr rfl) (x_e (e_ix ix_seq is_ix (b_e (e_n (n_lst (a_cons (e_cal (c__law_draw T) (hr.mono (by omega)) rfl (al1 (al1 al0)) (a_cons (e_var (pv 0)) (a_cons (e_n (n_op op_addA is_add (b_e (e_n (n_op op_mulA is_mul (b_e e_int) (b_var (pv 5))))) (b_e e_int))) a_nil))) (a_cons (e_var (pv 5)) (a_cons (e_cal (c__law_draw T) (hr.mono (by omega)) rfl (al1 (al1 al0)) (a_cons (e_var (pv 0)) (a_cons e_int a_nil))) (a_cons (e_b2 (call_max2 rfl) is_max2 rfl T.b_max boot_max_ (b_e e_int) (b_e (e_op op_sub is_sub (b_e (e_op op_sub is_sub (b_var (pv 5)) (b_e e_int))) (b_e (e_cal (c__law_draw T) (hr.mono (by omega)) rfl (al1 (al1 al0)) (a_cons (e_var (pv 0)) (a_cons (e_var (pv 8)) a_nil))))))) a_nil))))))) (b_var (pv 3)) (fun _ _ => rfl))))
  (ss_one (s_app (i := 4) (pv 4) (e_n (n_tup (a_cons (e_var (pv 8)) (a_cons (e_b2 (call_min2 rfl) is_min2 rfl T.b_min boot_min_ (b_e e_int) (b_var (pv 9))) a_nil))))))))))
  (ss_one (s_fz (i := 4) (s_ret (e_n (n_t1 call_tuple_of is_tuple rfl T.b_tuple boot_tuple_ (b_e (e_cal (c__law_shuffled T) (hr.mono (by omega)) rfl (al1 (al1 al0)) (a_cons (e_var (pv 0)) (a_cons (e_var (pv 4)) a_nil)))))))))))))
theorem c__law_drawn_dues (T : Txt K mg G base) : Cal P w K mg base G 3 "_law_drawn_dues" 2 m__law_drawn_dues := cal_of T.d__law_drawn_dues rfl (ok__law_drawn_dues T)
theorem sc__law_late_row : FnScope ["rows", "order", "found", "time", "at"] ["rows", "order"] (defScope t__law_late_row) := ⟨rfl, rfl, rfl, by decide +kernel, rfl, by decide +kernel, by decide +kernel⟩
theorem ok__law_late_row (T : Txt K mg G base) : ∀ f fd, L2.Fun K "_law_late_row" "_law_late_row" t__law_late_row f fd → FnOk P w K mg base CX0 1 f fd ["rows", "order"] (spM G 2 m__law_late_row) := fun f fd F => fn_ok F sc__law_late_row (fun cdv A outer s H E hr =>
  (ss_cons (by first | exact (s_par2 (i := 2) (j := 3) rfl sc__law_late_row.nd rfl rfl (by decide) rfl rfl (ax_cons (x_n (n_op op_mulA is_mul (b_e (e_n (n_lst (a_cons e_int a_nil)))) (b_e (e_b1 call_len is_len rfl T.b_len PySem.boot_len (b_var (pv 0)))))) (ax_cons (x_e e_int) ax_nil)) (by rfl)) | exact (s_parT (is := [2, 3]) (n := 2) rfl (ax_cons (x_n (n_op op_mulA is_mul (b_e (e_n (n_lst (a_cons e_int a_nil)))) (b_e (e_b1 call_len is_len rfl T.b_len PySem.boot_len (b_var (pv 0)))))) (ax_cons (x_e e_int) ax_nil)) (pgs_cons (pg_name (i := 2) sc__law_late_row.nd rfl (by first | exact .inl rfl | exact .inr rfl)) (pgs_cons (pg_name (i := 3) sc__law_late_row.nd rfl (by first | exact .inl rfl | exact .inr rfl)) pgs_nil))))
  (ss_cons (s_for PassesOwn.never rfl (is_seq (e_var (pv 1))) (g_name (pg_name (i := 4) sc__law_late_row.nd rfl (by first | exact .inl rfl | exact .inr rfl))) (ss_cons (s_set (i := 3) sc__law_late_row.nd rfl (by first | exact .inl rfl | exact .inr rfl) (x_e (e_n (n_op op_addA is_add (b_var (pv 3)) (b_e (e_ix ix_seq is_ix (b_e (e_ix ix_seq is_ix (b_var (pv 0)) (b_var (pv 4)) (fun _ _ => rfl))) (b_e e_int) (fun _ _ => rfl)))))))
  (ss_one (s_setIx (i := 2) (pv 2) (e_var (pv 4)) (e_op op_sub is_sub (b_var (pv 3)) (b_e (e_ix ix_seq is_ix (b_e (e_ix ix_seq is_ix (b_var (pv 0)) (b_var (pv 4)) (fun _ _ => rfl))) (b_e e_int) (fun _ _ => rfl))))))))
  (ss_one (s_retB (b_var (pv 2)))))))
theorem c__law_late_row (T : Txt K mg G base) : Cal P w K mg base G 1 "_law_late_row" 2 m__law_late_row := cal_of T.d__law_late_row rfl (ok__law_late_row T)
theorem sc__law_by_dues : FnScope ["rows", "at"] ["rows"] (defScope t__law_by_dues) := ⟨rfl, rfl, rfl, by decide +kernel, rfl, by decide +kernel, by decide +kernel⟩
theorem ok__law_by_dues (T : Txt K mg G base) : ∀ f fd, L2.Fun K "_law_by_dues" "_law_by_dues" t__law_by_dues f fd → f = He.fAd K ("_law_by_dues", none) → FnOk P w K mg base CX0 6 f fd ["rows"] (spM G 1 m__law_by_dues) := fun f fd F hf => fn_okL F hf sc__law_by_dues (fun cdv A outer s H E hcd hr =>
  (ss_one (s_ret (e_n (n_t1 call_tuple_of is_tuple rfl T.b_tuple boot_tuple_ (b_e (e_n (n_sortK (k := 1) (i := 1) (x := "at") rfl T.b_sorted (b_e (e_n (n_lstRg rfl rfl T.b_list (rg_1 rfl T.b_range (e_b1 call_len is_len rfl T.b_len PySem.boot_len (b_var (pv 0))))))) (lamM_of T.l__law_by_dues hcd rfl rfl (by kernel_rfl) (by rfl) sc__law_by_dues.nd) (fun _ _ _ _ => rfl) (hr.mono (by omega)) (fun A s H f c' hr => (e_ix ix_seq is_ix (b_e (e_ix ix_seq is_ix (b_var (pv 0)) (b_var (pv 1)) (fun _ _ => rfl))) (b_e e_int) (fun _ _ => rfl)))))))))))
theorem c__law_by_dues (T : Txt K mg G base) : Cal P w K mg base G 6 "_law_by_dues" 1 m__law_by_dues := cal_ofL T.d__law_by_dues T.l__law_by_dues.at_ rfl (ok__law_by_dues T)
theorem sc__law_all_lots : FnScope ["many", "found", "at", "lot"] ["many"] (defScope t__law_all_lots) := ⟨rfl, rfl, rfl, by decide +kernel, rfl, by decide +kernel, by decide +kernel⟩
theorem ok__law_all_lots (T : Txt K mg G base) : ∀ f fd, L2.Fun K "_law_all_lots" "_law_all_lots" t__law_all_lots f fd → FnOk P w K mg base CX0 1 f fd ["many"] (spM G 1 m__law_all_lots) := fun f fd F => fn_ok F sc__law_all_lots (fun cdv A outer s H E hr =>
  (ss_cons (s_set (i := 1) sc__law_all_lots.nd rfl (by first | exact .inl rfl | exact .inr rfl) (x_e (e_n (n_lst (a_cons (e_n (n_tup a_nil)) a_nil)))))
  (ss_cons (s_for PassesOwn.never rfl (is_range1 rfl T.b_range (e_var (pv 0))) (g_name (pg_name (i := 2) sc__law_all_lots.nd rfl (by first | exact .inl rfl | exact .inr rfl))) (ss_one (s_set (i := 1) sc__law_all_lots.nd rfl (by first | exact .inl rfl | exact .inr rfl) (x_e (e_n (n_op op_addA is_add (b_var (pv 1)) (b_e (e_n (n_lc (own := [("lot", 3)]) rfl sc__law_all_lots.nd (by decide) (i_seq (b_var (pv 1))) (blkOk_by (by kernel_rfl)) (fun _ _ _ _ _ => (g_name (pg_name (i := 3) sc__law_all_lots.nd rfl (by first | exact .inl rfl | exact .inr rfl)))) (fun _ _ _ _ _ => ts_nil) (fun _ _ _ _ _ => (e_n (n_op op_addA is_add (b_var (pv 3)) (b_e (e_n (n_tup (a_cons (e_var (pv 2)) a_nil))))))))))))))))
  (ss_one (s_ret (e_n (n_sorted hr.un65 rfl T.b_sorted (b_var (pv 1)))))))))
theorem c__law_all_lots (T : Txt K mg G base) : Cal P w K mg base G 1 "_law_all_lots" 1 m__law_all_lots := cal_of T.d__law_all_lots rfl (ok__law_all_lots T)
theorem sc__law_lot_bound : FnScope ["rows", "lot", "at"] ["rows", "lot"] (defScope t__law_lot_bound) := ⟨rfl, rfl, rfl, by decide +kernel, rfl, by decide +kernel, by decide +kernel⟩
theorem ok__law_lot_bound (T : Txt K mg G base) : ∀ f fd, L2.Fun K "_law_lot_bound" "_law_lot_bound" t__law_lot_bound f fd → FnOk P w K mg base CX0 1 f fd ["rows", "lot"] (spM G 2 m__law_lot_bound) := fun f fd F => fn_ok F sc__law_lot_bound (fun cdv A outer s H E hr =>
  (ss_one (s_ret (e_op op_sub is_sub (b_e (e_b1 (cr_sum rfl) is_sum rfl T.b_sum boot_sum_ (b_e (e_n (n_lc (own := [("at", 2)]) rfl sc__law_lot_bound.nd (by decide) (i_seq (b_var (pv 1))) (blkOk_by (by kernel_rfl)) (fun _ _ _ _ _ => (g_name (pg_name (i := 2) sc__law_lot_bound.nd rfl (by first | exact .inl rfl | exact .inr rfl)))) (fun _ _ _ _ _ => ts_nil) (fun _ _ _ _ _ => (e_ix ix_seq is_ix (b_e (e_ix ix_seq is_ix (b_var (pv 0)) (b_var (pv 2)) (fun _ _ => rfl))) (b_e e_int) (fun _ _ => rfl)))))))) (b_e (e_b1 (cr_max rfl) is_max1 rfl T.b_max boot_max_ (b_e (e_n (n_lc (own := [("at", 2)]) rfl sc__law_lot_bound.nd (by decide) (i_seq (b_var (pv 1))) (blkOk_by (by kernel_rfl)) (fun _ _ _ _ _ => (g_name (pg_name (i := 2) sc__law_lot_bound.nd rfl (by first | exact .inl rfl | exact .inr rfl)))) (fun _ _ _ _ _ => ts_nil) (fun _ _ _ _ _ => (e_ix ix_seq is_ix (b_e (e_ix ix_seq is_ix (b_var (pv 0)) (b_var (pv 2)) (fun _ _ => rfl))) (b_e e_int) (fun _ _ => rfl))))))))))))
theorem c__law_lot_bound (T : Txt K mg G base) : Cal P w K mg base G 1 "_law_lot_bound" 2 m__law_lot_bound := cal_of T.d__law_lot_bound rfl (ok__law_lot_bound T)
theorem sc__law_bent_order : FnScope ["pen", "order", "many", "at", "to", "swapped"] ["pen", "order"] (defScope t__law_bent_order) := ⟨rfl, rfl, rfl, by decide +kernel, rfl, by decide +kernel, by decide +kernel⟩
theorem ok__law_bent_order (T : Txt K mg G base) : ∀ f fd, L2.Fun K "_law_bent_order" "_law_bent_order" t__law_bent_order f fd → FnOk P w K mg base CX0 3 f fd ["pen", "order"] (spM G 2 m__law_bent_order) := fun f fd F => fn_ok F sc__law_bent_order (fun cdv A outer s H E hr =>
  (ss_cons (s_set (i := 2) sc__law_bent_order.nd rfl (by first | exact .inl rfl | exact .inr rfl) (x_e (e_b1 call_len is_len rfl T.b_len PySem.boot_len (b_var (pv 1)))))
  (ss_cons (by first | exact (s_par2 (i := 3) (j := 4) rfl sc__law_bent_order.nd rfl rfl (by decide) rfl rfl (ax_cons (x_e (e_cal (c__law_draw T) (hr.mono (by omega)) rfl (al1 (al1 al0)) (a_cons (e_var (pv 0)) (a_cons (e_var (pv 2)) a_nil)))) (ax_cons (x_e (e_cal (c__law_draw T) (hr.mono (by omega)) rfl (al1 (al1 al0)) (a_cons (e_var (pv 0)) (a_cons (e_var (pv 2)) a_nil)))) ax_nil)) (by rfl)) | exact (s_parT (is := [3, 4]) (n := 2) rfl (ax_cons (x_e (e_cal (c__law_draw T) (hr.mono (by omega)) rfl (al1 (al1 al0)) (a_cons (e_var (pv 0)) (a_cons (e_var (pv 2)) a_nil)))) (ax_cons (x_e (e_cal (c__law_draw T) (hr.mono (by omega)) rfl (al1 (al1 al0)) (a_cons (e_var (pv 0)) (a_cons (e_var (pv 2)) a_nil)))) ax_nil)) (pgs_cons (pg_name (i := 3) sc__law_bent_order.nd rfl (by first | exact .inl rfl | exact .inr rfl)) (pgs_cons (pg_name (i := 4) sc__law_bent_order.nd rfl (by first | exact .inl rfl | exact .inr rfl)) pgs_nil))))
  (ss_cons (s_set (i := 5) sc__law_bent_order.nd rfl (by first | exact .inl rfl | exact .inr rfl) (x_n (n_t1 call_list_of is_list rfl T.b_list boot_list_ (b_var (pv 1)))))
  (ss_cons (by (refine s_setIx2 (i := 5) rfl (pv 5) (pv 5) ?_ ?_ ?_ ?_ (hgs := ?_)); (exact (e_var (pv 3))); (exact (e_var (pv 4))); (exact (e_ix ix_seq is_ix (b_var (pv 5)) (b_var (pv 4)) (fun _ _ => rfl))); (exact (e_ix ix_seq is_ix (b_var (pv 5)) (b_var (pv 3)) (fun _ _ => rfl))); (exact (pgs_cons (pg_sub (pv 5) (e_var (pv 3)) set_list) (pgs_cons (pg_sub (pv 5) (e_var (pv 4)) set_list) pgs_nil))))
  (ss_one (s_ret (e_cal (c__law_pick T) (hr.mono (by omega)) rfl (al1 (al1 al0)) (a_cons (e_var (pv 0)) (a_cons (e_n (n_op op_addA is_add (b_e (e_n (n_op op_mulA is_mul (b_e (e_n (n_lst (a_cons (e_n (n_t1 call_tuple_of is_tuple rfl T.b_tuple boot_tuple_ (b_var (pv 5)))) a_nil)))) (b_e e_int)))) (b_e (e_n (n_lst (a_cons (e_var (pv 1)) (a_cons (e_n (n_sl (b_var (pv 1)) (o_some e_int) o_none)) (a_cons (e_n (n_op op_addA is_add (b_var (pv 1)) (b_e (e_n (n_tup (a_cons (e_var (pv 2)) a_nil)))))) (a_cons (e_n (n_t1 call_list_of is_list rfl T.b_list boot_list_ (b_var (pv 1)))) (a_cons e_non (a_cons (e_n (n_op op_addA is_add (b_e (e_n (n_tup (a_cons e_bl a_nil)))) (b_e (e_n (n_sl (b_var (pv 1)) (o_some e_int) o_none))))) (a_cons (e_n (n_rev (b_var (pv 1)))) a_nil)))))))))))) a_nil))))))))))
theorem c__law_bent_order (T : Txt K mg G base) : Cal P w K mg base G 3 "_law_bent_order" 2 m__law_bent_order := cal_of T.d__law_bent_order rfl (ok__law_bent_order T)
theorem sc_law : FnScope ["script", "pen", "lap", "rows", "many", "dues", "best", "lots", "turn", "order", "worst", "good", "lot", "other", "some", "value", "tight", "timelier", "one", "two"] ["script"] (defScope t_law) := ⟨rfl, rfl, rfl, by decide +kernel, rfl, by decide +kernel, by decide +kernel⟩
theorem ok_law (T : Txt K mg G base) (hm : LawM 18 b_law) : ∀ f fd, L2.Fun K "law" "law" t_law f fd → FnOk P w K mg base CX0 16 f fd ["script"] (spLaw K G.tb) := fun f fd F => law_ok (G := G) (N := ["lap", "rows", "many", "dues", "best", "lots", "turn", "order", "worst", "good", "lot", "other", "some", "value", "tight", "timelier", "one", "two"]) F sc_law rfl (fun cdv A outer s H E hr => ps_set (i := 1) sc_law.nd rfl (by first | exact .inl rfl | exact .inr rfl) (pe_callPen (k := 1) T.d__law_pen (ok__law_pen T) (hr.mono (by decide)) rfl (pv 0))) (fun cdv A outer s H E hr =>
  (ss_cons (s_for PassesOwn.never rfl (is_range1 rfl T.b_range e_int) (g_name (pg_name (i := 2) sc_law.nd rfl (by first | exact .inl rfl | exact .inr rfl))) (ss_cons (s_set (i := 3) sc_law.nd rfl (by first | exact .inl rfl | exact .inr rfl) (x_e (e_cal (c__law_drawn_dues T) (hr.mono (by omega)) rfl (al1 (al1 al0)) (a_cons (e_var (pv 1)) (a_cons e_int a_nil)))))
  (ss_cons (by first | exact (s_par3 (i := 4) (j := 5) (l := 6) rfl sc_law.nd rfl rfl rfl (by decide) (by decide) (by decide) rfl rfl rfl (ax_cons (x_e (e_b1 call_len is_len rfl T.b_len PySem.boot_len (b_var (pv 3)))) (ax_cons (x_e (e_mak (c_Dues T) (hr.mono (by omega)) rfl (al1 al0) (a_cons (e_var (pv 3)) a_nil))) (ax_cons (x_e (e_cal (c__law_by_dues T) (hr.mono (by omega)) rfl (al1 al0) (a_cons (e_var (pv 3)) a_nil))) ax_nil))) (by rfl)) | exact (s_parT (is := [4, 5, 6]) (n := 3) rfl (ax_cons (x_e (e_b1 call_len is_len rfl T.b_len PySem.boot_len (b_var (pv 3)))) (ax_cons (x_e (e_mak (c_Dues T) (hr.mono (by omega)) rfl (al1 al0) (a_cons (e_var (pv 3)) a_nil))) (ax_cons (x_e (e_cal (c__law_by_dues T) (hr.mono (by omega)) rfl (al1 al0) (a_cons (e_var (pv 3)) a_nil))) ax_nil))) (pgs_cons (pg_name (i := 4) sc_law.nd rfl (by first | exact .inl rfl | exact .inr rfl)) (pgs_cons (pg_name (i := 5) sc_law.nd rfl (by first | exact .inl rfl | exact .inr rfl)) (pgs_cons (pg_name (i := 6) sc_law.nd rfl (by first | exact .inl rfl | exact .inr rfl)) pgs_nil)))))
  (ss_cons (s_set (i := 7) sc_law.nd rfl (by first | exact .inl rfl | exact .inr rfl) (x_e (e_cal (c__law_all_lots T) (hr.mono (by omega)) rfl (al1 al0) (a_cons (e_var (pv 4)) a_nil))))
  (ss_one (s_for PassesOwn.never rfl (is_range1 rfl T.b_range e_int) (g_name (pg_name (i := 8) sc_law.nd rfl (by first | exact .inl rfl | exact .inr rfl))) (ss_cons (s_set (i := 9) sc_law.nd rfl (by first | exact .inl rfl | exact .inr rfl) (x_e (e_cal (c__law_pick T) (hr.mono (by omega)) rfl (al1 (al1 al0)) (a_cons (e_var (pv 1)) (a_cons (e_n (n_lst (a_cons (e_var (pv 6)) (a_cons (e_n (n_t1 call_tuple_of is_tuple rfl T.b_tuple boot_tuple_ (b_e (e_cal (c__law_shuffled T) (hr.mono (by omega)) rfl (al1 (al1 al0)) (a_cons (e_var (pv 1)) (a_cons (e_n (n_lstRg rfl rfl T.b_list (rg_1 rfl T.b_range (e_var (pv 4))))) a_nil)))))) a_nil)))) a_nil)))))
  (ss_cons (s_set (i := 10) sc_law.nd rfl (by first | exact .inl rfl | exact .inr rfl) (x_e (e_b1 (cr_max rfl) is_max1 rfl T.b_max boot_max_ (b_e (e_cal (c__law_late_row T) (hr.mono (by omega)) rfl (al1 (al1 al0)) (a_cons (e_var (pv 3)) (a_cons (e_var (pv 9)) a_nil)))))))
  (ss_cons (s_aft (i := 11) (by first | exact (s_lc (i := 11) (own := [("lot", 12)]) rfl rfl sc_law.nd rfl rfl rfl (by decide) (by decide) (i_seq (b_e (e_n (n_sl (b_var (pv 7)) (o_some e_int) o_none)))) (blkOk_by (by kernel_rfl)) (fun _ _ _ _ _ => (g_name (pg_name (i := 12) sc_law.nd rfl (by first | exact .inl rfl | exact .inr rfl)))) (fun _ _ _ _ _ => (ts_one (t_cmp (op_eqD hr.units) is_eq (nomark _) (b_e (e_cal (c__law_lot_bound T) (hr.mono (by omega)) rfl (al1 (al1 al0)) (a_cons (e_var (pv 3)) (a_cons (e_var (pv 12)) a_nil)))) (b_var (pv 10))))) (fun _ _ _ _ _ => (e_var (pv 12)))) | exact (s_set (i := 11) sc_law.nd rfl (by first | exact .inl rfl | exact .inr rfl) (x_n (n_lc (own := [("lot", 12)]) rfl sc_law.nd (by decide) (i_seq (b_e (e_n (n_sl (b_var (pv 7)) (o_some e_int) o_none)))) (blkOk_by (by kernel_rfl)) (fun _ _ _ _ _ => (g_name (pg_name (i := 12) sc_law.nd rfl (by first | exact .inl rfl | exact .inr rfl)))) (fun _ _ _ _ _ => (ts_one (t_cmp (op_eqD hr.units) is_eq (nomark _) (b_e (e_cal (c__law_lot_bound T) (hr.mono (by omega)) rfl (al1 (al1 al0)) (a_cons (e_var (pv 3)) (a_cons (e_var (pv 12)) a_nil)))) (b_var (pv 10))))) (fun _ _ _ _ _ => (e_var (pv 12))))))))
  (ss_cons (s_set (i := 12) sc_law.nd rfl (by first | exact .inl rfl | exact .inr rfl) (x_e (e_cal (c__law_pick T) (hr.mono (by omega)) rfl (al1 (al1 al0)) (a_cons (e_var (pv 1)) (a_cons (e_n (n_op op_addA is_add (b_var (pv 7)) (b_e (e_n (n_op op_mulA is_mul (b_var (pv 11)) (b_e e_int)))))) a_nil)))))
  (ss_cons (s_set (i := 13) sc_law.nd rfl (by first | exact .inl rfl | exact .inr rfl) (x_e (e_cal (c__law_bent_order T) (hr.mono (by omega)) rfl (al1 (al1 al0)) (a_cons (e_var (pv 1)) (a_cons (e_cal (c__law_pick T) (hr.mono (by omega)) rfl (al1 (al1 al0)) (a_cons (e_var (pv 1)) (a_cons (e_n (n_lst (a_cons (e_var (pv 6)) (a_cons (e_var (pv 9)) (a_cons (e_n (n_t1 call_tuple_of is_tuple rfl T.b_tuple boot_tuple_ (b_e (e_cal (c__law_shuffled T) (hr.mono (by omega)) rfl (al1 (al1 al0)) (a_cons (e_var (pv 1)) (a_cons (e_n (n_lstRg rfl rfl T.b_list (rg_1 rfl T.b_range (e_var (pv 4))))) a_nil)))))) a_nil))))) a_nil))) a_nil)))))
  (ss_cons (s_set (i := 14) sc_law.nd rfl (by first | exact .inl rfl | exact .inr rfl) (x_e (e_n (n_lst (a_cons (e_cal (c_tight_or_timelier T) (hr.mono (by omega)) rfl (al1 (al1 al0)) (a_cons (e_var (pv 5)) (a_cons (e_var (pv 9)) a_nil))) (a_cons (e_mak (c_Tight T) (hr.mono (by omega)) rfl (al1 al0) (a_cons (e_var (pv 12)) a_nil)) (a_cons (e_mak (c_Tight T) (hr.mono (by omega)) rfl (al1 al0) (a_cons (e_var (pv 12)) a_nil)) (a_cons (e_mak (c_Tight T) (hr.mono (by omega)) rfl (al1 al0) (a_cons (e_n (n_rev (b_var (pv 12)))) a_nil)) (a_cons (e_mak (c_Tight T) (hr.mono (by omega)) rfl (al1 al0) (a_cons (e_n (n_op op_addA is_add (b_var (pv 12)) (b_e (e_n (n_sl (b_var (pv 12)) (o_some (e_un un_neg is_neg (b_e e_int))) o_none))))) a_nil)) (a_cons (e_mak (c_Tight T) (hr.mono (by omega)) rfl (al1 al0) (a_cons (e_n (n_tup (a_cons (e_var (pv 4)) a_nil))) a_nil)) (a_cons (e_mak (c_Tight T) (hr.mono (by omega)) rfl (al1 al0) (a_cons (e_n (n_tup (a_cons e_bl a_nil))) a_nil)) (a_cons (e_mak (c_Tight T) (hr.mono (by omega)) rfl (al1 al0) (a_cons e_non a_nil)) (a_cons (e_mak (c_Tight T) (hr.mono (by omega)) rfl (al1 al0) (a_cons (e_n (n_t1 call_list_of is_list rfl T.b_list boot_list_ (b_var (pv 12)))) a_nil)) a_nil)))))))))))))
  (ss_cons (s_set (i := 15) sc_law.nd rfl (by first | exact .inl rfl | exact .inr rfl) (x_e (e_cal (c__law_pick T) (hr.mono (by omega)) rfl (al1 (al1 al0)) (a_cons (e_var (pv 1)) (a_cons (e_n (n_op op_addA is_add (b_e (e_n (n_op op_addA is_add (b_var (pv 14)) (b_e (e_n (n_op op_mulA is_mul (b_e (e_n (n_lst (a_cons (e_mak (c_Timelier T) (hr.mono (by omega)) rfl (al1 al0) (a_cons (e_var (pv 13)) a_nil)) a_nil)))) (b_e e_int))))))) (b_e (e_n (n_lst (a_cons (e_mak (c_Timelier T) (hr.mono (by omega)) rfl (al1 al0) (a_cons e_non a_nil)) (a_cons (e_mak (c_Tight T) (hr.mono (by omega)) rfl (al1 al0) (a_cons (e_var (pv 13)) a_nil)) (a_cons (e_mak (c_Timelier T) (hr.mono (by omega)) rfl (al1 al0) (a_cons (e_var (pv 12)) a_nil)) (a_cons (e_var (pv 9)) (a_cons e_non a_nil)))))))))) a_nil)))))
  (ss_cons (s_set (i := 16) sc_law.nd rfl (by first | exact .inl rfl | exact .inr rfl) (x_e (e_and (e_isiG T.cf T.g_Tight rfl rfl T.b_isinstance (b_var (pv 15))) (e_and (e_cal (c__law_is_lot T) (hr.mono (by omega)) rfl (al1 (al1 al0)) (a_cons (e_var (pv 4)) (a_cons (e_fld T.cf (fun c _ C h => T.na_lot c C h) (b_var (pv 15)) rfl) a_nil))) (e_one (e_cmp (op_inA hr.un65) is_in rfl (b_e (e_fld T.cf (fun c _ C h => T.na_lot c C h) (b_var (pv 15)) rfl)) (b_var (pv 11))))))))
  (ss_cons (s_set (i := 17) sc_law.nd rfl (by first | exact .inl rfl | exact .inr rfl) (x_e (e_and (e_isiG T.cf T.g_Timelier rfl rfl T.b_isinstance (b_var (pv 15))) (e_and (e_cal (c__law_is_order T) (hr.mono (by omega)) rfl (al1 (al1 al0)) (a_cons (e_var (pv 4)) (a_cons (e_fld T.cf (fun c _ C h => T.na_order c C h) (b_var (pv 15)) rfl) a_nil))) (e_one (e_cmp (op_ltA (hr.un0)) is_lt (nomark _) (b_e (e_b1 (cr_max rfl) is_max1 rfl T.b_max boot_max_ (b_e (e_cal (c__law_late_row T) (hr.mono (by omega)) rfl (al1 (al1 al0)) (a_cons (e_var (pv 3)) (a_cons (e_fld T.cf (fun c _ C h => T.na_order c C h) (b_var (pv 15)) rfl) a_nil)))))) (b_var (pv 10))))))))
  (ss_one (s_if (t_not (t_tru (b_e (e_cal (c__law_is T) (hr.mono (by omega)) rfl (al1 (al1 al0)) (a_cons (e_n (n_tup (a_cons (e_cal (c_tight_holds T) (hr.mono (by omega)) rfl (al1 (al1 (al1 al0))) (a_cons (e_var (pv 5)) (a_cons (e_var (pv 9)) (a_cons (e_var (pv 15)) a_nil)))) (a_cons (e_cal (c_timelier_holds T) (hr.mono (by omega)) rfl (al1 (al1 (al1 al0))) (a_cons (e_var (pv 5)) (a_cons (e_var (pv 9)) (a_cons (e_var (pv 15)) a_nil)))) a_nil)))) (a_cons (e_n (n_tup (a_cons (e_var (pv 16)) (a_cons (e_var (pv 17)) a_nil)))) a_nil)))))) (ss_one (s_ret e_bl)) ss_nil)))))))))))))))))
  (ss_cons (by first | exact (s_par2 (i := 18) (j := 19) rfl sc_law.nd rfl rfl (by decide) rfl rfl (ax_cons (x_e (e_mak (c_Tight T) (hr.mono (by omega)) rfl (al1 al0) (a_cons (e_n (n_lst (a_cons e_int a_nil))) a_nil))) (ax_cons (x_e (e_mak (c_Timelier T) (hr.mono (by omega)) rfl (al1 al0) (a_cons (e_n (n_lst (a_cons e_int (a_cons e_int a_nil)))) a_nil))) ax_nil)) (by rfl)) | exact (s_parT (is := [18, 19]) (n := 2) rfl (ax_cons (x_e (e_mak (c_Tight T) (hr.mono (by omega)) rfl (al1 al0) (a_cons (e_n (n_lst (a_cons e_int a_nil))) a_nil))) (ax_cons (x_e (e_mak (c_Timelier T) (hr.mono (by omega)) rfl (al1 al0) (a_cons (e_n (n_lst (a_cons e_int (a_cons e_int a_nil)))) a_nil))) ax_nil)) (pgs_cons (pg_name (i := 18) sc_law.nd rfl (by first | exact .inl rfl | exact .inr rfl)) (pgs_cons (pg_name (i := 19) sc_law.nd rfl (by first | exact .inl rfl | exact .inr rfl)) pgs_nil))))
  (ss_cons (s_if (PW.pt (w_or (t_cmp (op_isNot) is_is (nomark _) (b_e (e_own (c_q_Tight T) (hr.mono (by omega)) (e_var (pv 18)) (e_mak (c_Tight T) (hr.mono (by omega)) rfl (al1 al0) (a_cons (e_n (n_tup (a_cons e_int a_nil))) a_nil)))) (b_e e_bl)) (w_or (t_cmp (op_isNot) is_is (nomark _) (b_e (e_own (c_n_Tight T) (hr.mono (by omega)) (e_var (pv 18)) (e_mak (c_Tight T) (hr.mono (by omega)) rfl (al1 al0) (a_cons (e_n (n_tup a_nil)) a_nil)))) (b_e e_bl)) (w_or1 (t_cmp (op_isNot) is_is (nomark _) (b_e (e_own (c_q_Tight T) (hr.mono (by omega)) (e_var (pv 18)) (e_n (n_tup (a_cons e_int a_nil))))) (b_e e_bl)))))) (ss_one (s_ret e_bl)) ss_nil)
  (ss_one (s_ret (e_and (e_cmp (op_is) is_is (nomark _) (b_e (e_own (c_q_Timelier T) (hr.mono (by omega)) (e_var (pv 19)) (e_mak (c_Timelier T) (hr.mono (by omega)) rfl (al1 al0) (a_cons (e_n (n_tup (a_cons e_int (a_cons e_int a_nil)))) a_nil)))) (b_e e_bl)) (e_and (e_cmp (op_is) is_is (nomark _) (b_e (e_own (c_n_Timelier T) (hr.mono (by omega)) (e_var (pv 19)) (e_mak (c_Timelier T) (hr.mono (by omega)) rfl (al1 al0) (a_cons (e_n (n_tup (a_cons e_int (a_cons e_int a_nil)))) a_nil)))) (b_e e_bl)) (e_one (e_cmp (op_is) is_is (nomark _) (b_e (e_own (c_q_Timelier T) (hr.mono (by omega)) (e_var (pv 19)) (e_var (pv 18)))) (b_e e_bl))))))))))) hm
end
end
end K69
namespace K69
open PySem L2 Cr
abbrev R : PySem.W.OpenRow := PySem.W.OpenLaw.row PySem.Challenge.rw_whatfirst_k69_worst_lateness_bent
def ob (s : PySem.W.SharedT) : AlB := obsB 5 fas fns tfs (exB2 cs fls tfs) (HandSHeadRun.getT s)
theorem ob_eq (s : PySem.W.SharedT) : ob s = (hookB 5 fas fns tfs (exB2 cs fls tfs)).obs s.abs := obsB_eq (HandSHeadRun.getT_eq s)
theorem run (w : World) : HandSHeadRun.RunEq R (PySem.W.view R.prog [46]) (hookB 5 fas fns tfs (exB2 cs fls tfs)) ob 3000 ((["__name__", "MOST_JOBS", "MOST_LENGTH", "MOST_DUE", "is_whole", "is_number", "as_tuples", "is_index", "is_order", "need_order", "is_lot", "is_due_job", "need_dues", "need_due_order", "latenesses_by", "by_dues", "least_by_dues", "bound_by", "lots_by", "first_tight", "tight_or_timelier", "tight_holds", "timelier_holds", "_law_pen", "_law_draw", "_law_pick", "_law_shuffled", "_law_is", "_law_whole", "_law_is_order"] : List Str) ++ (["_law_is_lot", "_law_drawn_dues", "_law_late_row", "_law_by_dues", "_law_all_lots", "_law_lot_bound", "_law_bent_order", "Dues", "Tight", "Timelier", "FirstError", "BadRow"] : List Str)) w := by
  intro os
  kernel_rfl
end K69
/-! ## rooms: rows of two, the ends, the length -/
namespace Cr
open PySem L2
/-- jobs as pairs -/
structure Rm (n : Nat) (M : List (List Int)) : Prop where
  len : M.length = n
  row : ∀ r ∈ M, ∃ a b : Int, r = [a, b] ∧ (0 ≤ a ∧ a ≤ 1000000) ∧ (0 ≤ b ∧ b ≤ 1000000)
def at2 (M : List (List Int)) (i : Int) (j : Nat) : Int := ((M[i.toNat]?.getD [])[j]?).getD 0
theorem Rm.get {n : Nat} {M : List (List Int)} (h : Rm n M) {i : Int} (h0 : 0 ≤ i) (h1 : i < n) : M[i.toNat]? = some [at2 M i 0, at2 M i 1] ∧ (0 ≤ at2 M i 0 ∧ at2 M i 0 ≤ 1000000) ∧ (0 ≤ at2 M i 1 ∧ at2 M i 1 ≤ 1000000) := by
  have hl : i.toNat < M.length := by rw [h.len]; omega
  obtain ⟨a, b, e, ha, hb⟩ := h.row _ (List.getElem_mem hl)
  have e2 : M[i.toNat]? = some [a, b] := by rw [List.getElem?_eq_getElem hl, e]
  have ea : at2 M i 0 = a := by unfold at2; rw [e2]; rfl
  have eb : at2 M i 1 = b := by unfold at2; rw [e2]; rfl
  rw [ea, eb]
  exact ⟨e2, ha, hb⟩
theorem ix_toNat {i : Int} (h : 0 ≤ i) : (D.int i) = .int (i.toNat : Nat) := by rw [Int.toNat_of_nonneg h]
theorem Rm.ix {n : Nat} {M : List (List Int)} (h : Rm n M) (hn : n ≤ 1000) {i : Int} (h0 : 0 ≤ i) (h1 : i < n) {Q : D → Prop} (q : Q (.tup [.int (at2 M i 0), .int (at2 M i 1)])) : YesO (gIx (.tup (tupsOf M)) (.int i)) Q := by
  obtain ⟨e, _⟩ := h.get h0 h1
  rw [ix_toNat h0]
  exact ⟨_, (v_ix (by unfold tupsOf; rw [List.getElem?_map, e]; rfl) (by rw [tupsOf_len, h.len]; omega)).2, q⟩
@[simp] theorem ix_p0 {a b : D} : gIx (.tup [a, b]) (.int 0) = some a := (v_ix (n := 0) (ds := [a, b]) rfl (by simp)).2
@[simp] theorem ix_p1 {a b : D} : gIx (.tup [a, b]) (.int 1) = some b := (v_ix (n := 1) (ds := [a, b]) rfl (by simp)).2
theorem in_rng {n : Nat} {os : List Int} (h : os.Perm (rngI n)) {i : Int} : i ∈ os ↔ 0 ≤ i ∧ i < n := h.mem_iff.trans rngI_mem
/-! ### the ends -/
def go1 (M : List (List Int)) : List Int → Int → List (Key × D) → List (Key × D)
  | [], _, acc => acc
  | i :: os, t, acc => go1 M os (t + at2 M i 0) (putKD acc (.inl i) (.int (t + at2 M i 0)))
def go2 (M : List (List Int)) (F : List (Key × D)) : List Int → Int → List (Key × D) → List (Key × D)
  | [], _, acc => acc
  | i :: os, t, acc => go2 M F os (max t (valN F i) + at2 M i 1) (putKD acc (.inl i) (.int (max t (valN F i) + at2 M i 1)))
theorem hasI_put {acc : List (Key × D)} {k i x : Int} (h : i = k ∨ HasI acc i) : HasI (putKD acc (.inl k) (.int x)) i := by
  by_cases e : i = k
  · subst e
    exact hasI_of (x := x) (by rw [valD_put, if_pos rfl])
  · have h := h.resolve_left e
    refine hasI_of (x := valN acc i) ?_
    rw [valD_put, if_neg (fun z => e (Sum.inl.inj z))]
    exact h
theorem go1_has {M : List (List Int)} : ∀ {os : List Int} {t : Int} {acc : List (Key × D)} {i : Int}, i ∈ os ∨ HasI acc i → HasI (go1 M os t acc) i
  | [], _, _, _, h => h.resolve_left (by simp)
  | k :: os, t, acc, i, h => by
    unfold go1
    refine go1_has ?_
    rcases h with h | h
    · rcases List.mem_cons.mp h with h | h
      · exact .inr (hasI_put (.inl h))
      · exact .inl h
    · exact .inr (hasI_put (.inr h))
theorem go2_has {M : List (List Int)} {F : List (Key × D)} : ∀ {os : List Int} {t : Int} {acc : List (Key × D)} {i : Int}, i ∈ os ∨ HasI acc i → HasI (go2 M F os t acc) i
  | [], _, _, _, h => h.resolve_left (by simp)
  | k :: os, t, acc, i, h => by
    unfold go2
    refine go2_has ?_
    rcases h with h | h
    · rcases List.mem_cons.mp h with h | h
      · exact .inr (hasI_put (.inl h))
      · exact .inl h
    · exact .inr (hasI_put (.inr h))
def endsD (M : List (List Int)) (n : Nat) (os : List Int) : List D := (rngI n).map fun i => .tup [.int (valN (go1 M os 0 []) i), .int (valN (go2 M (go1 M os 0 []) os 0 []) i)]
def endsG (f0 : FV D) : FS := (sSeq (sParX [3, 4, 5] (xCons (fX fDct0) (xCons (fX fDct0) (xCons (fSh (fC (.int 0))) xNil))))
  (sSeq (sFor (fItems (fVar 1)) (bN 6) (sSeq (sSet 5 (fSh (f2 gAdd (fVarB 5) (f2 gIx (f2 gIx f0 (fVarB 6)) (fC (.int 0))))))
  (sPutD 3 (fVar 6) (fVar 5))))
  (sSeq (sSet 5 (fSh (fC (.int 0))))
  (sSeq (sFor (fItems (fVar 2)) (bN 6) (sSeq (sSet 5 (fSh (f2 gAdd (f2 gMax2 (fVarB 5) (f2 gDGet (fVarB 3) (fVarB 6))) (f2 gIx (f2 gIx f0 (fVarB 6)) (fC (.int 1))))))
  (sPutD 4 (fVar 6) (fVar 5))))
  (sRet (fComp [6] (fRgI (fRg1 (f1 gLen f0))) (bN 6) tfYes (fTup (aCons (f2 gDGet (fVarB 3) (fVarB 6)) (aCons (f2 gDGet (fVarB 4) (fVarB 6)) aNil)))))))))
@[simp] theorem v_max2 {i j : Int} : gMax2 (.int i) (.int j) = some (.int (max i j)) := by
  show some (D.int _) = _
  congr 2
theorem ends_ok {n : Nat} {M : List (List Int)} {os : List Int} {f0 : FV D} {x0 : D} {p : PenSt} (h : Rm n M) (hn : n ≤ 1000) (ho : os.Perm (rngI n)) (hf : ∀ (e : Env) (p : PenSt), e[0]? = some (.sh x0) → f0 e p = some (.tup (tupsOf M), p)) :
    mOf 7 (endsG f0) [x0, .tup (os.map D.int), .tup (os.map D.int)] p = some (.lst (endsD M n os), p) := by
  refine yes_eq (y_mOf.mpr ?_)
  have hlen : os.length = n := by rw [ho.length_eq, rngI_len]; omega
  have fy : ∀ (e : Env) (p : PenSt) (Q : D → PenSt → Prop), e[0]? = some (.sh x0) → Q (.tup (tupsOf M)) p → Yes (f0 e p) Q := fun e p Q he q => ⟨_, _, hf e p he, q⟩
  unfold endsG begin_
  refine s_seq.mpr ?_
  simp [setAll, toX]
  refine for_yes (I := fun rest e q => ∃ (os' : List Int) (t : Int) (acc : List (Key × D)) (s6 : Slot), rest = os'.map D.int ∧ e = [.sh x0, .sh (.tup (os.map D.int)), .sh (.tup (os.map D.int)), .od acc, .od [], .sh (.int t), s6] ∧ go1 M os' t acc = go1 M os 0 [] ∧ (∀ i ∈ os', 0 ≤ i ∧ i < n) ∧ acc.length + os'.length ≤ n ∧ p = q)
    ⟨os, 0, [], _, rfl, rfl, rfl, fun i hi => (in_rng ho).mp hi, by simp; omega, rfl⟩ ?_ ?_
  · rintro d rest e q ⟨os', t, acc, s6, hd, rfl, hg, hi, hl, rfl⟩
    cases os' with
    | nil => cases hd
    | cons i os' =>
      cases hd
      rw [t_name]
      refine ⟨by simp, ?_⟩
      simp only [List.set_cons_succ, List.set_cons_zero]
      refine s_seq.mpr ?_
      simp only [s_set_, y_sh, y_f2, y_varB, y_c, List.getElem?_cons_succ, List.getElem?_cons_zero, onBw_sh]
      refine fy _ _ _ rfl ?_
      obtain ⟨i0, i1⟩ := hi i List.mem_cons_self
      refine h.ix hn i0 i1 ?_
      simp only [ix_p0, yesO_some, v_addI]
      refine ⟨by simp, ?_⟩
      simp only [onNx_nx, List.set_cons_succ, List.set_cons_zero]
      refine s_putD_ ?_
      simp only [y_var, List.getElem?_cons_succ, List.getElem?_cons_zero, onSh_sh, key_i, yesO_some, onOd_od]
      have := put_len acc (.inl i) (.int (t + at2 M i 0))
      rw [List.length_cons] at hl
      exact ⟨by omega, os', _, _, _, rfl, rfl, hg, fun j hj => hi j (List.mem_cons_of_mem _ hj), by omega, by first | rfl | trivial⟩
  · rintro e q ⟨os', t, acc, s6, hd, rfl, hg, hi, hl, rfl⟩
    have e0 : os' = [] := by
      cases os' with
      | nil => rfl
      | cons a b => cases hd
    subst e0
    have hg : acc = go1 M os 0 [] := hg
    subst hg
    have has1 : ∀ i : Int, 0 ≤ i → i < n → HasI (go1 M os 0 []) i := fun i a b => go1_has (.inl ((in_rng ho).mpr ⟨a, b⟩))
    generalize hF : go1 M os 0 [] = F at has1 ⊢
    simp only [onNx_nx, List.set_cons_succ, List.set_cons_zero, List.getElem?_cons_succ, List.getElem?_cons_zero, onSh_sh, onSeq_t]
    refine ⟨by simp, ?_⟩
    refine for_yes (I := fun rest e q => ∃ (os' : List Int) (t : Int) (acc : List (Key × D)) (s6 : Slot), rest = os'.map D.int ∧ e = [.sh x0, .sh (.tup (os.map D.int)), .sh (.tup (os.map D.int)), .od F, .od acc, .sh (.int t), s6] ∧ go2 M F os' t acc = go2 M F os 0 [] ∧ (∀ i ∈ os', 0 ≤ i ∧ i < n) ∧ acc.length + os'.length ≤ n ∧ p = q)
      ⟨os, 0, [], _, rfl, rfl, rfl, fun i hi => (in_rng ho).mp hi, by simp; omega, rfl⟩ ?_ ?_
    · rintro d rest e q ⟨os', t2, acc, s6', hd, rfl, hg, hi, hl, rfl⟩
      cases os' with
      | nil => cases hd
      | cons i os' =>
        cases hd
        rw [t_name]
        refine ⟨by simp, ?_⟩
        simp only [List.set_cons_succ, List.set_cons_zero]
        refine s_seq.mpr ?_
        obtain ⟨i0, i1⟩ := hi i List.mem_cons_self
        simp only [s_set_, y_sh, y_f2, y_varB, y_c, List.getElem?_cons_succ, List.getElem?_cons_zero, onBw_sh, onBw_od]
        refine v_dget (has1 i i0 i1) ?_
        simp only [v_max2, yesO_some]
        refine fy _ _ _ rfl ?_
        refine h.ix hn i0 i1 ?_
        simp only [ix_p1, yesO_some, v_addI]
        refine ⟨by simp, ?_⟩
        simp only [onNx_nx, List.set_cons_succ, List.set_cons_zero]
        refine s_putD_ ?_
        simp only [y_var, List.getElem?_cons_succ, List.getElem?_cons_zero, onSh_sh, key_i, yesO_some, onOd_od]
        have := put_len acc (.inl i) (.int (max t2 (valN F i) + at2 M i 1))
        rw [List.length_cons] at hl
        exact ⟨by omega, os', _, _, _, rfl, rfl, hg, fun j hj => hi j (List.mem_cons_of_mem _ hj), by omega, by first | rfl | trivial⟩
    · rintro e q ⟨os', t2, acc, s6', hd, rfl, hg, hi, hl, rfl⟩
      have e0 : os' = [] := by
        cases os' with
        | nil => rfl
        | cons a b => cases hd
      subst e0
      have hg : acc = go2 M F os 0 [] := hg
      subst hg
      have has2 : ∀ i : Int, 0 ≤ i → i < n → HasI (go2 M F os 0 []) i := fun i a b => go2_has (.inl ((in_rng ho).mpr ⟨a, b⟩))
      generalize hF2 : go2 M F os 0 [] = F2 at has2 ⊢
      simp only [onNx_nx]
      refine fy _ _ _ rfl ?_
      simp only [v_lenT, yesO_some, tupsOf_len, h.len, onInt_i]
      refine ⟨by omega, ?_⟩
      simp only [wipeE, List.set_cons_succ, List.set_cons_zero]
      rw [rngD_0]
      refine yes_map' (fun d => match d with | .int i => .tup [.int (valN F i), .int (valN F2 i)] | d => d) (fun d hd => ?_) ?_
      · obtain ⟨i, hi, rfl⟩ := List.mem_map.mp hd
        obtain ⟨i0, i1⟩ := rngI_mem.mp hi
        refine ⟨_, if_pos (by simp), ?_⟩
        simp only [List.set_cons_succ, List.set_cons_zero, y_tup, y_acons, y_anil, y_f2, y_varB, List.getElem?_cons_succ, List.getElem?_cons_zero, onBw_od, onBw_sh]
        refine v_dget (has1 i i0 i1) (v_dget (has2 i i0 i1) ?_)
        exact ⟨by simp, rfl, by first | rfl | trivial⟩
      · refine ⟨by simp; omega, ?_, rfl⟩
        rw [List.map_map]
        unfold endsD
        rw [hF, hF2]
        rfl
/-! ### the length -/
def lenP (M : List (List Int)) (n : Nat) (os : List Int) : Int := (maxI ((rngI n).map fun i => valN (go2 M (go1 M os 0 []) os 0 []) i)).getD 0
theorem v_max1 {ns : List Int} (h : ns ≠ []) : gMax1 (.lst (ns.map D.int)) = some (.int ((maxI ns).getD 0)) := by
  cases ns with
  | nil => exact absurd rfl h
  | cons x xs =>
    show (intsD ((x :: xs).map D.int)).bind (fun ns => (maxI ns).map D.int) = _
    rw [intsD_map]
    rfl
end Cr
/-! mirrors that k69 and k77 share -/
namespace Cm
open PySem L2 Cr
noncomputable section
def m_is_number : MF := mOf 1 ((sRet (fAnd (fCall m_is_whole (aCons (fVar 0) aNil)) (f2 gGe (fVarB 0) (fC (.int 0))))))
def m_is_lot : MF := mOf 4 ((sSeq (sIf (tfOr (tfNot (fTru (f1 (gIsi "tuple") (fVarB 1)))) (tfNot (fTru (f1 gAll (fComp [2] (fItems (fVarB 1)) (bN 2) tfYes (fCall m_is_index (aCons (fVar 2) (aCons (fVar 0) aNil)))))))) (sRet (fC (.bl false))) sNil)
  (sRet (f1 gAll (fComp [3] (fRgI (fRg1 (f2 gSub (f1 gLen (fVarB 1)) (fC (.int 1))))) (bN 3) tfYes (f2 gLt (f2 gIx (fVarB 1) (fVarB 3)) (f2 gIx (fVarB 1) (f2 gAdd (fVarB 3) (fC (.int 1))))))))))
def m_is_due_job : MF := mOf 1 ((sSeq (sIf (tfOr (tfNot (fTru (f1 (gIsi "tuple") (fVarB 0)))) (tfOr (fBl (f2 gNe (f1 gLen (fVarB 0)) (fC (.int 2)))) (tfOr (tfNot (fTru (fCall m_is_whole (aCons (f2 gIx (fVarB 0) (fC (.int 0))) aNil)))) (tfNot (fTru (fCall m_is_number (aCons (f2 gIx (fVarB 0) (fC (.int 1))) aNil))))))) (sRet (fC (.bl false))) sNil)
  (sRet (fAnd (fChain gLe gLe (fC (.int 1)) (f2 gIx (fVarB 0) (fC (.int 0))) (fC (.int 1000000))) (f2 gLe (f2 gIx (fVarB 0) (fC (.int 1))) (fC (.int 10000000)))))))
def m_lots_by : MF := mOf 4 ((sSeq (sSet 1 (fSh (fLst (aCons (fTup aNil) aNil))))
  (sSeq (sFor (fRgI (fRg1 (fVar 0))) (bN 2) (sSet 1 (fSh (f2 gAdd (fVarB 1) (fComp [3] (fItems (fVarB 1)) (bN 3) tfYes (fTup (aStar (fVarB 3) (aCons (fVar 2) aNil))))))))
  (sRet (f1 gSorted (fVarB 1))))))
def m__law_drawn_dues : MF := mOf 10 ((sSeq (sParX [2, 3, 4, 5] (xCons (fSh (f2 gAdd (fC (.int 1)) (fCall m__law_draw (aCons (fVar 0) (aCons (fVar 1) aNil))))) (xCons (fSh (fCall m__law_draw (aCons (fVar 0) (aCons (fC (.int 4)) aNil)))) (xCons (fX (fLst aNil)) (xCons (fSh (fC (.int 0))) xNil)))))
  (sSeq (sSet 6 (fSh (fCall m__law_pick (aCons (fVar 0) (aCons (fLst (aCons (fC (.int 3)) (aCons (fC (.int 9)) (aCons (fC (.int 1000000)) aNil)))) aNil)))))
  (sSeq (sFor (fRgI (fRg1 (fVar 2))) (bN 7) (sSeq (sSet 8 (fSh (f2 gAdd (fC (.int 1)) (fCall m__law_draw (aCons (fVar 0) (aCons (fVar 6) aNil))))))
  (sSeq (sSet 5 (fSh (f2 gAdd (fVarB 5) (fVarB 8))))
  (sSeq (sSet 9 (fSh (f2 gIx (fLst (aCons (fCall m__law_draw (aCons (fVar 0) (aCons (f2 gAdd (f2 gMul (fC (.int 2)) (fVarB 5)) (fC (.int 1))) aNil))) (aCons (fVar 5) (aCons (fCall m__law_draw (aCons (fVar 0) (aCons (fC (.int 4)) aNil))) (aCons (f2 gMax2 (fC (.int 0)) (f2 gSub (f2 gSub (fVarB 5) (fC (.int 1))) (fCall m__law_draw (aCons (fVar 0) (aCons (fVar 8) aNil))))) aNil))))) (fVarB 3))))
  (sMut1 4 uApp (fTup (aCons (fVar 8) (aCons (f2 gMin2 (fC (.int 9000000)) (fVarB 9)) aNil))))))))
  (sFz 4 (sRet (f1 gTuple (fCall m__law_shuffled (aCons (fVar 0) (aCons (fVar 4) aNil))))))))))
def m__law_by_dues : MF := mOf 2 ((sRet (f1 gTuple (fSortK 1 (fLstRg (fRg1 (f1 gLen (fVarB 0)))) (f2 gIx (f2 gIx (fVarB 0) (fVarB 1)) (fC (.int 1)))))))
end
end Cm
/-! ## jobs with due times: drawn, in the order of their due times -/
namespace Cr
open PySem L2
/-- jobs: a length, a due time -/
structure Du (n : Nat) (M : List (List Int)) : Prop where
  len : M.length = n
  row : ∀ r ∈ M, ∃ a b : Int, r = [a, b] ∧ (1 ≤ a ∧ a ≤ 1000000) ∧ (0 ≤ b ∧ b ≤ 9000000)
theorem Du.get {n : Nat} {M : List (List Int)} (h : Du n M) {i : Int} (h0 : 0 ≤ i) (h1 : i < n) : M[i.toNat]? = some [at2 M i 0, at2 M i 1] ∧ (1 ≤ at2 M i 0 ∧ at2 M i 0 ≤ 1000000) ∧ (0 ≤ at2 M i 1 ∧ at2 M i 1 ≤ 9000000) := by
  have hl : i.toNat < M.length := by rw [h.len]; omega
  obtain ⟨a, b, e, ha, hb⟩ := h.row _ (List.getElem_mem hl)
  have e2 : M[i.toNat]? = some [a, b] := by rw [List.getElem?_eq_getElem hl, e]
  have ea : at2 M i 0 = a := by unfold at2; rw [e2]; rfl
  have eb : at2 M i 1 = b := by unfold at2; rw [e2]; rfl
  rw [ea, eb]
  exact ⟨e2, ha, hb⟩
theorem Du.ix {n : Nat} {M : List (List Int)} (h : Du n M) (hn : n ≤ 1000) {i : Int} (h0 : 0 ≤ i) (h1 : i < n) {Q : D → Prop} (q : Q (.tup [.int (at2 M i 0), .int (at2 M i 1)])) : YesO (gIx (.tup (tupsOf M)) (.int i)) Q := by
  obtain ⟨e, _⟩ := h.get h0 h1
  rw [ix_toNat h0]
  exact ⟨_, (v_ix (by unfold tupsOf; rw [List.getElem?_map, e]; rfl) (by rw [tupsOf_len, h.len]; omega)).2, q⟩
def dueP (M : List (List Int)) (n : Nat) : List Int := kSort ((rngI n).map fun i => at2 M i 1) (rngI n)
theorem dueP_perm (M : List (List Int)) (n : Nat) : (dueP M n).Perm (rngI n) := kSort_perm (by simp)
theorem law_due_eq {n : Nat} {M : List (List Int)} {p : PenSt} (h : Du n M) (hn : n ≤ 1000) : Cm.m__law_by_dues [.tup (tupsOf M)] p = some (.tup ((dueP M n).map D.int), p) := by
  refine yes_eq (y_mOf.mpr ?_)
  unfold begin_
  rw [s_ret_, y_f1]
  refine y_sortK ?_
  simp only [y_lstRg, y_rg1, y_f1, y_varB, List.map_cons, List.map_nil, List.cons_append, List.nil_append, List.getElem?_cons_zero, onBw_sh, v_lenT, yesO_some, onInt_i, tupsOf_len, h.len]
  refine ⟨rgOk_0 (by omega) (by omega), rngI n, (rngI n).map fun i => at2 M i 1, p, by rw [rngD_0], keys_map fun i hi => yes_eq ?_, by rw [rngI_len]; omega, ?_⟩
  · obtain ⟨i0, i1⟩ := rngI_mem.mp hi
    simp only [y_f2, y_varB, y_c]
    simp
    refine h.ix hn i0 i1 ?_
    simp
  · simp only [v_tupleL, yesO_some]
    exact ⟨rfl, by first | rfl | trivial⟩
end Cr
namespace Cr
open PySem L2
def DuR (r : D) : Prop := ∃ a b : Int, r = .tup [.int a, .int b] ∧ (1 ≤ a ∧ a ≤ 1000000) ∧ (0 ≤ b ∧ b ≤ 9000000)
theorem rows_ofD : ∀ {rs : List D}, (∀ r ∈ rs, DuR r) → ∃ M : List (List Int), rs = tupsOf M ∧ Du rs.length M
  | [], _ => ⟨[], rfl, rfl, fun r h => by cases h⟩
  | r :: rs, h => by
    obtain ⟨a, b, rfl, ha, hb⟩ := h r List.mem_cons_self
    obtain ⟨M, e, hm⟩ := rows_ofD (rs := rs) fun x hx => h x (List.mem_cons_of_mem _ hx)
    refine ⟨[a, b] :: M, by rw [e]; rfl, by rw [List.length_cons, List.length_cons, hm.len], fun r hr => ?_⟩
    rcases List.mem_cons.mp hr with rfl | hr
    · exact ⟨a, b, rfl, ha, hb⟩
    · exact hm.row r hr
theorem ix4 {a b c d : D} {w : Int} (h0 : 0 ≤ w) (h1 : w < 4) {Q : D → Prop} (ha : Q a) (hb : Q b) (hc : Q c) (hd : Q d) : YesO (gIx (.lst [a, b, c, d]) (.int w)) Q := by
  rw [ix_toNat h0]
  have hw : w.toNat < 4 := by omega
  match w.toNat, hw with
  | 0, _ => exact ⟨a, (v_ix (ds := [a, b, c, d]) rfl (by simp)).1, ha⟩
  | 1, _ => exact ⟨b, (v_ix (ds := [a, b, c, d]) rfl (by simp)).1, hb⟩
  | 2, _ => exact ⟨c, (v_ix (ds := [a, b, c, d]) rfl (by simp)).1, hc⟩
  | 3, _ => exact ⟨d, (v_ix (ds := [a, b, c, d]) rfl (by simp)).1, hd⟩
theorem v_min2' {i j : Int} : gMin2 (.int i) (.int j) = some (.int (min i j)) := rfl
theorem drawn_dues_ok {p : PenSt} {most : Nat} {Q : D → PenSt → Prop} (hp : p.Ok) (m0 : 0 < most) (m1 : most ≤ 10) (k : ∀ (n : Nat) (M : List (List Int)) p', 1 ≤ n → n ≤ most → Du n M → p'.Ok → Q (.tup (tupsOf M)) p') : Yes (Cm.m__law_drawn_dues [.pen, .int most] p) Q := by
  unfold Cm.m__law_drawn_dues
  rw [y_mOf]
  unfold begin_
  refine s_seq.mpr ?_
  simp only [s_parX_, y_xcons, y_xnil, y_sh, y_x, y_f2, y_c, y_call, y_acons, y_anil, y_var, y_lst, List.map_cons, List.map_nil, List.cons_append, List.nil_append, List.getElem?_cons_succ, List.getElem?_cons_zero, onSh_sh]
  refine draw_ok hp (by omega) (by omega) fun r p1 r0 r1 ok1 _ => ?_
  simp only [v_addI, yesO_some]
  refine draw_ok ok1 (by decide) (by decide) fun way p2 w0 w1 ok2 _ => ?_
  refine ⟨by simp, ?_⟩
  simp [setAll, toX]
  refine pick_ok ok2 (by simp) (by simp) fun far p3 hfar ok3 _ => ?_
  have hf : ∃ f : Int, far = .int f ∧ 0 < f ∧ f ≤ 1000000 := by
    simp at hfar
    rcases hfar with rfl | rfl | rfl
    · exact ⟨_, rfl, by decide, by decide⟩
    · exact ⟨_, rfl, by decide, by decide⟩
    · exact ⟨_, rfl, by decide, by decide⟩
  obtain ⟨f, rfl, f0, f1⟩ := hf
  refine ⟨by omega, ?_⟩
  refine for_yes (I := fun rest e q => ∃ (acc : List D) (t : Int) (s7 s8 s9 : Slot), e = [.sh .pen, .sh (.int most), .sh (.int (1 + r)), .sh (.int way), .ow acc, .sh (.int t), .sh (.int f), s7, s8, s9] ∧ (∀ x ∈ acc, DuR x) ∧ acc.length + rest.length = (1 + r).toNat ∧ 0 ≤ t ∧ t ≤ 1000001 * (acc.length : Int) ∧ q.Ok)
    ⟨[], 0, _, _, _, rfl, fun x hx => (by cases hx), by rw [rng_len]; simp, by omega, by simp, ok3⟩ ?_ ?_
  · rintro d rest e q ⟨acc, t, s7, s8, s9, rfl, hacc, hlen, t0, t1, hq⟩
    rw [List.length_cons] at hlen
    rw [t_name]
    refine ⟨by simp, ?_⟩
    simp only [List.set_cons_succ, List.set_cons_zero]
    refine s_seq.mpr ?_
    rw [s_set_]
    simp only [y_sh, y_f2, y_c, y_call, y_acons, y_anil, y_var, List.getElem?_cons_succ, List.getElem?_cons_zero, onSh_sh]
    refine draw_ok hq f0 (by omega) fun x p4 x0 x1 ok4 _ => ?_
    simp only [v_addI, yesO_some]
    refine ⟨by simp, ?_⟩
    simp only [onNx_nx, List.set_cons_succ, List.set_cons_zero]
    refine s_seq.mpr ?_
    rw [s_set_]
    simp only [y_sh, y_f2, y_varB, List.getElem?_cons_succ, List.getElem?_cons_zero, onBw_sh, v_addI, yesO_some]
    refine ⟨by simp, ?_⟩
    simp only [onNx_nx, List.set_cons_succ, List.set_cons_zero]
    generalize hT : t + (1 + x) = T
    have hT0 : 1 ≤ T := by omega
    have hT1 : T ≤ 1000001 * ((acc.length : Int) + 1) := by omega
    have hT2 : T ≤ 20000000 := by omega
    refine s_seq.mpr ?_
    rw [s_set_]
    simp only [y_sh, y_f2, y_lst, y_acons, y_anil, y_call, y_c, y_var, y_varB, List.getElem?_cons_succ, List.getElem?_cons_zero, onSh_sh, onBw_sh, v_mul, yesO_some, v_addI]
    refine ⟨by rw [in64_ok (i := 2) (by omega)]; rfl, ?_⟩
    refine draw_ok ok4 (by omega) (by omega) fun a p5 a0 a1 ok5 _ => ?_
    refine draw_ok ok5 (by decide) (by decide) fun b p6 b0 b1 ok6 _ => ?_
    simp only [v_subI, yesO_some]
    refine draw_ok ok6 (by omega) (by omega) fun c p7 c0 c1 ok7 _ => ?_
    simp only [v_subI, v_max2, yesO_some]
    refine ⟨by simp, ?_⟩
    refine ix4 w0 w1 ?_ ?_ ?_ ?_
    all_goals
      refine ⟨by simp, ?_⟩
      simp only [onNx_nx, List.set_cons_succ, List.set_cons_zero]
      rw [s_mut1_]
      simp only [y_tup, y_acons, y_anil, y_f2, y_c, y_var, y_varB, List.getElem?_cons_succ, List.getElem?_cons_zero, onSh_sh, onBw_sh, v_min2', yesO_some, onOw_ow]
      refine ⟨by simp, ?_⟩
      refine ⟨_, if_pos (by omega), ?_⟩
      refine ⟨_, T, _, _, _, rfl, fun y hy => ?_, by rw [List.length_append]; simp; omega, by omega, by rw [List.length_append]; simp; omega, ok7⟩
      rcases List.mem_append.mp hy with hy | hy
      · exact hacc y hy
      · rw [List.mem_singleton] at hy
        exact ⟨_, _, hy, by omega, by omega⟩
  · rintro e q ⟨acc, t, s7, s8, s9, rfl, hacc, hlen, t0, t1, hq⟩
    simp only [onNx_nx, List.getElem?_cons_succ, List.getElem?_cons_zero, onSh_sh, List.set_cons_succ, List.set_cons_zero]
    simp at hlen
    refine shuffled_ok hq (by omega) fun es p4 hes ok4 _ => ?_
    simp only [v_tupleL, yesO_some]
    obtain ⟨M, rfl, hm⟩ := rows_ofD fun x hx => hacc x (hes.mem_iff.mp hx)
    have := hes.length_eq
    rw [tupsOf_len] at this hm
    exact k _ M p4 (by omega) (by omega) hm ok4
end Cr
/-! ## lots, latenesses, bounds -/
namespace Cr
open PySem L2
/-- neighbours in order, by places -/
theorem asc_at : ∀ ns : List Int, ((List.range (ns.length - 1)).all fun i => decide ((ns[i]?).getD 0 < (ns[i + 1]?).getD 0)) = ascB ns
  | [] => rfl
  | [x] => rfl
  | x :: y :: r => by
    have ih := asc_at (y :: r)
    have e : (x :: y :: r).length - 1 = ((y :: r).length - 1) + 1 := by simp
    rw [e, List.range_succ_eq_map, List.all_cons, List.all_map]
    have e2 : ascB (x :: y :: r) = (decide (x < y) && ascB (y :: r)) := rfl
    rw [e2, ← ih]
    rfl
theorem v_allB3 (ds : List D) (t : D → Bool) : gAll (.lst (ds.map fun d => .bl (t d))) = some (.bl (ds.all t)) := by
  have e2 : (ds.map fun d => D.bl (t d)) = (ds.map t).map D.bl := by rw [List.map_map]; rfl
  rw [e2]
  show (blsD ((ds.map t).map D.bl)).map (fun bs => D.bl (bs.all id)) = _
  rw [blsD_map]
  simp [List.all_map]
theorem all_idx {n : Int} : ∀ {ds : List D}, ds.all (isIdx n) = true → ∃ ns : List Int, ds = ns.map D.int ∧ ns.all (fun i => decide (0 ≤ i) && decide (i < n)) = true
  | [], _ => ⟨[], rfl, rfl⟩
  | d :: ds, h => by
    rw [List.all_cons, Bool.and_eq_true] at h
    obtain ⟨ns, rfl, h2⟩ := all_idx h.2
    cases d with
    | int i => exact ⟨i :: ns, rfl, by rw [List.all_cons, h2]; simpa [isIdx] using h.1⟩
    | _ => cases h.1
theorem not_idx {n : Int} : ∀ {ds : List D}, ds.all (isIdx n) = false → isLot n (.tup ds) = false := fun {ds} h => by
  unfold isLot
  cases hi : intsD ds with
  | none => simp [hi]
  | some ns =>
    have e := intsD_some hi
    subst e
    have e2 : (ns.map D.int).all (isIdx n) = ns.all fun i => decide (0 ≤ i) && decide (i < n) := by
      rw [List.all_map]
      rfl
    rw [e2] at h
    simp [intsD_map, h]
theorem is_lot_eq {d : D} {n : Int} {p : PenSt} (h : pln d 50 = true) : Cm.m_is_lot [.int n, d] p = some (.bl (isLot n d), p) := by
  refine yes_eq (y_mOf.mpr ?_)
  unfold begin_
  refine s_seq.mpr ?_
  cases d with
  | tup ds =>
    obtain ⟨hl, hd⟩ := pln_t.mp h
    simp [gIsi, isT, tyD, wipeE]
    refine yes_map' (fun d => .bl (isIdx n d)) (fun d hd' => ⟨_, rfl, ?_⟩) ?_
    · simp
      exact eq_yes (index_eq (hd d hd')) ⟨rfl, rfl⟩
    · rw [v_allB3]
      refine ⟨by rw [List.length_map]; omega, ?_⟩
      simp only [yesO_some, v_truB]
      cases ha : ds.all (isIdx n) with
      | false => simp [not_idx ha]
      | true =>
        obtain ⟨ns, rfl, hn⟩ := all_idx ha
        rw [List.length_map] at hl
        simp
        have e1 : isLot n (.tup (ns.map D.int)) = ascB ns := by
          unfold isLot
          simp only [intsD_map, hn, Bool.true_and]
        rw [e1]
        have e2 : rngD 0 ((ns.length : Int) - 1) = rngD 0 ((ns.length - 1 : Nat) : Int) := by
          unfold rngD
          congr 2
          omega
        refine ⟨by omega, ?_⟩
        rw [e2]
        refine yes_map' (fun d => match d with | .int i => .bl (decide ((ns[i.toNat]?).getD 0 < (ns[i.toNat + 1]?).getD 0)) | d => d) (fun d hd' => ?_) ?_
        · obtain ⟨i, rfl, hi⟩ := mem_rngD hd'
          refine ⟨_, rfl, ?_⟩
          have l1 : i < ns.length := by omega
          have l2 : i + 1 < ns.length := by omega
          have g1 := (v_ix (ds := ns.map D.int) (n := i) (d := .int ns[i]) (by rw [List.getElem?_map, List.getElem?_eq_getElem l1]; rfl) (by rw [List.length_map]; omega)).2
          have g2 := (v_ix (ds := ns.map D.int) (n := i + 1) (d := .int ns[i + 1]) (by rw [List.getElem?_map, List.getElem?_eq_getElem l2]; rfl) (by rw [List.length_map]; omega)).2
          have ce : ((i : Nat) : Int) + 1 = ((i + 1 : Nat) : Int) := by omega
          simp only [y_f2, y_varB, y_c, List.replicate, List.set_cons_succ, List.set_cons_zero, List.getElem?_cons_succ, List.getElem?_cons_zero, onBw_sh, g1, v_addI, yesO_some, ce, g2, v_lt]
          have q1 : (ns[((i : Nat) : Int).toNat]?).getD 0 = ns[i] := by simp [l1]
          have q2 : (ns[((i : Nat) : Int).toNat + 1]?).getD 0 = ns[i + 1] := by simp [l2]
          simp only [q1, q2]
          exact ⟨by first | rfl | trivial, by first | rfl | trivial⟩
        · have e3 : (rngD 0 ((ns.length - 1 : Nat) : Int)).map (fun d => match d with | .int i => D.bl (decide ((ns[i.toNat]?).getD 0 < (ns[i.toNat + 1]?).getD 0)) | d => d) = ((List.range (ns.length - 1)).map fun i => decide ((ns[i]?).getD 0 < (ns[i + 1]?).getD 0)).map D.bl := by
            unfold rngD
            rw [List.map_map, List.map_map]
            simp
          rw [e3]
          refine ⟨by simp; omega, ?_⟩
          have e4 : gAll (.lst (((List.range (ns.length - 1)).map fun i => decide ((ns[i]?).getD 0 < (ns[i + 1]?).getD 0)).map D.bl)) = some (.bl (ascB ns)) := by
            show (blsD _).map (fun bs => D.bl (bs.all id)) = _
            rw [blsD_map]
            simp only [Option.map_some, List.all_map]
            rw [← asc_at ns]
            rfl
          rw [e4]
          simp
  | _ => first | (cases h; done) | simp [gIsi, isT, tyD, isLot]
end Cr
/-! ## latenesses, a lot's bound -/
namespace Cr
open PySem L2
theorem s_setIx_ {i : Nat} {fk fv : FV D} {env : Env} {p : PenSt} {R : Out → Prop} (h : Yes (fv env p) fun d p => Yes (fk env p) fun k p => onInt k fun k => onOw env[i]? fun ds => YesO (ixN ds.length k) fun j => R (.nx (env.set i (.ow (ds.set j d))) p)) : YesS (sSetIx i fk fv env p) R := by
  obtain ⟨d, p1, h1, k, p2, h2, h⟩ := h
  cases k <;> first | exact h.elim | skip
  rename_i k
  have h : onOw env[i]? fun ds => YesO (ixN ds.length k) fun j => R (.nx (env.set i (.ow (ds.set j d))) p2) := h
  unfold sSetIx
  rw [h1]
  simp only [h2]
  unfold onOw at h
  split at h
  · rename_i ds he
    obtain ⟨j, hj, q⟩ := h
    simp only [he, hj]
    exact ⟨_, rfl, q⟩
  · exact h.elim
def goL (M : List (List Int)) : List Int → Int → List Int → List Int
  | [], _, acc => acc
  | i :: os, t, acc => goL M os (t + at2 M i 0) (acc.set i.toNat (t + at2 M i 0 - at2 M i 1))
theorem goL_len (M : List (List Int)) : ∀ (os : List Int) (t : Int) (acc : List Int), (goL M os t acc).length = acc.length
  | [], _, _ => rfl
  | i :: os, t, acc => by
    unfold goL
    rw [goL_len M os, List.length_set]
def lateP (M : List (List Int)) (n : Nat) (os : List Int) : List Int := goL M os 0 (List.replicate n 0)
def lateG (f0 : FV D) : FS := (sSeq (sParX [2, 3] (xCons (fX (f2 gMul (fLst (aCons (fC (.int 0)) aNil)) (f1 gLen f0))) (xCons (fSh (fC (.int 0))) xNil)))
  (sSeq (sFor (fItems (fVar 1)) (bN 4) (sSeq (sSet 3 (fSh (f2 gAdd (fVarB 3) (f2 gIx (f2 gIx f0 (fVarB 4)) (fC (.int 0))))))
  (sSetIx 2 (fVar 4) (f2 gSub (fVarB 3) (f2 gIx (f2 gIx f0 (fVarB 4)) (fC (.int 1)))))))
  (sRet (fVarB 2))))
theorem late_ok {n : Nat} {M : List (List Int)} {os : List Int} {f0 : FV D} {x0 : D} {p : PenSt} (h : Du n M) (hn : n ≤ 999) (ho : os.Perm (rngI n)) (hf : ∀ (e : Env) (p : PenSt), e[0]? = some (.sh x0) → f0 e p = some (.tup (tupsOf M), p)) :
    mOf 5 (lateG f0) [x0, .tup (os.map D.int)] p = some (.lst ((lateP M n os).map D.int), p) := by
  refine yes_eq (y_mOf.mpr ?_)
  have fy : ∀ (e : Env) (p : PenSt) (Q : D → PenSt → Prop), e[0]? = some (.sh x0) → Q (.tup (tupsOf M)) p → Yes (f0 e p) Q := fun e p Q he q => ⟨_, _, hf e p he, q⟩
  unfold lateG begin_
  refine s_seq.mpr ?_
  simp only [s_parX_, y_xcons, y_xnil, y_sh, y_x, y_f2, y_f1, y_c, y_lst, y_acons, y_anil, List.map_cons, List.map_nil, List.cons_append, List.nil_append]
  refine ⟨by simp, ?_⟩
  refine fy _ _ _ rfl ?_
  simp only [v_lenT, yesO_some, tupsOf_len, h.len]
  refine v_mulL (by simp; omega) (by omega) ?_
  have er : (List.replicate n [D.int 0]).flatten = (List.replicate n (0 : Int)).map D.int := by
    rw [List.map_replicate]
    exact List.flatten_replicate_singleton ..
  rw [er]
  simp [setAll, toX]
  refine for_yes (I := fun rest e q => ∃ (os' : List Int) (t : Int) (acc : List Int) (s4 : Slot), rest = os'.map D.int ∧ e = [.sh x0, .sh (.tup (os.map D.int)), .ow (acc.map D.int), .sh (.int t), s4] ∧ goL M os' t acc = lateP M n os ∧ (∀ i ∈ os', 0 ≤ i ∧ i < n) ∧ acc.length = n ∧ p = q)
    ⟨os, 0, List.replicate n 0, .no, rfl, by simp, rfl, fun i hi => (in_rng ho).mp hi, by simp, rfl⟩ ?_ ?_
  · rintro d rest e q ⟨os', t, acc, s4, hd, rfl, hg, hi, hl, rfl⟩
    cases os' with
    | nil => cases hd
    | cons i os' =>
      cases hd
      obtain ⟨i0, i1⟩ := hi i List.mem_cons_self
      rw [t_name]
      refine ⟨by simp, ?_⟩
      simp only [List.set_cons_succ, List.set_cons_zero]
      refine s_seq.mpr ?_
      rw [s_set_]
      simp only [y_sh, y_f2, y_varB, y_c, List.getElem?_cons_succ, List.getElem?_cons_zero, onBw_sh]
      refine fy _ _ _ rfl ?_
      refine h.ix (by omega) i0 i1 ?_
      simp only [ix_p0, yesO_some, v_addI]
      refine ⟨by simp, ?_⟩
      simp only [onNx_nx, List.set_cons_succ, List.set_cons_zero]
      refine s_setIx_ ?_
      simp only [y_f2, y_varB, y_var, y_c, List.getElem?_cons_succ, List.getElem?_cons_zero, onBw_sh, onSh_sh]
      refine fy _ _ _ rfl ?_
      refine h.ix (by omega) i0 i1 ?_
      simp only [ix_p1, yesO_some, v_subI, onInt_i, onOw_ow]
      rw [ix_set i0 (by rw [List.length_map, hl]; exact i1)]
      simp only [yesO_some]
      refine ⟨os', _, acc.set i.toNat (t + at2 M i 0 - at2 M i 1), .sh (.int i), rfl, ?_, hg, fun j hj => hi j (List.mem_cons_of_mem _ hj), by rw [List.length_set]; exact hl, by first | rfl | trivial⟩
      simp [List.map_set]
  · rintro e q ⟨os', t, acc, s4, hd, rfl, hg, hi, hl, rfl⟩
    have e0 : os' = [] := by
      cases os' with
      | nil => rfl
      | cons a b => cases hd
    subst e0
    have hg : acc = lateP M n os := hg
    subst hg
    simp
/-! ### a lot's bound -/
def boundP (M : List (List Int)) (ls : List Int) : Int := (ls.map fun i => at2 M i 0).sum - (maxI (ls.map fun i => at2 M i 1)).getD 0
def boundG (f0 : FV D) : FS := (sRet (f2 gSub (f1 gSum (fComp [2] (fItems (fVarB 1)) (bN 2) tfYes (f2 gIx (f2 gIx f0 (fVarB 2)) (fC (.int 0))))) (f1 gMax1 (fComp [2] (fItems (fVarB 1)) (bN 2) tfYes (f2 gIx (f2 gIx f0 (fVarB 2)) (fC (.int 1)))))))
theorem bound_ok {n : Nat} {M : List (List Int)} {ls : List Int} {f0 : FV D} {x0 : D} {p : PenSt} (h : Du n M) (hn : n ≤ 999) (hl : ∀ i ∈ ls, 0 ≤ i ∧ i < n) (h0 : ls ≠ []) (hz : ls.length ≤ 65536) (hf : ∀ (e : Env) (p : PenSt), e[0]? = some (.sh x0) → f0 e p = some (.tup (tupsOf M), p)) :
    mOf 3 (boundG f0) [x0, .tup (ls.map D.int)] p = some (.int (boundP M ls), p) := by
  refine yes_eq (y_mOf.mpr ?_)
  have fy : ∀ (e : Env) (p : PenSt) (Q : D → PenSt → Prop), e[0]? = some (.sh x0) → Q (.tup (tupsOf M)) p → Yes (f0 e p) Q := fun e p Q he q => ⟨_, _, hf e p he, q⟩
  unfold boundG begin_
  simp only [s_ret_, y_f2, y_f1, y_comp, y_items, y_varB, List.map_cons, List.map_nil, List.cons_append, List.nil_append, List.getElem?_cons_succ, List.getElem?_cons_zero, onBw_sh, onSeq_t]
  refine yes_map' (fun d => match d with | .int i => .int (at2 M i 0) | d => d) (fun d hd => ?_) ?_
  · obtain ⟨i, hi, rfl⟩ := List.mem_map.mp hd
    refine ⟨_, rfl, ?_⟩
    simp only [y_f2, y_varB, y_c]
    refine fy _ _ _ rfl ?_
    simp [wipeE]
    refine h.ix (by omega) (hl i hi).1 (hl i hi).2 ?_
    simp
  · have e1 : (ls.map D.int).map (fun d => match d with | .int i => .int (at2 M i 0) | d => d) = (ls.map fun i => at2 M i 0).map D.int := by
      rw [List.map_map, List.map_map]
      rfl
    rw [e1]
    refine ⟨by simp; omega, ?_⟩
    have gs : gSum (.lst ((ls.map fun i => at2 M i 0).map D.int)) = some (.int (ls.map fun i => at2 M i 0).sum) := by
      show (intsD _).map (fun ns => D.int ns.sum) = _
      rw [intsD_map]
      rfl
    rw [gs]
    simp only [yesO_some]
    refine yes_map' (fun d => match d with | .int i => .int (at2 M i 1) | d => d) (fun d hd => ?_) ?_
    · obtain ⟨i, hi, rfl⟩ := List.mem_map.mp hd
      refine ⟨_, rfl, ?_⟩
      simp only [y_f2, y_varB, y_c]
      refine fy _ _ _ rfl ?_
      simp [wipeE]
      refine h.ix (by omega) (hl i hi).1 (hl i hi).2 ?_
      simp
    · have e2 : (ls.map D.int).map (fun d => match d with | .int i => .int (at2 M i 1) | d => d) = (ls.map fun i => at2 M i 1).map D.int := by
        rw [List.map_map, List.map_map]
        rfl
      rw [e2]
      refine ⟨by simp; omega, ?_⟩
      rw [v_max1 (fun z => h0 (List.map_eq_nil_iff.mp z))]
      simp only [yesO_some, v_subI]
      exact ⟨rfl, by first | rfl | trivial⟩
end Cr
/-! orders as permutations, slices (the same lemmas as in L80c, L80f, L80g, for laws other than k80) -/
namespace Cr
open PySem L2
theorem cut_from {α : Type} (ds : List α) (m : Nat) : cutD ds (some (m : Int)) none = ds.drop m := by
  unfold cutD HT.sIx
  have h0 : ¬ ((m : Int) < 0) := by omega
  simp [h0]
  by_cases h : m ≤ ds.length
  · rw [Nat.min_eq_left h, List.take_of_length_le (by rw [List.length_drop]; exact Nat.le_refl _)]
  · rw [Nat.min_eq_right (by omega), List.drop_of_length_le (Nat.le_refl _), List.drop_of_length_le (by omega)]
    simp
theorem v_allB2 (ds : List D) (t : D → Bool) : gAll (.lst (ds.map fun d => .bl (t d))) = some (.bl (ds.all t)) := by
  have e2 : (ds.map fun d => D.bl (t d)) = (ds.map t).map D.bl := by rw [List.map_map]; rfl
  rw [e2]
  show (blsD ((ds.map t).map D.bl)).map (fun bs => D.bl (bs.all id)) = _
  rw [blsD_map]
  simp [List.all_map]
theorem enumD_drop (ds : List D) : ∀ (k : Nat) {d : D} {rest : List D}, ds.drop k = d :: rest → (enumD k (ds.drop k)) = .tup [.int (k : Nat), d] :: enumD (k + 1) (ds.drop (k + 1)) := fun k d rest h => by
  have e : ds.drop (k + 1) = rest := by
    rw [← List.drop_drop, h]
    rfl
  rw [h, e]
  rfl
theorem isOrd_perm {n : Nat} {os : List Int} (h : os.Perm (rngI n)) : isOrd n (.tup (os.map D.int)) = true := by
  unfold isOrd
  simp only [intsD_map]
  have e : isort os = rngI n := (isort_of (h.symm) (by
    unfold rngI
    rw [List.pairwise_map]
    have := List.pairwise_lt_range (n := ((n : Int)).toNat)
    exact this.imp fun {a b} h => by omega)).symm
  simp [e]
theorem perm_isOrd {n : Nat} {d : D} (h : isOrd n d = true) : ∃ os : List Int, d = .tup (os.map D.int) ∧ os.Perm (rngI n) := by
  unfold isOrd at h
  split at h
  · rename_i ds
    split at h
    · rename_i ns hi
      refine ⟨ns, by rw [intsD_some hi], ?_⟩
      have e : isort ns = rngI n := by simpa using h
      rw [← e]
      exact (isort_perm ns).symm
    · cases h
  · cases h
theorem perm_ordK (n : Int) : ∀ (k : Nat) (os : List Int), os.length = k → os.Nodup → (∀ i ∈ os, 0 ≤ i ∧ i < n) → os ∈ ordK n k
  | 0, os, h, _, _ => by
    have : os = [] := List.eq_nil_of_length_eq_zero h
    subst this
    exact List.mem_singleton.mpr rfl
  | k + 1, os, h, hd, hi => by
    have hne : os ≠ [] := fun z => by rw [z] at h; cases h
    have e : os.dropLast ++ [os.getLast hne] = os := List.dropLast_concat_getLast hne
    have hl : os.dropLast.length = k := by rw [List.length_dropLast]; omega
    rw [← e, List.nodup_append] at hd
    obtain ⟨d1, _, d2⟩ := hd
    have ih := perm_ordK n k os.dropLast hl d1 fun i hi' => hi i ((List.dropLast_sublist os).subset hi')
    show os ∈ ordS n (ordK n k)
    unfold ordS
    refine List.mem_flatMap.mpr ⟨_, ih, List.mem_map.mpr ⟨os.getLast hne, List.mem_filter.mpr ⟨rngI_mem.mpr (hi _ (List.getLast_mem hne)), ?_⟩, e⟩⟩
    simp only [decide_eq_true_eq]
    exact fun z => d2 _ z _ (List.mem_singleton.mpr rfl) rfl
theorem perm_of_sub : ∀ (l1 l2 : List Int), l1.Nodup → (∀ x ∈ l1, x ∈ l2) → l2.length ≤ l1.length → l1.Perm l2
  | [], l2, _, _, h => by
    have : l2 = [] := List.eq_nil_of_length_eq_zero (by simpa using h)
    rw [this]
  | x :: r, l2, hd, hs, hl => by
    obtain ⟨h1, h2⟩ := List.nodup_cons.mp hd
    have hx := hs x List.mem_cons_self
    refine ((perm_of_sub r (l2.erase x) h2 (fun y hy => (List.mem_erase_of_ne (fun z : y = x => h1 (z ▸ hy))).mpr (hs y (List.mem_cons_of_mem _ hy))) ?_).cons x).trans (List.perm_cons_erase hx).symm
    rw [List.length_erase_of_mem hx]
    rw [List.length_cons] at hl
    omega
theorem ordK_perm {n : Nat} {os : List Int} : os ∈ ordK n n ↔ os.Perm (rngI n) := by
  constructor
  · intro h
    obtain ⟨h1, h2, h3⟩ := ordK_ok n n os h
    exact perm_of_sub os (rngI n) h2 (fun i hi => rngI_mem.mpr (h3 i hi)) (by rw [rngI_len, h1]; omega)
  · intro h
    refine perm_ordK n n os (by rw [h.length_eq, rngI_len]; omega) (h.nodup_iff.mpr (rngI_nodup n)) fun i hi => rngI_mem.mp (h.mem_iff.mp hi)
theorem isi_pln {c : String} {d : D} {n : Nat} (h : pln d n = true) : gIsiC c d = some (.bl false) := by
  cases d <;> first | rfl | (cases n <;> cases h; done) | cases h
end Cr
/-! ## the lots but the first are not empty -/
namespace Cr
open PySem L2
theorem lotK_one : ∀ k : Nat, (lotK k).count [] = 1
  | 0 => rfl
  | k + 1 => by
    have ih := lotK_one k
    have e : lotK (k + 1) = lotK k ++ (lotK k).map fun r => r ++ [(k : Int)] := rfl
    rw [e, List.count_append, ih]
    have : ((lotK k).map fun r => r ++ [(k : Int)]).count [] = 0 := List.count_eq_zero.mpr fun h => by
      obtain ⟨r, _, e⟩ := List.mem_map.mp h
      simp at e
    omega
theorem lots_tail (k : Nat) : ∀ r ∈ (tsort (lotK k)).drop 1, r ≠ [] ∧ r ∈ lotK k := fun r hr => by
  have hp : (tsort (lotK k)).Perm (lotK k) := List.mergeSort_perm _ _
  have hm : r ∈ lotK k := hp.mem_iff.mp (List.mem_of_mem_drop hr)
  refine ⟨fun z => ?_, hm⟩
  subst z
  have hc : (tsort (lotK k)).count [] = 1 := by rw [hp.count_eq]; exact lotK_one k
  have hs := List.pairwise_mergeSort (le := fun x y : List Int => !HT.lexLt y x) (by
    intro x y z hxy hyz
    have h1 : HT.lexLt y x = false := by simpa using hxy
    have h2 : HT.lexLt z y = false := by simpa using hyz
    have := lx_tr _ _ _ h1 h2
    simp [this]) (by
    intro x y
    cases hb : HT.lexLt y x with
    | false => rfl
    | true => rw [lx_asym _ _ hb]; rfl) (lotK k)
  have hs : (tsort (lotK k)).Pairwise fun x y => (!HT.lexLt y x) = true := hs
  cases ht : tsort (lotK k) with
  | nil =>
    rw [ht] at hr
    cases hr
  | cons a t =>
    rw [ht] at hr hc hs
    have hr : [] ∈ t := hr
    have h1 := (List.pairwise_cons.mp hs).1 [] hr
    have ha : a = [] := by
      cases a with
      | nil => rfl
      | cons x y =>
        have e : HT.lexLt [] (x :: y) = true := rfl
        rw [e] at h1
        cases h1
    subst ha
    rw [List.count_cons_self] at hc
    have q : 0 < List.count [] t := List.count_pos_iff.mpr hr
    omega
/-- the lots but the empty one, whatever their order -/
theorem lots_tail_mem (k : Nat) (r : List Int) (h : r ∈ lotK k) (h0 : r ≠ []) : r ∈ (tsort (lotK k)).drop 1 := by
  have hp : (tsort (lotK k)).Perm (lotK k) := List.mergeSort_perm _ _
  have hr := hp.mem_iff.mpr h
  have he : [] ∈ tsort (lotK k) := hp.mem_iff.mpr (List.count_pos_iff.mp (by rw [lotK_one k]; decide))
  cases ht : tsort (lotK k) with
  | nil => rw [ht] at hr; cases hr
  | cons a t =>
    have tl := lots_tail k
    rw [ht] at hr he tl
    rcases List.mem_cons.mp hr with rfl | hr
    · rcases List.mem_cons.mp he with he | he
      · exact absurd he.symm h0
      · exact absurd rfl (tl [] he).1
    · exact hr
end Cr
namespace K69
open PySem L2 Cr
theorem x_draw : m__law_draw = Cm.m__law_draw := rfl
theorem x_pick : m__law_pick = Cm.m__law_pick := rfl
theorem x_shuffled : m__law_shuffled = Cm.m__law_shuffled := rfl
theorem x_drawn : m__law_drawn_dues = Cm.m__law_drawn_dues := rfl
theorem x_lby : m__law_by_dues = Cm.m__law_by_dues := rfl
theorem x_order : m_is_order = Cm.m_is_order := rfl
theorem x_lorder : m__law_is_order = Cm.m__law_is_order := rfl
theorem x_lot : m_is_lot = Cm.m_is_lot := rfl
theorem x_llot : m__law_is_lot = Cm.m__law_is_lot := rfl
theorem x_llots : m__law_all_lots = Cm.m__law_all_lots := rfl
theorem x_lots : m_lots_by = Cm.m_lots_by := rfl
theorem x_bent : m__law_bent_order = Cm.m__law_bent_order := rfl
theorem x_duejob : m_is_due_job = Cm.m_is_due_job := rfl
theorem x_as : m_as_tuples = Cm.m_as_tuples := by
  funext n
  induction n with
  | zero => rfl
  | succ n ih => unfold m_as_tuples Cm.m_as_tuples; rw [ih]
theorem x_is : m__law_is = Cm.m__law_is := by
  funext n
  induction n with
  | zero => rfl
  | succ n ih => unfold m__law_is Cm.m__law_is; rw [ih]
def DuO (M : List (List Int)) : D := .obj "Dues" [("rows", .tup (tupsOf M))]
theorem fld_rows {M : List (List Int)} : gFld clsL "rows" (DuO M) = some (.tup (tupsOf M)) := rfl
section
variable {n : Nat} {M : List (List Int)} {os ls : List Int} {p : PenSt}
theorem f_law {M : List (List Int)} : ∀ (e : Cr.Env) (p : PenSt), e[0]? = some (.sh (.tup (tupsOf M))) → fVarB 0 e p = some (.tup (tupsOf M), p) := fun e p he => by
  unfold fVarB
  rw [he]
theorem f_prg {M : List (List Int)} : ∀ (e : Cr.Env) (p : PenSt), e[0]? = some (.sh (DuO M)) → f1 (gFld clsL "rows") (fVarB 0) e p = some (.tup (tupsOf M), p) := fun e p he => yes_eq (by
  rw [y_f1, y_varB, he]
  simp [fld_rows])
theorem law_late_eq (h : Du n M) (hn : n ≤ 999) (ho : os.Perm (rngI n)) : m__law_late_row [.tup (tupsOf M), .tup (os.map D.int)] p = some (.lst ((lateP M n os).map D.int), p) := late_ok (f0 := fVarB 0) h hn ho f_law
theorem late_eq (h : Du n M) (hn : n ≤ 999) (ho : os.Perm (rngI n)) : m_latenesses_by [DuO M, .tup (os.map D.int)] p = some (.lst ((lateP M n os).map D.int), p) := late_ok (f0 := f1 (gFld clsL "rows") (fVarB 0)) h hn ho f_prg
theorem law_bound_eq (h : Du n M) (hn : n ≤ 999) (hl : ∀ i ∈ ls, 0 ≤ i ∧ i < n) (h0 : ls ≠ []) (hz : ls.length ≤ 65536) : m__law_lot_bound [.tup (tupsOf M), .tup (ls.map D.int)] p = some (.int (boundP M ls), p) := bound_ok (f0 := fVarB 0) h hn hl h0 hz f_law
theorem bound_eq (h : Du n M) (hn : n ≤ 999) (hl : ∀ i ∈ ls, 0 ≤ i ∧ i < n) (h0 : ls ≠ []) (hz : ls.length ≤ 65536) : m_bound_by [DuO M, .tup (ls.map D.int)] p = some (.int (boundP M ls), p) := bound_ok (f0 := f1 (gFld clsL "rows") (fVarB 0)) h hn hl h0 hz f_prg
/-- the greatest lateness -/
def worstP (M : List (List Int)) (n : Nat) (os : List Int) : Int := (maxI (lateP M n os)).getD 0
theorem late_ne (hn : 0 < n) : lateP M n os ≠ [] := fun z => by
  have := congrArg List.length z
  unfold lateP at this
  rw [goL_len] at this
  simp at this
  omega
theorem by_dues_eq (h : Du n M) (hn : n ≤ 999) : m_by_dues [DuO M] p = some (.tup ((dueP M n).map D.int), p) := by
  refine yes_eq (y_mOf.mpr ?_)
  unfold begin_
  rw [s_ret_, y_f1]
  refine y_sortKR ?_
  simp only [y_rg1, y_f1, y_varB, List.map_cons, List.map_nil, List.cons_append, List.nil_append, List.getElem?_cons_zero, onBw_sh, fld_rows, v_lenT, yesO_some, onInt_i, tupsOf_len, h.len]
  have er : rgI (0, (n : Int)) = Cr.rngI n := by
    unfold rgI Cr.rngI
    simp
  rw [er]
  refine ⟨(Cr.rngI n).map fun i => at2 M i 1, p, rgOk_0 (by omega) (by omega), keys_map fun i hi => yes_eq ?_, by rw [rngI_len]; omega, ?_⟩
  · obtain ⟨i0, i1⟩ := rngI_mem.mp hi
    simp only [y_f2, y_f1, y_varB, y_c]
    simp [fld_rows]
    refine h.ix (by omega) i0 i1 ?_
    simp
  · simp only [v_tupleL, yesO_some]
    exact ⟨rfl, by first | rfl | trivial⟩
end
end K69
namespace K69
open PySem L2 Cr
section
variable {n : Nat} {M : List (List Int)} {os ls : List Int} {p : PenSt}
theorem lots_by_eq {n : Int} (h0 : 0 ≤ n) (h1 : n ≤ 20) : m_lots_by [.int n] p = some (.lst (tupsOf (tsort (lotK n.toNat))), p) :=
  lots_loop h0 h1 fun e r i p e2 e3 hr => yes_eq (by
    simp only [y_tup, y_astar, y_acons, y_anil, y_varB, y_var, e2, e3, onBw_sh, onSh_sh, onSeq_t]
    refine ⟨by simp; omega, ?_⟩
    exact ⟨by first | rfl | trivial, by first | rfl | trivial⟩)
def TiO (d : D) : D := .obj "Tight" [("lot", d)]
def TmO (d : D) : D := .obj "Timelier" [("order", d)]
@[simp] theorem fld_ti (d : D) : gFld clsL "lot" (TiO d) = some d := rfl
@[simp] theorem fld_tm (d : D) : gFld clsL "order" (TmO d) = some d := rfl
@[simp] theorem isi_tt (d : D) : gIsiC "Tight" (TiO d) = some (.bl true) := rfl
@[simp] theorem isi_tm (d : D) : gIsiC "Tight" (TmO d) = some (.bl false) := rfl
@[simp] theorem isi_mt (d : D) : gIsiC "Timelier" (TiO d) = some (.bl false) := rfl
@[simp] theorem isi_mm (d : D) : gIsiC "Timelier" (TmO d) = some (.bl true) := rfl
@[simp] theorem isi_du (M : List (List Int)) : gIsiC "Dues" (DuO M) = some (.bl true) := rfl
theorem ti_init {v : D} {p : PenSt} {Q : List (Str × D) → PenSt → Prop} (h : pln v 11 = true) (k : Q [("lot", asT v)] p) : YesI mi_Tight [v] p Q := by
  unfold mi_Tight
  rw [x_as]
  exact init1 h k
theorem tm_init {v : D} {p : PenSt} {Q : List (Str × D) → PenSt → Prop} (h : pln v 11 = true) (k : Q [("order", asT v)] p) : YesI mi_Timelier [v] p Q := by
  unfold mi_Timelier
  rw [x_as]
  exact init1 h k
end
end K69
namespace K69
open PySem L2 Cr
section
variable {n : Nat} {M : List (List Int)} {os ls : List Int} {p : PenSt}
theorem whole_i {i : Int} : m_is_whole [.int i] p = some (.bl true, p) := (whole_eq (n := 0) (d := .int i) rfl).1
theorem number_eq {v : Int} (h : 0 ≤ v) : m_is_number [.int v] p = some (.bl true, p) := by
  refine yes_eq ?_
  unfold m_is_number
  simp [begin_]
  refine eq_yes whole_i ?_
  simp [h]
theorem due_job_eq {a b : Int} (ha : 1 ≤ a ∧ a ≤ 1000000) (hb : 0 ≤ b ∧ b ≤ 9000000) : m_is_due_job [.tup [.int a, .int b]] p = some (.bl true, p) := by
  refine yes_eq ?_
  unfold m_is_due_job
  simp [begin_, gIsi, isT, tyD]
  refine eq_yes whole_i ?_
  simp
  refine eq_yes (number_eq hb.1) ?_
  have c : b ≤ 10000000 := by omega
  simp [ha.1, ha.2, c]
theorem du_init {Q : List (Str × D) → PenSt → Prop} (h : Du n M) (h0 : 1 ≤ n) (hn : n ≤ 10) (k : Q [("rows", .tup (tupsOf M))] p) : YesI mi_Dues [.tup (tupsOf M)] p Q := by
  refine ⟨_, _, fun x => ?_, k⟩
  unfold mi_Dues initOf
  have c1 : (1 : Int) ≤ n := by omega
  have c2 : (n : Int) ≤ 10 := by omega
  have : YesS ((sSeq (sIf (tfOr (tfNot (fTru (f1 (gIsi2 "list" "tuple") (fVarB 1)))) (tfNot (fBl (fChain gLe gLe (fC (.int 1)) (f1 gLen (fVarB 1)) (fC (.int 10)))))) sBad sNil)
  (sSeq (sFor (fItems (fVar 1)) (bN 2) (sIf (tfNot (fTru (fCall m_is_due_job (aCons (fVar 2) aNil)))) sBad sNil))
  (sFldS 0 "rows" (f1 gTuple (fVarB 1))))) (.oo x "Dues" [] :: begin_ 2 [.tup (tupsOf M)]) p) fun o => ∃ e, o = .nx e p ∧ e[0]? = some (.oo x "Dues" [("rows", .tup (tupsOf M))]) := by
    simp [begin_, gIsi2, isT, tyD, h.len, c1, c2, s_for_]
    refine for_yes (I := fun rest e q => ∃ s2 : Slot, e = [.oo x "Dues" [], .sh (.tup (tupsOf M)), s2] ∧ (∀ d ∈ rest, d ∈ tupsOf M) ∧ p = q) ⟨_, rfl, fun d hd => hd, rfl⟩ ?_ ?_
    · rintro d rest e q ⟨s2, rfl, hrest, rfl⟩
      obtain ⟨r, hr, rfl⟩ := List.mem_map.mp (hrest d List.mem_cons_self)
      obtain ⟨a, b, rfl, ha, hb⟩ := h.row r hr
      simp
      refine eq_yes (due_job_eq ha hb) ?_
      simp
      exact fun d hd => hrest d (List.mem_cons_of_mem _ hd)
    · rintro e q ⟨s2, rfl, hrest, rfl⟩
      simp [putD]
  obtain ⟨o, h1, e, rfl, h2⟩ := this
  rw [h1]
  simp [h2]
end
end K69
namespace K69
open PySem L2 Cr
section
variable {n : Nat} {M : List (List Int)} {os ls : List Int} {p : PenSt}
theorem need_order_eq (hn : n ≤ 1000) (ho : os.Perm (rngI n)) : m_need_order [.int n, .tup (os.map D.int)] p = some (.tup (os.map D.int), p) := by
  have hl : os.length = n := by rw [ho.length_eq, rngI_len]; omega
  refine yes_eq ?_
  unfold m_need_order
  rw [x_order]
  simp [begin_, gIsi, isT, tyD]
  refine eq_yes (is_order_eq (pln_ints (by omega)).1 (by omega) (by omega)) ?_
  rw [isOrd_perm ho]
  simp
theorem need_due_eq (h : Du n M) (hn : n ≤ 999) (ho : os.Perm (rngI n)) : m_need_due_order [DuO M, .tup (os.map D.int)] p = some (.tup (os.map D.int), p) := by
  refine yes_eq ?_
  unfold m_need_due_order m_need_dues
  simp [begin_, fld_rows, h.len]
  exact eq_yes (need_order_eq (by omega) ho) ⟨rfl, rfl⟩
theorem v_worst (hn : 0 < n) : gMax1 (.lst ((lateP M n os).map D.int)) = some (.int (worstP M n os)) := v_max1 (late_ne hn)
theorem least_eq (h : Du n M) (h0 : 0 < n) (hn : n ≤ 999) : m_least_by_dues [DuO M] p = some (.int (worstP M n (dueP M n)), p) := by
  refine yes_eq ?_
  unfold m_least_by_dues
  simp [begin_]
  refine eq_yes (by_dues_eq h hn) ?_
  try simp
  refine eq_yes (late_eq h hn (dueP_perm M n)) ?_
  rw [v_worst h0]
  simp
end
end K69
namespace K69
open PySem L2 Cr
section
variable {n : Nat} {M : List (List Int)} {os ls : List Int} {p : PenSt}
theorem lot_in {k : Nat} {r : List Int} (h : r ∈ lotK k) (hk : k ≤ 20) : (∀ i ∈ r, 0 ≤ i ∧ i < k) ∧ r.length ≤ 20 := by
  obtain ⟨h1, _, h3⟩ := lotK_ok k r h
  exact ⟨h3, by omega⟩
theorem first_ok {w : Int} {Q : D → PenSt → Prop} (h : Du n M) (hn : n ≤ 20) (k : ∀ r, pln r 11 = true → Q r p) : Yes (m_first_tight [DuO M, .int w] p) Q := by
  unfold m_first_tight
  rw [y_mOf]
  unfold begin_
  refine s_seq.mpr ?_
  simp only [s_for_, y_items, y_sl, y_part, y_nop, y_c, y_call, y_acons, y_anil, y_f1, y_varB, List.map_cons, List.map_nil, List.cons_append, List.nil_append, List.getElem?_cons_succ, List.getElem?_cons_zero, onBw_sh, fld_rows, v_lenT, yesO_some, tupsOf_len, h.len]
  refine eq_yes (lots_by_eq (by omega) (by omega)) ?_
  rw [Int.toNat_natCast]
  simp only [onInt_i, v_slL, yesO_some, onSeq_l]
  have ct : cutD (tupsOf (tsort (lotK n))) (some 1) none = (tupsOf (tsort (lotK n))).drop 1 := cut_tail _
  rw [ct]
  refine for_yes (I := fun rest e q => ∃ s2 : Slot, e = [.sh (DuO M), .sh (.int w), s2] ∧ (∀ d ∈ rest, ∃ r, d = D.tup (r.map D.int) ∧ r ≠ [] ∧ r ∈ lotK n) ∧ p = q) ⟨_, rfl, fun d hd => ?_, rfl⟩ ?_ ?_
  · unfold tupsOf at hd
    rw [← List.map_drop] at hd
    obtain ⟨r, hr, rfl⟩ := List.mem_map.mp hd
    exact ⟨r, rfl, lots_tail n r hr⟩
  · rintro d rest e q ⟨s2, rfl, hrest, rfl⟩
    obtain ⟨r, rfl, r0, hr⟩ := hrest d List.mem_cons_self
    obtain ⟨g1, g2⟩ := lot_in hr hn
    rw [t_name]
    refine ⟨by simp, ?_⟩
    simp only [List.set_cons_succ, List.set_cons_zero, s_if_, y_bl, y_f2, y_call, y_acons, y_anil, y_var, y_varB, List.getElem?_cons_succ, List.getElem?_cons_zero, onSh_sh, onBw_sh]
    refine eq_yes (bound_eq h (by omega) g1 r0 (by omega)) ?_
    simp only [v_eqI, yesO_some, onB_bl]
    by_cases hb : boundP M r = w
    · simp only [hb, decide_true, if_true, s_ret_, y_var, List.getElem?_cons_succ, List.getElem?_cons_zero, onSh_sh]
      exact k _ (pln_ints (by omega)).1
    · simp only [hb, decide_false, Bool.false_eq_true, if_false, s_nil]
      exact ⟨_, rfl, fun d hd => hrest d (List.mem_cons_of_mem _ hd), by first | rfl | trivial⟩
  · rintro e q ⟨s2, rfl, hrest, rfl⟩
    simp
    exact k _ rfl
inductive Val : D → Prop
  | ti (d : D) (h : pln d 12 = true) : Val (TiO d)
  | tm (d : D) (h : pln d 12 = true) : Val (TmO d)
  | pl (d : D) (h : pln d 12 = true) : Val d
theorem told_ok {Q : D → PenSt → Prop} (h : Du n M) (h0 : 0 < n) (hn : n ≤ 20) (ho : os.Perm (rngI n)) (k : ∀ v, Val v → Q v p) : Yes (m_tight_or_timelier [DuO M, .tup (os.map D.int)] p) Q := by
  have hb : (dueP M n).length ≤ 65536 := by rw [(dueP_perm M n).length_eq, rngI_len]; omega
  have hpl : pln (.tup ((dueP M n).map D.int)) 11 = true := (pln_ints hb).1
  unfold m_tight_or_timelier
  rw [y_mOf]
  unfold begin_
  refine s_seq.mpr ?_
  rw [s_set_]
  simp only [y_sh, y_f1, y_call, y_acons, y_anil, y_var, List.map_cons, List.map_nil, List.cons_append, List.nil_append, List.getElem?_cons_succ, List.getElem?_cons_zero, onSh_sh]
  refine eq_yes (need_due_eq h (by omega) ho) ?_
  refine eq_yes (late_eq h (by omega) ho) ?_
  rw [v_worst h0]
  simp only [yesO_some]
  refine ⟨by simp, ?_⟩
  simp only [onNx_nx, List.length_cons, List.length_nil, List.replicate, List.set_cons_succ, List.set_cons_zero]
  refine s_seq.mpr ?_
  simp only [s_if_, y_bl, y_f2, y_varB, y_call, y_acons, y_anil, y_var, List.getElem?_cons_succ, List.getElem?_cons_zero, onSh_sh, onBw_sh]
  refine eq_yes (least_eq h h0 (by omega)) ?_
  simp only [v_gt, yesO_some, onB_bl]
  by_cases hlt : worstP M n (dueP M n) < worstP M n os
  · simp only [hlt, decide_true, if_true, s_ret_]
    refine y_mk ?_
    simp only [y_acons, y_anil, y_call, y_var, List.getElem?_cons_succ, List.getElem?_cons_zero, onSh_sh]
    refine eq_yes (by_dues_eq h (by omega)) ?_
    exact tm_init hpl (k _ (.tm _ (pln_up _ 11 12 (by decide) (asT_pln 11 _ hpl))))
  · simp only [hlt, decide_false, Bool.false_eq_true, if_false, s_nil, onNx_nx, s_ret_]
    refine y_mk ?_
    simp only [y_acons, y_anil, y_call, y_var, List.getElem?_cons_succ, List.getElem?_cons_zero, onSh_sh]
    refine first_ok h hn fun r hr => ?_
    exact ti_init hr (k _ (.ti _ (pln_up _ 11 12 (by decide) (asT_pln 11 _ hr))))
end
end K69
namespace K69
open PySem L2 Cr
theorem isLot_ex {n : Int} {d : D} (h : isLot n d = true) : ∃ ls : List Int, d = .tup (ls.map D.int) ∧ (∀ i ∈ ls, 0 ≤ i ∧ i < n) ∧ ascB ls = true := by
  unfold isLot at h
  split at h
  · rename_i ds
    split at h
    · rename_i ns hi
      rw [Bool.and_eq_true, List.all_eq_true] at h
      exact ⟨ns, by rw [intsD_some hi], fun i hm => by simpa using h.1 i hm, h.2⟩
    · cases h
  · cases h
def lotI : D → List Int
  | .tup ds => (intsD ds).getD []
  | _ => []
@[simp] theorem lotI_t (os : List Int) : lotI (.tup (os.map D.int)) = os := by
  unfold lotI
  simp [intsD_map]
def tiB (M : List (List Int)) (n : Nat) (os : List Int) : D → Bool
  | .obj c [(_, d)] => decide (c = "Tight") && (isLot n d && (!(lotI d).isEmpty && decide (boundP M (lotI d) = worstP M n os)))
  | _ => false
def tmB (M : List (List Int)) (n : Nat) (os : List Int) : D → Bool
  | .obj c [(_, d)] => decide (c = "Timelier") && (isOrd n d && decide (worstP M n (lotI d) < worstP M n os))
  | _ => false
theorem pln_B {M : List (List Int)} {n k : Nat} {os : List Int} {d : D} (h : pln d k = true) : tiB M n os d = false ∧ tmB M n os d = false := by
  cases d <;> first | exact ⟨rfl, rfl⟩ | (cases k <;> cases h; done) | cases h
section
variable {n : Nat} {M : List (List Int)} {os ls : List Int} {p : PenSt} {v : D}
theorem tm_eq (h : Du n M) (h0 : 0 < n) (hn : n ≤ 20) (ho : os.Perm (rngI n)) (hv : Val v) : m_timelier_holds [DuO M, .tup (os.map D.int), v] p = some (.bl (tmB M n os v), p) := by
  refine yes_eq ?_
  unfold m_timelier_holds
  rw [x_order]
  simp [begin_]
  refine eq_yes (need_due_eq h (by omega) ho) ?_
  refine eq_yes (late_eq h (by omega) ho) ?_
  rw [v_worst h0]
  simp
  cases hv with
  | tm d hd =>
    simp [fld_rows, h.len]
    refine eq_yes (is_order_eq (pln_up _ 12 50 (by decide) hd) (by omega) (by omega)) ?_
    cases hb : isOrd n d with
    | false => simp [tmB, TmO, hb]
    | true =>
      obtain ⟨os', rfl, hp⟩ := perm_isOrd hb
      simp
      refine eq_yes (late_eq h (by omega) hp) ?_
      rw [v_worst h0]
      simp [tmB, TmO, hb]
  | ti d hd =>
    have e : tmB M n os (TiO d) = false := by simp [tmB, TiO]
    simp [e]
  | pl d hd => simp [isi_pln hd, (pln_B (M := M) (n := n) (os := os) hd).2]
theorem ti_eq (h : Du n M) (h0 : 0 < n) (hn : n ≤ 20) (ho : os.Perm (rngI n)) (hv : Val v) : m_tight_holds [DuO M, .tup (os.map D.int), v] p = some (.bl (tiB M n os v), p) := by
  refine yes_eq ?_
  unfold m_tight_holds
  rw [x_lot]
  simp [begin_]
  refine eq_yes (need_due_eq h (by omega) ho) ?_
  refine eq_yes (late_eq h (by omega) ho) ?_
  rw [v_worst h0]
  simp
  cases hv with
  | ti d hd =>
    simp [fld_rows, h.len]
    refine eq_yes (is_lot_eq (pln_up _ 12 50 (by decide) hd)) ?_
    cases hb : isLot n d with
    | false => simp [tiB, TiO, hb]
    | true =>
      obtain ⟨ls, rfl, hl, _⟩ := isLot_ex hb
      have hz : ls.length ≤ 65536 := by
        have := (pln_t.mp hd).1
        rwa [List.length_map] at this
      simp [truD]
      cases ls with
      | nil =>
        have e : lotI (.tup []) = [] := lotI_t []
        simp [tiB, TiO, e]
      | cons a r =>
        simp
        refine eq_yes (bound_eq h (by omega) hl (by simp) hz) ?_
        have e : lotI (.tup (D.int a :: r.map D.int)) = a :: r := lotI_t (a :: r)
        have hb2 : isLot (n : Int) (.tup (D.int a :: r.map D.int)) = true := hb
        simp [tiB, TiO, hb2, e]
  | tm d hd =>
    have e : tiB M n os (TmO d) = false := by simp [tiB, TmO]
    simp [e]
  | pl d hd => simp [isi_pln hd, (pln_B (M := M) (n := n) (os := os) hd).1]
end
end K69
namespace K69
open PySem L2 Cr
section
variable {n : Nat} {M : List (List Int)} {os ls : List Int} {p : PenSt} {v : D}
theorem asks_tm (h : Du n M) (h0 : 0 < n) (hn : n ≤ 20) (hv : Val v) {env : Cr.Env} {Q : D → PenSt → Prop} (e3 : env[3]? = some (.sh (.tup (tupsOf M)))) (e4 : env[4]? = some (.sh (.int n))) (e10 : env[10]? = some (.sh (.int (worstP M n os)))) (e15 : env[15]? = some (.sh v)) (k : Q (.bl (tmB M n os v)) p) :
    Yes (fAnd (f1 (gIsiC "Timelier") (fVarB 15)) (fAnd (fCall m__law_is_order (aCons (fVar 4) (aCons (f1 (gFld clsL "order") (fVarB 15)) aNil))) (f2 gLt (f1 gMax1 (fCall m__law_late_row (aCons (fVar 3) (aCons (f1 (gFld clsL "order") (fVarB 15)) aNil)))) (fVarB 10))) env p) Q := by
  simp [e15]
  cases hv with
  | tm d hd =>
    simp [e3, e4, e15]
    rw [x_lorder]
    refine eq_yes (law_is_order_eq (pln_up _ 12 50 (by decide) hd) (by omega) (by omega)) ?_
    cases hb : isOrd n d with
    | false =>
      have e : tmB M n os (TmO d) = false := by simp [tmB, TmO, hb]
      rw [e] at k
      simpa using k
    | true =>
      obtain ⟨os', rfl, hp⟩ := perm_isOrd hb
      simp [e10]
      refine eq_yes (law_late_eq h (by omega) hp) ?_
      rw [v_worst h0]
      have e : tmB M n os (TmO (.tup (os'.map D.int))) = decide (worstP M n os' < worstP M n os) := by simp [tmB, TmO, hb]
      rw [e] at k
      simpa using k
  | ti d hd =>
    have e : tmB M n os (TiO d) = false := by simp [tmB, TiO]
    rw [e] at k
    simpa using k
  | pl d hd =>
    rw [(pln_B (M := M) (n := n) (os := os) hd).2] at k
    simpa [isi_pln hd] using k
end
end K69
/-! a lot lies among the lots -/
namespace Cr
open PySem L2
theorem asc_pw : ∀ {ns : List Int}, ascB ns = true → ns.Pairwise (· < ·)
  | [], _ => .nil
  | [x], _ => List.pairwise_singleton _ _
  | x :: y :: r, h => by
    have e2 : ascB (x :: y :: r) = (decide (x < y) && ascB (y :: r)) := rfl
    rw [e2, Bool.and_eq_true, decide_eq_true_eq] at h
    have ih := asc_pw h.2
    refine List.pairwise_cons.mpr ⟨fun z hz => ?_, ih⟩
    rcases List.mem_cons.mp hz with rfl | hz
    · exact h.1
    · have := (List.pairwise_cons.mp ih).1 z hz
      omega
theorem lot_mem : ∀ (k : Nat) (r : List Int), r.Pairwise (· < ·) → (∀ i ∈ r, 0 ≤ i ∧ i < k) → r ∈ lotK k
  | 0, r, _, h => by
    cases r with
    | nil => exact List.mem_singleton.mpr rfl
    | cons a b =>
      have := h a List.mem_cons_self
      omega
  | k + 1, r, hp, h => by
    have e : lotK (k + 1) = lotK k ++ (lotK k).map fun r => r ++ [(k : Int)] := rfl
    rw [e]
    by_cases hk : (k : Int) ∈ r
    · refine List.mem_append.mpr (.inr ?_)
      have hne : r ≠ [] := fun z => by rw [z] at hk; cases hk
      have er : r.dropLast ++ [r.getLast hne] = r := List.dropLast_concat_getLast hne
      rw [← er, List.pairwise_append] at hp
      obtain ⟨p1, _, p3⟩ := hp
      have hl : r.getLast hne = (k : Int) := by
        rw [← er] at hk
        rcases List.mem_append.mp hk with hk | hk
        · have h1 := p3 _ hk _ (List.mem_singleton.mpr rfl)
          have := h _ (List.getLast_mem hne)
          omega
        · exact (List.mem_singleton.mp hk).symm
      refine List.mem_map.mpr ⟨r.dropLast, lot_mem k r.dropLast p1 fun i hi => ?_, by rw [← hl]; exact er⟩
      have h1 := p3 i hi _ (List.mem_singleton.mpr rfl)
      have := h i ((List.dropLast_sublist r).subset hi)
      omega
    · refine List.mem_append.mpr (.inl (lot_mem k r hp fun i hi => ?_))
      have := h i hi
      have : i ≠ (k : Int) := fun z => hk (z ▸ hi)
      omega
end Cr
namespace Cr
open PySem L2
theorem any_tup (ls : List Int) : ∀ rows : List (List Int), ((tupsOf rows).any fun z => eqD z (.tup (ls.map D.int))) = decide (ls ∈ rows)
  | [] => rfl
  | r :: rows => by
    show (eqDs (r.map D.int) (ls.map D.int) || (tupsOf rows).any fun z => eqD z (.tup (ls.map D.int))) = _
    rw [any_tup ls rows, eqDs_ints]
    by_cases h : r = ls
    · subst h; simp
    · have : ¬ ls = r := fun z => h z.symm
      simp [h, this]
theorem dats_tups (n : Nat) : ∀ rows : List (List Int), dats (tupsOf rows) (n + 1) = true
  | [] => rfl
  | r :: rows => by
    show (dats (r.map D.int) n && dats (tupsOf rows) (n + 1)) = true
    rw [dats_ints, dats_tups n rows]
    rfl
theorem v_inLots (ls : List Int) (rows : List (List Int)) : gInS (.tup (ls.map D.int)) (.lst (tupsOf rows)) = some (.bl (decide (ls ∈ rows))) := by
  show (if (dat (.tup (ls.map D.int)) 63 && dats (tupsOf rows) 63) = true then some (D.bl (false ^^ (tupsOf rows).any fun z => eqD z (.tup (ls.map D.int)))) else none) = _
  rw [if_pos (by rw [dats_tups]; show (dats (ls.map D.int) 62 && true) = true; rw [dats_ints]; rfl), any_tup]
  simp
end Cr
namespace K69
open PySem L2 Cr
/-- the lots whose bound is the worst lateness -/
def goodP (M : List (List Int)) (n : Nat) (w : Int) : List (List Int) := ((tsort (lotK n)).drop 1).filter fun r => decide (boundP M r = w)
theorem good_mem {M : List (List Int)} {n : Nat} {w : Int} {r : List Int} : r ∈ goodP M n w ↔ (r ≠ [] ∧ r ∈ lotK n) ∧ boundP M r = w := by
  unfold goodP
  rw [List.mem_filter, decide_eq_true_eq]
  exact ⟨fun h => ⟨lots_tail n r h.1, h.2⟩, fun h => ⟨lots_tail_mem n r h.1.2 h.1.1, h.2⟩⟩
section
variable {n : Nat} {M : List (List Int)} {os ls : List Int} {p : PenSt} {v : D}
theorem asks_ti (h : Du n M) (h0 : 0 < n) (hn : n ≤ 20) (hv : Val v) {env : Cr.Env} {Q : D → PenSt → Prop} (e4 : env[4]? = some (.sh (.int n))) (e11 : env[11]? = some (.sh (.lst (tupsOf (goodP M n (worstP M n os)))))) (e15 : env[15]? = some (.sh v)) (k : Q (.bl (tiB M n os v)) p) :
    Yes (fAnd (f1 (gIsiC "Tight") (fVarB 15)) (fAnd (fCall m__law_is_lot (aCons (fVar 4) (aCons (f1 (gFld clsL "lot") (fVarB 15)) aNil))) (f2 gInS (f1 (gFld clsL "lot") (fVarB 15)) (fVarB 11))) env p) Q := by
  simp [e15]
  cases hv with
  | ti d hd =>
    simp [e4, e15]
    rw [x_llot]
    refine eq_yes (law_is_lot_eq (pln_up _ 12 50 (by decide) hd)) ?_
    cases hb : isLot n d with
    | false =>
      have e : tiB M n os (TiO d) = false := by simp [tiB, TiO, hb]
      rw [e] at k
      simpa using k
    | true =>
      obtain ⟨ls, rfl, hl, ha⟩ := isLot_ex hb
      simp [e11, e15]
      rw [v_inLots]
      have hm : ls ∈ lotK n := lot_mem n ls (asc_pw ha) hl
      have e : tiB M n os (TiO (.tup (ls.map D.int))) = decide (ls ∈ goodP M n (worstP M n os)) := by
        have e1 : decide (ls ∈ goodP M n (worstP M n os)) = (!ls.isEmpty && decide (boundP M ls = worstP M n os)) := by
          by_cases hz : ls = []
          · subst hz
            have : ¬ ([] : List Int) ∈ goodP M n (worstP M n os) := fun z => (good_mem.mp z).1.1 rfl
            simp [this]
          · have : ls.isEmpty = false := by cases ls <;> simp_all
            by_cases hw : boundP M ls = worstP M n os
            · have := good_mem.mpr ⟨⟨hz, hm⟩, hw⟩
              simp_all
            · have : ¬ ls ∈ goodP M n (worstP M n os) := fun z => hw (good_mem.mp z).2
              simp_all
        rw [e1]
        simp [tiB, TiO, hb]
      rw [e] at k
      simpa using k
  | tm d hd =>
    have e : tiB M n os (TmO d) = false := by simp [tiB, TmO]
    rw [e] at k
    simpa using k
  | pl d hd =>
    rw [(pln_B (M := M) (n := n) (os := os) hd).1] at k
    simpa [isi_pln hd] using k
/-- an order as data -/
def OrdD (n : Nat) (d : D) : Prop := ∃ os : List Int, d = .tup (os.map D.int) ∧ os.Perm (rngI n)
theorem OrdD.pln {n : Nat} {d : D} (h : OrdD n d) (hn : n ≤ 1000) : pln d 3 = true := by
  obtain ⟨os, rfl, hp⟩ := h
  have hl : os.length = n := by rw [hp.length_eq, rngI_len]; omega
  exact (pln_ints (by omega)).1
theorem mk_ti {d : D} {env : Cr.Env} {p : PenSt} {ga : FV (List D)} {Q : D → PenSt → Prop} (e : ∀ {A : List D → PenSt → Prop}, A [d] p → Yes (ga env p) A) (h : pln d 11 = true) (k : Val (TiO (asT d)) → Q (TiO (asT d)) p) : Yes (fMake "Tight" mi_Tight ga env p) Q :=
  y_mk (e (ti_init h (k (.ti _ (pln_up _ 11 12 (by decide) (asT_pln 11 _ h))))))
theorem mk_tm {d : D} {env : Cr.Env} {p : PenSt} {ga : FV (List D)} {Q : D → PenSt → Prop} (e : ∀ {A : List D → PenSt → Prop}, A [d] p → Yes (ga env p) A) (h : pln d 11 = true) (k : Val (TmO (asT d)) → Q (TmO (asT d)) p) : Yes (fMake "Timelier" mi_Timelier ga env p) Q :=
  y_mk (e (tm_init h (k (.tm _ (pln_up _ 11 12 (by decide) (asT_pln 11 _ h))))))
end
end K69
namespace K69
open PySem L2 Cr
noncomputable def turnS : FS := (sSeq (sSet 9 (fSh (fCall m__law_pick (aCons (fVar 1) (aCons (fLst (aCons (fVar 6) (aCons (f1 gTuple (fCall m__law_shuffled (aCons (fVar 1) (aCons (fLstRg (fRg1 (fVar 4))) aNil)))) aNil))) aNil)))))
  (sSeq (sSet 10 (fSh (f1 gMax1 (fCall m__law_late_row (aCons (fVar 3) (aCons (fVar 9) aNil))))))
  (sSeq (sAft 11 (sSet 11 (fX (fComp [12] (fItems (fSl (fVarB 7) (fPart (fC (.int 1))) fNoPart)) (bN 12) (fBl (f2 gEq (fCall m__law_lot_bound (aCons (fVar 3) (aCons (fVar 12) aNil))) (fVarB 10))) (fVar 12)))))
  (sSeq (sSet 12 (fSh (fCall m__law_pick (aCons (fVar 1) (aCons (f2 gAdd (fVarB 7) (f2 gMul (fVarB 11) (fC (.int 3)))) aNil)))))
  (sSeq (sSet 13 (fSh (fCall m__law_bent_order (aCons (fVar 1) (aCons (fCall m__law_pick (aCons (fVar 1) (aCons (fLst (aCons (fVar 6) (aCons (fVar 9) (aCons (f1 gTuple (fCall m__law_shuffled (aCons (fVar 1) (aCons (fLstRg (fRg1 (fVar 4))) aNil)))) aNil)))) aNil))) aNil)))))
  (sSeq (sSet 14 (fSh (fLst (aCons (fCall m_tight_or_timelier (aCons (fVar 5) (aCons (fVar 9) aNil))) (aCons (fMake "Tight" mi_Tight (aCons (fVar 12) aNil)) (aCons (fMake "Tight" mi_Tight (aCons (fVar 12) aNil)) (aCons (fMake "Tight" mi_Tight (aCons (f1 gRev (fVarB 12)) aNil)) (aCons (fMake "Tight" mi_Tight (aCons (f2 gAdd (fVarB 12) (fSl (fVarB 12) (fPart (f1 gNeg (fC (.int 1)))) fNoPart)) aNil)) (aCons (fMake "Tight" mi_Tight (aCons (fTup (aCons (fVar 4) aNil)) aNil)) (aCons (fMake "Tight" mi_Tight (aCons (fTup (aCons (fC (.bl true)) aNil)) aNil)) (aCons (fMake "Tight" mi_Tight (aCons (fC .non) aNil)) (aCons (fMake "Tight" mi_Tight (aCons (f1 gList (fVarB 12)) aNil)) aNil))))))))))))
  (sSeq (sSet 15 (fSh (fCall m__law_pick (aCons (fVar 1) (aCons (f2 gAdd (f2 gAdd (fVarB 14) (f2 gMul (fLst (aCons (fMake "Timelier" mi_Timelier (aCons (fVar 13) aNil)) aNil)) (fC (.int 4)))) (fLst (aCons (fMake "Timelier" mi_Timelier (aCons (fC .non) aNil)) (aCons (fMake "Tight" mi_Tight (aCons (fVar 13) aNil)) (aCons (fMake "Timelier" mi_Timelier (aCons (fVar 12) aNil)) (aCons (fVar 9) (aCons (fC .non) aNil))))))) aNil)))))
  (sSeq (sSet 16 (fSh (fAnd (f1 (gIsiC "Tight") (fVarB 15)) (fAnd (fCall m__law_is_lot (aCons (fVar 4) (aCons (f1 (gFld clsL "lot") (fVarB 15)) aNil))) (f2 gInS (f1 (gFld clsL "lot") (fVarB 15)) (fVarB 11))))))
  (sSeq (sSet 17 (fSh (fAnd (f1 (gIsiC "Timelier") (fVarB 15)) (fAnd (fCall m__law_is_order (aCons (fVar 4) (aCons (f1 (gFld clsL "order") (fVarB 15)) aNil))) (f2 gLt (f1 gMax1 (fCall m__law_late_row (aCons (fVar 3) (aCons (f1 (gFld clsL "order") (fVarB 15)) aNil)))) (fVarB 10))))))
  (sIf (tfNot (fTru (fCall (m__law_is 12) (aCons (fTup (aCons (fCall m_tight_holds (aCons (fVar 5) (aCons (fVar 9) (aCons (fVar 15) aNil)))) (aCons (fCall m_timelier_holds (aCons (fVar 5) (aCons (fVar 9) (aCons (fVar 15) aNil)))) aNil))) (aCons (fTup (aCons (fVar 16) (aCons (fVar 17) aNil))) aNil))))) (sRet (fC (.bl false))) sNil))))))))))
section
variable {n : Nat} {M : List (List Int)} {q : PenSt} {best : D} {s2 s8 s9 s10 s11 s12 s13 s14 s15 s16 s17 s18 s19 : Slot} {R : Out → Prop}
theorem perm_ex {es : List D} {n : Nat} (h : es.Perm ((rngI n).map D.int)) : ∃ os : List Int, es = os.map D.int ∧ os.Perm (rngI n) := by
  obtain ⟨ns, rfl⟩ : ∃ ns : List Int, es = ns.map D.int := by
    have : ∀ {l : List D}, (∀ d ∈ l, ∃ i : Int, d = .int i) → ∃ ns : List Int, l = ns.map D.int := by
      intro l
      induction l with
      | nil => intro _; exact ⟨[], rfl⟩
      | cons a l ih =>
        intro hl
        obtain ⟨i, rfl⟩ := hl a List.mem_cons_self
        obtain ⟨ns, rfl⟩ := ih fun d hd => hl d (List.mem_cons_of_mem _ hd)
        exact ⟨i :: ns, rfl⟩
    exact this fun d hd => by
      obtain ⟨i, _, rfl⟩ := List.mem_map.mp (h.mem_iff.mp hd)
      exact ⟨i, rfl⟩
  refine ⟨ns, rfl, ?_⟩
  have e1 : ∀ l : List Int, intsD (l.map D.int) = some l := intsD_map
  have : (ns.map D.int).filterMap (fun d => match d with | .int i => some i | _ => none) = ns := by
    rw [List.filterMap_map]
    exact List.filterMap_some
  have t2 : ((rngI n).map D.int).filterMap (fun d => match d with | .int i => some i | _ => none) = rngI n := by
    rw [List.filterMap_map]
    exact List.filterMap_some
  have := h.filterMap (fun d => match d with | .int i => some i | _ => none)
  rw [t2] at this
  rwa [‹(ns.map D.int).filterMap _ = ns›] at this
/-- a shuffled order -/
theorem shuf_ord {Q : D → PenSt → Prop} {env : Cr.Env} (e1 : env[1]? = some (.sh .pen)) (e4 : env[4]? = some (.sh (.int n))) (hq : q.Ok) (hn : n ≤ 20) (k : ∀ d p', OrdD n d → p'.Ok → Q d p') : Yes (f1 gTuple (fCall m__law_shuffled (aCons (fVar 1) (aCons (fLstRg (fRg1 (fVar 4))) aNil))) env q) Q := by
  rw [x_shuffled]
  simp only [y_f1, y_call, y_acons, y_anil, y_var, y_lstRg, y_rg1, e1, e4, onSh_sh, onInt_i]
  refine ⟨rgOk_0 (by omega) (by omega), ?_⟩
  rw [rngD_0]
  refine shuffled_ok hq (by simp; omega) fun es p' hes ok _ => ?_
  simp only [v_tupleL, yesO_some]
  obtain ⟨os, rfl, hp⟩ := perm_ex hes
  exact k _ _ ⟨os, rfl, hp⟩ ok
theorem turn_ok (hq : q.Ok) (h : Du n M) (h0 : 0 < n) (hn : n ≤ 6) (hb : OrdD n best)
    (k : ∀ s9 s10 s11 s12 s13 s14 s15 s16 s17 p', p'.Ok → R (.nx [.no, .sh .pen, s2, .sh (.tup (tupsOf M)), .sh (.int n), .sh (DuO M), .sh best, .sh (.lst (tupsOf (tsort (lotK n)))), s8, s9, s10, s11, s12, s13, s14, s15, s16, s17, s18, s19] p')) :
    YesS (turnS [.no, .sh .pen, s2, .sh (.tup (tupsOf M)), .sh (.int n), .sh (DuO M), .sh best, .sh (.lst (tupsOf (tsort (lotK n)))), s8, s9, s10, s11, s12, s13, s14, s15, s16, s17, s18, s19] q) R := by
  have l2 : (tsort (lotK n)).length ≤ 64 := by
    rw [tsort_len, lotK_len]
    exact Nat.le_trans (Nat.pow_le_pow_right (by decide) hn) (by decide)
  have lots : ∀ d ∈ tupsOf (tsort (lotK n)), pln d 3 = true ∧ ∃ ls : List Int, d = .tup (ls.map D.int) ∧ ls.length ≤ 20 := fun d hd => by
    obtain ⟨r, hr, rfl⟩ := List.mem_map.mp hd
    have g := (lot_in (tsort_mem.mp hr) (by omega)).2
    exact ⟨(pln_ints (by omega)).1, r, rfl, g⟩
  have ne : tupsOf (tsort (lotK n)) ≠ [] := fun z => by
    have : (tsort (lotK n)).length = 0 := by rw [← tupsOf_len, z]; rfl
    rw [tsort_len, lotK_len] at this
    have := Nat.pow_pos (n := n) (show 0 < 2 by decide)
    omega
  unfold turnS
  rw [x_pick, x_bent, x_is]
  refine s_seq.mpr ?_
  rw [s_set_]
  simp only [y_sh, y_call, y_acons, y_anil, y_lst, y_var, List.getElem?_cons_succ, List.getElem?_cons_zero, onSh_sh]
  refine shuf_ord rfl rfl hq (by omega) fun d1 p1 hd1 ok1 => ?_
  refine ⟨by simp, ?_⟩
  refine pick_ok ok1 (by simp) (by simp) fun order p3 hord ok3 _ => ?_
  have ho : OrdD n order := by
    simp at hord
    rcases hord with rfl | rfl
    · exact hb
    · exact hd1
  clear hord hd1
  have hopl := ho.pln (by omega)
  obtain ⟨os, rfl, hp⟩ := ho
  have hl : os.length = n := by rw [hp.length_eq, rngI_len]; omega
  refine ⟨by simp, ?_⟩
  simp only [onNx_nx, List.set_cons_succ, List.set_cons_zero]
  -- worst
  refine s_seq.mpr ?_
  rw [s_set_]
  simp only [y_sh, y_f1, y_call, y_acons, y_anil, y_var, List.getElem?_cons_succ, List.getElem?_cons_zero, onSh_sh]
  refine eq_yes (law_late_eq h (by omega) hp) ?_
  rw [v_worst h0]
  simp only [yesO_some]
  refine ⟨by simp, ?_⟩
  simp only [onNx_nx, List.set_cons_succ, List.set_cons_zero]
  -- good
  refine s_seq.mpr ?_
  rw [s_aft_, s_set_]
  simp only [y_x, y_comp, y_items, y_sl, y_part, y_nop, y_c, y_varB, List.getElem?_cons_succ, List.getElem?_cons_zero, onBw_sh, onInt_i, v_slL, yesO_some, onSeq_l, cut_tail]
  have et : (tupsOf (tsort (lotK n))).drop 1 = tupsOf ((tsort (lotK n)).drop 1) := by unfold tupsOf; rw [List.map_drop]
  rw [et]
  refine yes_filter (fun d => decide (boundP M (lotI d) = worstP M n os)) (fun d hd => ?_) ?_
  · obtain ⟨r, hr, rfl⟩ := List.mem_map.mp hd
    obtain ⟨r0, hm⟩ := lots_tail n r hr
    obtain ⟨g1, g2⟩ := lot_in hm (by omega)
    refine ⟨_, rfl, ?_⟩
    simp only [y_bl, y_f2, y_call, y_acons, y_anil, y_var, y_varB, wipeE, List.foldl_cons, List.foldl_nil, List.set_cons_succ, List.set_cons_zero, List.getElem?_cons_succ, List.getElem?_cons_zero, onSh_sh, onBw_sh]
    refine eq_yes (law_bound_eq h (by omega) g1 r0 (by omega)) ?_
    simp
  · have eg : (tupsOf ((tsort (lotK n)).drop 1)).filter (fun d => decide (boundP M (lotI d) = worstP M n os)) = tupsOf (goodP M n (worstP M n os)) := by
      unfold tupsOf goodP
      rw [List.filter_map]
      congr 1
      refine List.filter_congr fun r _ => ?_
      simp
    rw [eg]
    have gl : (goodP M n (worstP M n os)).length ≤ 64 := by
      unfold goodP
      refine Nat.le_trans (List.length_filter_le ..) ?_
      rw [List.length_drop]
      omega
    have gm : ∀ d ∈ tupsOf (goodP M n (worstP M n os)), d ∈ tupsOf (tsort (lotK n)) := fun d hd => by
      obtain ⟨r, hr, rfl⟩ := List.mem_map.mp hd
      exact List.mem_map.mpr ⟨r, tsort_mem.mpr (good_mem.mp hr).1.2, rfl⟩
    refine ⟨by rw [tupsOf_len]; omega, by simp, ?_⟩
    simp only [toX, onNx_nx, List.set_cons_succ, List.set_cons_zero, List.getElem?_cons_succ, List.getElem?_cons_zero]
    -- lot
    refine s_seq.mpr ?_
    rw [s_set_]
    simp only [y_sh, y_call, y_acons, y_anil, y_f2, y_c, y_var, y_varB, List.getElem?_cons_succ, List.getElem?_cons_zero, onSh_sh, onBw_sh]
    refine v_mulL (k := 3) (by rw [tupsOf_len]; omega) (by decide) ?_
    refine v_addLQ.mpr ⟨by simp; omega, ?_⟩
    refine pick_ok ok3 (fun z => ne (List.append_eq_nil_iff.mp z).1) (by simp; omega) fun lot p4 hlot ok4 _ => ?_
    have hlm : lot ∈ tupsOf (tsort (lotK n)) := by
      rcases List.mem_append.mp hlot with z | z
      · exact z
      · simp only [List.replicate, List.flatten_cons, List.flatten_nil, List.append_nil, List.mem_append, or_self] at z
        exact gm _ z
    clear hlot
    obtain ⟨lp, ls, rfl, lsl⟩ := lots _ hlm
    refine ⟨by simp, ?_⟩
    simp only [onNx_nx, List.set_cons_succ, List.set_cons_zero]
    -- other
    refine s_seq.mpr ?_
    rw [s_set_]
    simp only [y_sh, y_call, y_acons, y_anil, y_lst, y_var, List.getElem?_cons_succ, List.getElem?_cons_zero, onSh_sh]
    refine shuf_ord rfl rfl ok4 (by omega) fun d2 p5 hd2 ok5 => ?_
    refine ⟨by simp, ?_⟩
    refine pick_ok ok5 (by simp) (by simp) fun o2 p6 ho2 ok6 _ => ?_
    have ho2 : OrdD n o2 := by
      simp at ho2
      rcases ho2 with rfl | rfl | rfl
      · exact hb
      · exact ⟨os, rfl, hp⟩
      · exact hd2
    obtain ⟨o2s, rfl, hp2⟩ := ho2
    have hl2 : o2s.length = n := by rw [hp2.length_eq, rngI_len]; omega
    refine bent_order_ok ok6 (fun z => by rw [z] at hl2; simp at hl2; omega) (by omega) fun other p7 hoth ok7 _ => ?_
    refine ⟨by simp, ?_⟩
    simp only [onNx_nx, List.set_cons_succ, List.set_cons_zero]
    have sls : ∀ x ∈ ls.map D.int, sc x = true := sc_ints
    -- some
    refine s_seq.mpr ?_
    rw [s_set_]
    simp only [y_sh, y_lst, y_acons, y_anil, y_call, y_var, List.getElem?_cons_succ, List.getElem?_cons_zero, onSh_sh]
    refine told_ok h h0 (by omega) hp fun told v1 => ?_
    refine mk_ti (d := .tup (ls.map D.int)) (fun {A} a => by simpa using a) (pln_up _ 3 11 (by decide) lp) fun v2 => ?_
    refine mk_ti (d := .tup (ls.map D.int)) (fun {A} a => by simpa using a) (pln_up _ 3 11 (by decide) lp) fun v3 => ?_
    refine mk_ti (d := .tup (ls.map D.int).reverse) (fun {A} a => by simpa using a) (pln_sc (fun x hx => sls x (List.mem_reverse.mp hx)) (by simp; omega)).1 fun v4 => ?_
    refine mk_ti (d := .tup (ls.map D.int ++ cutD (ls.map D.int) (some (-1)) none)) (fun {A} a => by
      have c : (ls.map D.int).length + (cutD (ls.map D.int) (some (-1)) none).length ≤ 16777216 := by
        unfold cutD
        have := List.length_take_le (HT.sIx (ls.map D.int).length (ls.map D.int).length none - HT.sIx (ls.map D.int).length 0 (some (-1))) ((ls.map D.int).drop (HT.sIx (ls.map D.int).length 0 (some (-1))))
        rw [List.length_take, List.length_drop, List.length_map]
        omega
      simp only [y_acons, y_anil, y_f2, y_f1, y_sl, y_part, y_nop, y_c, y_varB, List.getElem?_cons_succ, List.getElem?_cons_zero, onBw_sh, onInt_i, v_neg, v_slT, yesO_some, v_addTQ]
      exact ⟨c, a⟩) (pln_sc (fun x hx => by
        rcases List.mem_append.mp hx with hx | hx
        · exact sls x hx
        · unfold cutD at hx
          exact sls x (List.mem_of_mem_drop (List.mem_of_mem_take hx))) (by
        unfold cutD
        rw [List.length_append, List.length_take, List.length_drop, List.length_map]
        omega)).1 fun v5 => ?_
    refine mk_ti (d := .tup [.int n]) (fun {A} a => by simpa using a) rfl fun v6 => ?_
    refine mk_ti (d := .tup [.bl true]) (fun {A} a => by simpa using a) rfl fun v7 => ?_
    refine mk_ti (d := .non) (fun {A} a => by simpa using a) rfl fun v8 => ?_
    refine mk_ti (d := .lst (ls.map D.int)) (fun {A} a => by simpa using a) (pln_sc sls (by simp; omega)).2 fun v9 => ?_
    refine ⟨by simp, by simp, ?_⟩
    simp only [onNx_nx, List.set_cons_succ, List.set_cons_zero]
    -- value
    refine s_seq.mpr ?_
    rw [s_set_]
    simp only [y_sh, y_call, y_acons, y_anil, y_f2, y_c, y_lst, y_var, y_varB, List.getElem?_cons_succ, List.getElem?_cons_zero, onSh_sh, onBw_sh]
    refine mk_tm (d := other) (fun {A} a => by simpa using a) (pln_up _ 3 11 (by decide) hoth) fun w1 => ?_
    refine ⟨by simp, ?_⟩
    refine v_mulL (k := 4) (by simp) (by decide) ?_
    refine v_addLQ.mpr ⟨by simp, ?_⟩
    refine mk_tm (d := .non) (fun {A} a => by simpa using a) rfl fun w2 => ?_
    refine mk_ti (d := other) (fun {A} a => by simpa using a) (pln_up _ 3 11 (by decide) hoth) fun w3 => ?_
    refine mk_tm (d := .tup (ls.map D.int)) (fun {A} a => by simpa using a) (pln_up _ 3 11 (by decide) lp) fun w4 => ?_
    refine ⟨by simp, ?_⟩
    refine v_addLQ.mpr ⟨by simp, ?_⟩
    refine pick_ok ok7 (by simp) (by simp) fun value p9 hval ok9 _ => ?_
    have hv : Val value := by
      simp at hval
      rcases hval with rfl | rfl | rfl | rfl | rfl | rfl | rfl | rfl | rfl | rfl | rfl | rfl | rfl | rfl <;> first | assumption | skip
      · exact .pl _ (pln_up _ 3 12 (by decide) hopl)
      · exact .pl _ rfl
    clear hval v1 v2 v3 v4 v5 v6 v7 v8 v9 w1 w2 w3 w4
    refine ⟨by simp, ?_⟩
    simp only [onNx_nx, List.set_cons_succ, List.set_cons_zero]
    -- tight, timelier
    refine s_seq.mpr ?_
    rw [s_set_, y_sh]
    refine asks_ti h h0 (by omega) hv rfl rfl rfl ?_
    refine ⟨by simp, ?_⟩
    simp only [onNx_nx, List.set_cons_succ, List.set_cons_zero]
    refine s_seq.mpr ?_
    rw [s_set_, y_sh]
    refine asks_tm (os := os) h h0 (by omega) hv rfl rfl rfl rfl ?_
    refine ⟨by simp, ?_⟩
    simp only [onNx_nx, List.set_cons_succ, List.set_cons_zero]
    simp only [s_if_, y_tnot, y_tru, y_call, y_acons, y_anil, y_tup, y_var, List.getElem?_cons_succ, List.getElem?_cons_zero, onSh_sh]
    refine eq_yes (ti_eq h h0 (by omega) hp hv) ?_
    refine eq_yes (tm_eq h h0 (by omega) hp hv) ?_
    refine ⟨by simp, by simp, ?_⟩
    refine eq_yes law_is_bl ?_
    simp only [beq_self_eq_true, Bool.and_self, v_truB, yesO_some, Bool.not_true, Bool.false_eq_true, if_false, s_nil]
    exact k _ _ _ _ _ _ _ _ _ _ ok9
end
end K69
namespace K69
open PySem L2 Cr
noncomputable def endS : FS := (sSeq (sParX [18, 19] (xCons (fSh (fMake "Tight" mi_Tight (aCons (fLst (aCons (fC (.int 0)) aNil)) aNil))) (xCons (fSh (fMake "Timelier" mi_Timelier (aCons (fLst (aCons (fC (.int 0)) (aCons (fC (.int 1)) aNil))) aNil))) xNil)))
  (sSeq (sIf (tfOr (fBl (f2 (gIs true) (fOwn "Tight" mq_Tight (fVar 18) (fMake "Tight" mi_Tight (aCons (fTup (aCons (fC (.int 0)) aNil)) aNil))) (fC (.bl true)))) (tfOr (fBl (f2 (gIs true) (fOwn "Tight" mn_Tight (fVar 18) (fMake "Tight" mi_Tight (aCons (fTup aNil) aNil))) (fC (.bl true)))) (fBl (f2 (gIs true) (fOwn "Tight" mq_Tight (fVar 18) (fTup (aCons (fC (.int 0)) aNil))) (fC (.bl false)))))) (sRet (fC (.bl false))) sNil)
  (sRet (fAnd (f2 (gIs false) (fOwn "Timelier" mq_Timelier (fVar 19) (fMake "Timelier" mi_Timelier (aCons (fTup (aCons (fC (.int 0)) (aCons (fC (.int 1)) aNil))) aNil))) (fC (.bl true))) (fAnd (f2 (gIs false) (fOwn "Timelier" mn_Timelier (fVar 19) (fMake "Timelier" mi_Timelier (aCons (fTup (aCons (fC (.int 1)) (aCons (fC (.int 0)) aNil))) aNil))) (fC (.bl true))) (f2 (gIs false) (fOwn "Timelier" mq_Timelier (fVar 19) (fVar 18)) (fC (.bl false))))))))
theorem l18 : ∀ {l : List Slot}, l.length = 18 → ∃ s2 s3 s4 s5 s6 s7 s8 s9 s10 s11 s12 s13 s14 s15 s16 s17 s18 s19, l = [s2, s3, s4, s5, s6, s7, s8, s9, s10, s11, s12, s13, s14, s15, s16, s17, s18, s19]
  | [s2, s3, s4, s5, s6, s7, s8, s9, s10, s11, s12, s13, s14, s15, s16, s17, s18, s19], _ => ⟨s2, s3, s4, s5, s6, s7, s8, s9, s10, s11, s12, s13, s14, s15, s16, s17, s18, s19, rfl⟩
theorem mq_ti {a b : D} {p : PenSt} : mq_Tight [TiO a, TiO b] p = (gEq a b).map fun r => (r, p) := by
  unfold mq_Tight mOf sRet fAnd f1 f2 fVarB
  simp [begin_]
  cases gEq a b <;> rfl
theorem mn_ti {a b : D} {p : PenSt} {k : Bool} (h : gEq a b = some (.bl k)) : mn_Tight [TiO a, TiO b] p = some (.bl (!k), p) := by
  refine yes_eq ?_
  unfold mn_Tight
  simp [begin_]
  refine ⟨rfl, ?_⟩
  refine ⟨rfl, ?_⟩
  show Yes (mq_Tight [TiO a, TiO b] p) _
  rw [mq_ti, h]
  simp
theorem mq_tm {a b : D} {p : PenSt} : mq_Timelier [TmO a, TmO b] p = (gEq a b).map fun r => (r, p) := by
  unfold mq_Timelier mOf sRet fAnd f1 f2 fVarB
  simp [begin_]
  cases gEq a b <;> rfl
theorem mn_tm {a b : D} {p : PenSt} {k : Bool} (h : gEq a b = some (.bl k)) : mn_Timelier [TmO a, TmO b] p = some (.bl (!k), p) := by
  refine yes_eq ?_
  unfold mn_Timelier
  simp [begin_]
  refine ⟨rfl, ?_⟩
  refine ⟨rfl, ?_⟩
  show Yes (mq_Timelier [TmO a, TmO b] p) _
  rw [mq_tm, h]
  simp
theorem end_ok {p : PenSt} {env : Cr.Env} (hl : env.length = 20) : YesS (endS env p) fun o => ∃ p', o = .rt (.bl true) p' := by
  have mkti : ∀ (ga : FV (List D)) (d : D) (env : Cr.Env) (p : PenSt) (Q : D → PenSt → Prop), (∀ {A : List D → PenSt → Prop}, A [d] p → Yes (ga env p) A) → pln d 11 = true → Q (TiO (asT d)) p → Yes (fMake "Tight" mi_Tight ga env p) Q := fun ga d env p Q e h k => mk_ti e h fun _ => k
  have mktm : ∀ (ga : FV (List D)) (d : D) (env : Cr.Env) (p : PenSt) (Q : D → PenSt → Prop), (∀ {A : List D → PenSt → Prop}, A [d] p → Yes (ga env p) A) → pln d 11 = true → Q (TmO (asT d)) p → Yes (fMake "Timelier" mi_Timelier ga env p) Q := fun ga d env p Q e h k => mk_tm e h fun _ => k
  unfold endS
  refine s_seq.mpr ?_
  simp only [s_parX_, y_xcons, y_xnil, y_sh]
  refine mkti _ (.lst [.int 0]) _ _ _ (fun {A} a => by simpa using a) rfl ?_
  refine mktm _ (.lst [.int 0, .int 1]) _ _ _ (fun {A} a => by simpa using a) rfl ?_
  simp only [setAll, List.length_set, hl, show (18 < 20) = True by simp, show (19 < 20) = True by simp, if_true, yesO_some, onNx_nx]
  have e18 : (List.set (List.set env 18 (.sh (TiO (asT (.lst [.int 0]))))) 19 (.sh (TmO (asT (.lst [.int 0, .int 1])))))[18]? = some (.sh (TiO (.tup [.int 0]))) := by simp [hl]; rfl
  have e19 : (List.set (List.set env 18 (.sh (TiO (asT (.lst [.int 0]))))) 19 (.sh (TmO (asT (.lst [.int 0, .int 1])))))[19]? = some (.sh (TmO (.tup [.int 0, .int 1]))) := by simp [hl]; rfl
  generalize (List.set (List.set env 18 (.sh (TiO (asT (.lst [.int 0]))))) 19 (.sh (TmO (asT (.lst [.int 0, .int 1]))))) = env2 at e18 e19
  have own1 : Yes (fOwn "Tight" mq_Tight (fVar 18) (fMake "Tight" mi_Tight (aCons (fTup (aCons (fC (.int 0)) aNil)) aNil)) env2 p) fun r q => r = .bl true ∧ q = p := by
    simp only [y_own, y_var, e18, onSh_sh]
    refine mkti _ (.tup [.int 0]) _ _ _ (fun {A} a => by simpa using a) rfl ⟨rfl, rfl, ?_⟩
    exact ⟨.bl true, p, rfl, rfl, rfl⟩
  have own2 : Yes (fOwn "Tight" mn_Tight (fVar 18) (fMake "Tight" mi_Tight (aCons (fTup aNil) aNil)) env2 p) fun r q => r = .bl true ∧ q = p := by
    simp only [y_own, y_var, e18, onSh_sh]
    refine mkti _ (.tup []) _ _ _ (fun {A} a => by simpa using a) rfl ⟨rfl, rfl, ?_⟩
    exact ⟨.bl true, p, mn_ti (a := .tup [.int 0]) (b := .tup []) (k := false) rfl, rfl, rfl⟩
  have own3 : Yes (fOwn "Tight" mq_Tight (fVar 18) (fTup (aCons (fC (.int 0)) aNil)) env2 p) fun r q => r = .bl false ∧ q = p := by
    simp only [y_own, y_var, e18, onSh_sh, y_tup, y_acons, y_anil, y_c]
    refine ⟨by simp, rfl, rfl, ?_⟩
    exact ⟨.bl false, p, rfl, rfl, rfl⟩
  have own4 : Yes (fOwn "Timelier" mq_Timelier (fVar 19) (fMake "Timelier" mi_Timelier (aCons (fTup (aCons (fC (.int 0)) (aCons (fC (.int 1)) aNil))) aNil)) env2 p) fun r q => r = .bl true ∧ q = p := by
    simp only [y_own, y_var, e19, onSh_sh]
    refine mktm _ (.tup [.int 0, .int 1]) _ _ _ (fun {A} a => by simpa using a) rfl ⟨rfl, rfl, ?_⟩
    exact ⟨.bl true, p, rfl, rfl, rfl⟩
  have own5 : Yes (fOwn "Timelier" mn_Timelier (fVar 19) (fMake "Timelier" mi_Timelier (aCons (fTup (aCons (fC (.int 1)) (aCons (fC (.int 0)) aNil))) aNil)) env2 p) fun r q => r = .bl true ∧ q = p := by
    simp only [y_own, y_var, e19, onSh_sh]
    refine mktm _ (.tup [.int 1, .int 0]) _ _ _ (fun {A} a => by simpa using a) rfl ⟨rfl, rfl, ?_⟩
    exact ⟨.bl true, p, mn_tm (a := .tup [.int 0, .int 1]) (b := .tup [.int 1, .int 0]) (k := false) rfl, rfl, rfl⟩
  have own6 : Yes (fOwn "Timelier" mq_Timelier (fVar 19) (fVar 18) env2 p) fun r q => r = .bl false ∧ q = p := by
    simp only [y_own, y_var, e18, e19, onSh_sh]
    exact ⟨rfl, rfl, .bl false, p, rfl, rfl, rfl⟩
  simp only [s_seq, s_if_, y_tor, y_bl, y_f2, y_c, s_ret_, y_and, yes_at (yes_eq own1), yes_at (yes_eq own2), yes_at (yes_eq own3), yes_at (yes_eq own4), yes_at (yes_eq own5), yes_at (yes_eq own6)]
  simp [gIs, isBlD, s_nil, onB, -y_own, yes_at (yes_eq own4), yes_at (yes_eq own5), yes_at (yes_eq own6)]
theorem lawM : LawM 18 b_law := fun ns hl _ => by
  have main : YesS (b_law (.no :: .sh .pen :: List.replicate 18 Slot.no) (pen0 ns)) fun o => ∃ p', o = .rt (.bl true) p' := by
    unfold b_law
    refine s_seq.mpr ?_
    simp only [s_for_, y_rgI, y_rg1, y_c, onInt_i]
    refine ⟨by decide, ?_⟩
    refine for_yes (I := fun rest e q => (∃ l : List Slot, e = .no :: .sh .pen :: l ∧ l.length = 18) ∧ q.Ok) ⟨⟨_, rfl, by simp⟩, pen0_ok hl⟩ ?_ ?_
    · rintro d rest e q ⟨⟨l, rfl, hll⟩, hq⟩
      obtain ⟨s2, s3, s4, s5, s6, s7, s8, s9, s10, s11, s12, s13, s14, s15, s16, s17, s18, s19, rfl⟩ := l18 hll
      rw [t_name]
      refine ⟨by simp, ?_⟩
      simp only [List.set_cons_succ, List.set_cons_zero]
      refine s_seq.mpr ?_
      rw [s_set_, x_drawn]
      simp only [y_sh, y_call, y_acons, y_anil, y_var, y_c, List.getElem?_cons_succ, List.getElem?_cons_zero, onSh_sh]
      refine drawn_dues_ok (most := 6) hq (by decide) (by decide) fun n M p1 hn0 hn1 h ok1 => ?_
      refine ⟨by simp, ?_⟩
      simp only [onNx_nx, List.set_cons_succ, List.set_cons_zero]
      refine s_seq.mpr ?_
      rw [x_lby]
      simp only [s_parX_, y_xcons, y_xnil, y_sh, y_f1, y_varB, List.getElem?_cons_succ, List.getElem?_cons_zero, onBw_sh, v_lenT, yesO_some, tupsOf_len, h.len]
      refine y_mk ?_
      simp only [y_acons, y_var, y_anil, List.getElem?_cons_succ, List.getElem?_cons_zero, onSh_sh]
      refine du_init h hn0 (by omega) ?_
      simp only [y_call, y_acons, y_var, y_anil, List.getElem?_cons_succ, List.getElem?_cons_zero, onSh_sh]
      refine eq_yes (law_due_eq h (by omega)) ?_
      simp [setAll]
      rw [x_llots]
      refine eq_yes (all_lots_eq (by omega) (by omega)) ?_
      rw [Int.toNat_natCast]
      refine for_yes (I := fun rest e q => (∃ s8 s9 s10 s11 s12 s13 s14 s15 s16 s17 s18 s19 : Slot, e = [.no, .sh .pen, .sh d, .sh (.tup (tupsOf M)), .sh (.int n), .sh (DuO M), .sh (.tup ((dueP M n).map D.int)), .sh (.lst (tupsOf (tsort (lotK n)))), s8, s9, s10, s11, s12, s13, s14, s15, s16, s17, s18, s19]) ∧ q.Ok) ⟨⟨_, _, _, _, _, _, _, _, _, _, _, _, rfl⟩, ok1⟩ ?_ ?_
      · rintro d2 rest2 e q ⟨⟨s8, s9, s10, s11, s12, s13, s14, s15, s16, s17, s18, s19, rfl⟩, hq⟩
        rw [t_name]
        refine ⟨by simp, ?_⟩
        simp only [List.set_cons_succ, List.set_cons_zero]
        refine turn_ok hq h hn0 hn1 ⟨_, rfl, dueP_perm M n⟩ fun s9 s10 s11 s12 s13 s14 s15 s16 s17 p' ok => ?_
        exact ⟨⟨_, _, _, _, _, _, _, _, _, _, _, _, rfl⟩, ok⟩
      · rintro e q ⟨⟨s8, s9, s10, s11, s12, s13, s14, s15, s16, s17, s18, s19, rfl⟩, hq⟩
        exact ⟨⟨_, rfl, rfl⟩, hq⟩
    · rintro e q ⟨⟨l, rfl, hll⟩, hq⟩
      exact end_ok (by simp [hll])
  obtain ⟨o, h1, p', rfl⟩ := main
  exact ⟨p', h1⟩
end K69
namespace K69
open PySem L2 Cr
theorem all_law {P : Program} {w : World} {K : PySem.W.Frag} {mg : Str → Option Value} {h : Heap} {f : Addr} (X : K.In h) (N : h.Ns mainGlobals mg) (c : He.SaysD fas fns K) (e : exB2 cs fls tfs K = true) (hm : LawM 18 b_law) (hf : mg ("law" : Str) = some (.ref f)) :
    ∃ fd : FuncData, (∀ (s : Shared) (u : Value), PySem.BindsTo s fd ⟨[u], []⟩ [("script", u)]) ∧ ∀ base : Heap, K.In base → base.Ns mainGlobals mg → (∀ p ∈ tfs, LamX.TabB base mg (He.cT K p).1 (He.cT K p).2) → FnOk P w K mg base CX0 16 f fd ["script"] (spLaw K (tbK K tfs)) := by
  obtain ⟨fd, F⟩ := c.def_ 42 (d := dTop "law" t_law) rfl
  have e2 := hf.symm.trans (He.glo_ok X N (c.fact 62 (f := .glo "law") rfl))
  cases e2
  have b := FunD.bindsA (ps := ["script"]) F fun _ _ _ _ _ _ us hl => match us, hl with | [_], _ => rfl
  exact ⟨fd, fun s u => b s [u] rfl, fun base _ _ hT => ok_law (txt_of X N c e hT) hm _ fd (fun_of F)⟩
end K69
open PySem PySem.W PySem.Calls PyProof.Rows
theorem PySem.Challenge.cw_whatfirst_k69_worst_lateness_bent_holds : PySem.Challenge.rw_whatfirst_k69_worst_lateness_bent.Holds := by
  w_on; o_law
  refine HandSHeadRun.head_any (r := OpenLaw.row PySem.Challenge.rw_whatfirst_k69_worst_lateness_bent) (q := view (OpenLaw.row PySem.Challenge.rw_whatfirst_k69_worst_lateness_bent).prog [46]) (H := Cr.hookB 5 K69.fas K69.fns K69.tfs (Cr.exB2 K69.cs K69.fls K69.tfs)) (ob := K69.ob) (M := 3000) (loose := (["__name__", "MOST_JOBS", "MOST_LENGTH", "MOST_DUE", "is_whole", "is_number", "as_tuples", "is_index", "is_order", "need_order", "is_lot", "is_due_job", "need_dues", "need_due_order", "latenesses_by", "by_dues", "least_by_dues", "bound_by", "lots_by", "first_tight", "tight_or_timelier", "tight_holds", "timelier_holds", "_law_pen", "_law_draw", "_law_pick", "_law_shuffled", "_law_is", "_law_whole", "_law_is_order"] : List PySem.Str) ++ (["_law_is_lot", "_law_drawn_dues", "_law_late_row", "_law_by_dues", "_law_all_lots", "_law_lot_bound", "_law_bent_order", "Dues", "Tight", "Timelier", "FirstError", "BadRow"] : List PySem.Str)) (d := HandSHeadRun.topDef (OpenLaw.row PySem.Challenge.rw_whatfirst_k69_worst_lateness_bent).prog 46) (kwd := []) K69.ob_eq
    (by kernel_rfl) (fun s => by kernel_rfl) K69.run (by kernel_rfl) (by kernel_rfl) (by kernel_rfl) (by rfl) (by first | assumption | decide +kernel) (by decide +kernel) ⟨rfl, rfl, rfl, rfl, rfl, by decide +kernel⟩ ?hw ?hc
  case hw => w_witness2
  case hc =>
    refine Cr.walkY (l := PySem.Challenge.rw_whatfirst_k69_worst_lateness_bent) (k := 16) rfl (by kernel_rfl) ⟨rfl, by decide, by decide⟩ ?F
    intro w K mg f h KX G c e hmg0
    have hmg : mg ("law" : PySem.Str) = some (.ref f) := by
      have e : (HandSHeadRun.topDef (OpenLaw.row PySem.Challenge.rw_whatfirst_k69_worst_lateness_bent).prog 46).name = ("law" : PySem.Str) := by kernel_rfl
      rw [← e]
      exact hmg0
    exact K69.all_law KX G c e K69.lawM hmg
