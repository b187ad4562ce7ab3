import PyProof.Rows.All
import Wide.All
import OpenK.AllK
import Wide.FinOn
import KE.KStateDown
import HandS.ForMost
import HandS.WordsExc
import HandS.Conv
import HandS.IsInst
import HandS.TupAny
import HandS.Zip
import HandS.RevTup
import HandS.TupLe
import HandS.Iter
import KE.DataEq
import KE.DataCmp
import KE.SortData
import HandS.Lambda
import HandS.Defaults
import KE.DataFind
import HandS.More
import KE.KDictPairs
import KE.GoesEnum
import HandS.TupMul
import HandS.Style
import KE.DataMinMax
import HandS.Strs
import HandS.Head0
import HandS.Head1
import HandS.Head2
import HandS.HeadEnd
import HandS.HeadHook1
import HandS.HeadHook2
import PySem.Challenge.RW_parthost_k41_whole_in_any_order
set_option Elab.async false
set_option linter.all false
set_option maxRecDepth 100000
set_option maxHeartbeats 0
/-! THE DATA LAYER 1: values that stand for data trees, ghost heaps, what slots hold, readings made of functions on data. -/
namespace PD
open PySem PySem.Spec PyProof.Rows L2

abbrev D := PyData
def keyD : Key → D
  | .inl i => .int i
  | .inr x => .str x

/-- a tuple's object without a dict of its own -/
def TupO (o : Obj) : Prop := o.cls = .type "tuple" ∧ o.dict = none
/-- a tuple that lies in the ghost heap, known to its object -/
def TGh (G : Hp) (a : Addr) (xs : List V) : Prop := ∃ o, G a = some (.frz o (.tup xs)) ∧ TupO o
/-- a tuple of the written part -/
def TK (K : PySem.W.Frag) (a : Addr) (xs : List V) : Prop := ∃ (o : Obj) (its : Array Value) (n : Nat), K.lookup a = some o ∧ TupO o ∧ o.data = .seq its n ∧ its.size ≤ sizeLine ∧ Vals xs its.toList
/-- a dict that lies in the ghost heap, known to its object -/
def DG (G : Hp) (a : Addr) (kx : List (Key × V)) : Prop := ∃ o, G a = some (.frz o (.dK kx))
/-- a list that lies in the ghost heap: tracked, or known to its object -/
def LG (G : Hp) (a : Addr) (xs : List V) : Prop := G a = some (.lst xs) ∨ ∃ o, G a = some (.frz o (.lst xs))
mutual
/-- the value v stands for the datum d; its objects lie in the ghost heap G or in the written part -/
def Dv (K : PySem.W.Frag) (G : Hp) : D → V → Prop
  | .none, v => v = .non
  | .bool b, v => v = .bl b
  | .int i, v => v = .int i
  | .str x, v => v = .str x ∧ x.length ≤ sizeLine
  | .list ds, v => ∃ a xs, v = .ref a ∧ (LG G a xs ∨ SqL K (fun _ => Option.none) a xs) ∧ xs.length ≤ sizeLine ∧ DvAll K G ds xs
  | .tuple ds, v => ∃ a xs, v = .ref a ∧ (TGh G a xs ∨ TK K a xs) ∧ xs.length ≤ sizeLine ∧ DvAll K G ds xs
  | .dict kvs, v => ∃ a kx, v = .ref a ∧ DG G a kx ∧ kx.length ≤ sizeLine ∧ DvKV K G kvs kx
def DvAll (K : PySem.W.Frag) (G : Hp) : List D → List V → Prop
  | [], vs => vs = []
  | d :: ds, vs => ∃ v r, vs = v :: r ∧ Dv K G d v ∧ DvAll K G ds r
def DvKV (K : PySem.W.Frag) (G : Hp) : List (D × D) → List (Key × V) → Prop
  | [], vs => vs = []
  | (k, d) :: ds, vs => ∃ key v r, vs = (key, v) :: r ∧ k = keyD key ∧ Dv K G d v ∧ DvKV K G ds r
end

/-- grows -/
def Gr (G G' : Hp) : Prop := ∀ a o, G a = some o → G' a = some o
theorem Gr.refl (G : Hp) : Gr G G := fun _ _ h => h
theorem Gr.trans {G G' G'' : Hp} (h : Gr G G') (k : Gr G' G'') : Gr G G'' := fun a o e => k a o (h a o e)

section
variable {K : PySem.W.Frag} {G G' H H' : Hp}
theorem LG.mono (g : Gr G G') {a : Addr} {xs : List V} (h : LG G a xs) : LG G' a xs := h.imp (g _ _) fun ⟨o, h⟩ => ⟨o, g _ _ h⟩
theorem DG.mono (g : Gr G G') {a : Addr} {xs : List (Key × V)} (h : DG G a xs) : DG G' a xs := let ⟨o, h⟩ := h; ⟨o, g _ _ h⟩
theorem TGh.mono (g : Gr G G') {a : Addr} {xs : List V} (h : TGh G a xs) : TGh G' a xs := let ⟨o, h, t⟩ := h; ⟨o, g _ _ h, t⟩
mutual
theorem Dv.mono (g : Gr G G') : ∀ (d : D) (v : V), Dv K G d v → Dv K G' d v
  | .none, _, h => h
  | .bool _, _, h => h
  | .int _, _, h => h
  | .str _, _, h => h
  | .list ds, v, h => by
    simp only [Dv] at h ⊢
    obtain ⟨a, xs, e, h1, h2, h3⟩ := h
    exact ⟨a, xs, e, h1.imp (LG.mono g) id, h2, DvAll.mono g ds xs h3⟩
  | .tuple ds, v, h => by
    simp only [Dv] at h ⊢
    obtain ⟨a, xs, e, h1, h2, h3⟩ := h
    exact ⟨a, xs, e, h1.imp (TGh.mono g) id, h2, DvAll.mono g ds xs h3⟩
  | .dict kvs, v, h => by
    simp only [Dv] at h ⊢
    obtain ⟨a, kx, e, h1, h2, h3⟩ := h
    exact ⟨a, kx, e, h1.mono g, h2, DvKV.mono g kvs kx h3⟩
theorem DvAll.mono (g : Gr G G') : ∀ (ds : List D) (vs : List V), DvAll K G ds vs → DvAll K G' ds vs
  | [], _, h => h
  | d :: ds, vs, h => by
    simp only [DvAll] at h ⊢
    obtain ⟨v, r, e, h1, h2⟩ := h
    exact ⟨v, r, e, Dv.mono g d v h1, DvAll.mono g ds r h2⟩
theorem DvKV.mono (g : Gr G G') : ∀ (ds : List (D × D)) (vs : List (Key × V)), DvKV K G ds vs → DvKV K G' ds vs
  | [], _, h => h
  | (k, d) :: ds, vs, h => by
    simp only [DvKV] at h ⊢
    obtain ⟨key, v, r, e, ek, h1, h2⟩ := h
    exact ⟨key, v, r, e, ek, Dv.mono g d v h1, DvKV.mono g ds r h2⟩
end

theorem DvAll.nil : DvAll K G [] [] := by simp [DvAll]
theorem DvAll.cons {d : D} {ds : List D} {v : V} {vs : List V} (h : Dv K G d v) (t : DvAll K G ds vs) : DvAll K G (d :: ds) (v :: vs) := by
  simp only [DvAll]; exact ⟨v, vs, rfl, h, t⟩
theorem DvAll.inv {d : D} {ds : List D} {vs : List V} (h : DvAll K G (d :: ds) vs) : ∃ v r, vs = v :: r ∧ Dv K G d v ∧ DvAll K G ds r := by
  simpa only [DvAll] using h
theorem DvAll.inv_nil {vs : List V} (h : DvAll K G [] vs) : vs = [] := by simpa only [DvAll] using h
theorem DvAll.length : ∀ {ds : List D} {vs : List V}, DvAll K G ds vs → vs.length = ds.length
  | [], vs, h => by rw [h.inv_nil]; rfl
  | d :: ds, vs, h => by
    obtain ⟨v, r, rfl, _, t⟩ := h.inv
    simp [DvAll.length t]
theorem DvAll.get : ∀ {ds : List D} {vs : List V} {i : Nat} {d : D}, DvAll K G ds vs → ds[i]? = some d → ∃ v, vs[i]? = some v ∧ Dv K G d v
  | [], _, _, _, _, e => by simp at e
  | d :: ds, vs, 0, _, h, e => by
    obtain ⟨v, r, rfl, h1, _⟩ := h.inv
    have e' : d = _ := Option.some.inj e
    subst e'
    exact ⟨v, rfl, h1⟩
  | d :: ds, vs, i + 1, _, h, e => by
    obtain ⟨v, r, rfl, _, t⟩ := h.inv
    exact DvAll.get (i := i) t e
theorem DvAll.getV : ∀ {ds : List D} {vs : List V} {i : Nat} {v : V}, DvAll K G ds vs → vs[i]? = some v → ∃ d, ds[i]? = some d ∧ Dv K G d v
  | [], vs, i, v, h, e => by rw [h.inv_nil] at e; simp at e
  | d :: ds, vs, 0, v, h, e => by
    obtain ⟨v', r, rfl, h1, _⟩ := h.inv
    have e' : v' = v := Option.some.inj e
    subst e'
    exact ⟨d, rfl, h1⟩
  | d :: ds, vs, i + 1, v, h, e => by
    obtain ⟨v', r, rfl, _, t⟩ := h.inv
    exact DvAll.getV (i := i) t e
theorem DvAll.append : ∀ {ds es : List D} {vs us : List V}, DvAll K G ds vs → DvAll K G es us → DvAll K G (ds ++ es) (vs ++ us)
  | [], _, _, _, h, t => by rw [h.inv_nil]; exact t
  | d :: ds, _, _, _, h, t => by
    obtain ⟨v, r, rfl, h1, h2⟩ := h.inv
    exact .cons h1 (DvAll.append h2 t)
theorem DvAll.take : ∀ {ds : List D} {vs : List V} (n : Nat), DvAll K G ds vs → DvAll K G (ds.take n) (vs.take n)
  | _, _, 0, _ => .nil
  | [], _, n + 1, h => by rw [h.inv_nil]; exact .nil
  | d :: ds, _, n + 1, h => by
    obtain ⟨v, r, rfl, h1, h2⟩ := h.inv
    exact .cons h1 (DvAll.take n h2)
theorem DvAll.drop : ∀ {ds : List D} {vs : List V} (n : Nat), DvAll K G ds vs → DvAll K G (ds.drop n) (vs.drop n)
  | _, _, 0, h => h
  | [], _, n + 1, h => by rw [h.inv_nil]; exact .nil
  | d :: ds, _, n + 1, h => by
    obtain ⟨v, r, rfl, h1, h2⟩ := h.inv
    exact DvAll.drop n h2
theorem DvAll.reverse : ∀ {ds : List D} {vs : List V}, DvAll K G ds vs → DvAll K G ds.reverse vs.reverse
  | [], _, h => by rw [h.inv_nil]; exact .nil
  | d :: ds, _, h => by
    obtain ⟨v, r, rfl, h1, h2⟩ := h.inv
    rw [List.reverse_cons, List.reverse_cons]
    exact DvAll.append (DvAll.reverse h2) (.cons h1 .nil)
theorem DvAll.rep {d : D} {v : V} (h : Dv K G d v) : ∀ n : Nat, DvAll K G (List.replicate n d) (List.replicate n v)
  | 0 => .nil
  | n + 1 => .cons h (DvAll.rep h n)
theorem DvAll.flatRep {ds : List D} {vs : List V} (h : DvAll K G ds vs) : ∀ n : Nat, DvAll K G (List.replicate n ds).flatten (List.replicate n vs).flatten
  | 0 => .nil
  | n + 1 => by
    rw [List.replicate_succ, List.replicate_succ, List.flatten_cons, List.flatten_cons]
    exact DvAll.append h (DvAll.flatRep h n)
theorem DvKV.length : ∀ {ds : List (D × D)} {vs : List (Key × V)}, DvKV K G ds vs → vs.length = ds.length
  | [], vs, h => by have : vs = [] := by simpa only [DvKV] using h
                    rw [this]; rfl
  | (k, d) :: ds, vs, h => by
    simp only [DvKV] at h
    obtain ⟨key, v, r, rfl, _, _, t⟩ := h
    simp [DvKV.length t]

/-! ### the ghost heap within the heap -/
/-- what is frozen stands in the heap as it is -/
def Sub (G H : Hp) : Prop := ∀ a u, G a = some u → H a = some u
theorem sq_none {a : Addr} {xs : List V} (h : SqL K (fun _ => none) a xs) (H : Hp) : SqL K H a xs := by
  rcases h with (h | ⟨_, h⟩) | h
  · cases h
  · cases h
  · exact .inr h
theorem DG.rd (s : Sub G H) {a : Addr} {kx : List (Key × V)} (h : DG G a kx) : Rd H a (.dK kx) := let ⟨o, h⟩ := h; .inr ⟨o, s _ _ h⟩
theorem LG.rd (s : Sub G H) {a : Addr} {xs : List V} (h : LG G a xs) : Rd H a (.lst xs) := h.elim (fun h => .inl (s _ _ h)) fun ⟨o, h⟩ => .inr ⟨o, s _ _ h⟩
theorem Sub.sq (s : Sub G H) {a : Addr} {xs : List V} (h : LG G a xs ∨ SqL K (fun _ => none) a xs) : SqL K H a xs :=
  h.elim (fun h => .inl (h.rd s)) fun h => sq_none h H
theorem TK.sq {a : Addr} {xs : List V} (h : TK K a xs) (H : Hp) : SqT K H a xs := let ⟨o, its, n, h1, h2, h3⟩ := h; .inr ⟨o, its, n, h1, h2.1, h3⟩
theorem Sub.sqT (s : Sub G H) {a : Addr} {xs : List V} (h : TGh G a xs ∨ TK K a xs) : SqT K H a xs :=
  h.elim (fun ⟨o, h, _⟩ => .inl (.inr ⟨o, s _ _ h⟩)) fun h => h.sq H

/-- the outermost object may be one that is owned (not in G) -/
def Sh (K : PySem.W.Frag) (H G : Hp) : D → V → Prop
  | .list ds, v => ∃ a xs, v = .ref a ∧ SqL K H a xs ∧ xs.length ≤ sizeLine ∧ DvAll K G ds xs
  | .dict kvs, v => ∃ a kx, v = .ref a ∧ Rd H a (.dK kx) ∧ kx.length ≤ sizeLine ∧ DvKV K G kvs kx
  | d, v => Dv K G d v
theorem Dv.sh (s : Sub G H) : ∀ {d : D} {v : V}, Dv K G d v → Sh K H G d v
  | .none, _, h => h
  | .bool _, _, h => h
  | .int _, _, h => h
  | .str _, _, h => h
  | .list ds, v, h => by
    simp only [Dv] at h
    obtain ⟨a, xs, e, h1, h2, h3⟩ := h
    exact ⟨a, xs, e, s.sq h1, h2, h3⟩
  | .tuple ds, v, h => h
  | .dict kvs, v, h => by
    simp only [Dv] at h
    obtain ⟨a, kx, e, h1, h2, h3⟩ := h
    exact ⟨a, kx, e, h1.rd s, h2, h3⟩

/-! ### what a step may do to both heaps -/
structure Ex (H G H' G' : Hp) : Prop where
  same : Same H H'
  gr : Gr G G'
  sub : Sub G' H'
  old : ∀ a, H a ≠ none → G' a = G a
theorem Ex.refl (s : Sub G H) : Ex H G H G := ⟨Same.refl H, Gr.refl G, s, fun _ _ => rfl⟩
theorem Ex.trans {H1 G1 H2 G2 : Hp} (x : Ex H G H1 G1) (y : Ex H1 G1 H2 G2) : Ex H G H2 G2 :=
  ⟨x.same.trans y.same, x.gr.trans y.gr, y.sub, fun a h => by
    rw [y.old a ?_, x.old a h]
    intro e
    cases q : H a with
    | none => exact h q
    | some o => rw [x.same a o q] at e; cases e⟩
theorem _root_.L2.Same.new {p : Addr} {o : HO} (n : H p = none) : Same H (upd H p o) := fun b x e => by
  rw [upd_ne (ne_of_none e n)]; exact e
theorem Sub.free (s : Sub G H) {p : Addr} (n : H p = none) : G p = none := by
  cases q : G p with
  | none => rfl
  | some o => have e := s p o q; rw [n] at e; cases e
theorem _root_.L2.Same.rd (e : Same H H') {a : Addr} {u : HO} (h : Rd H a u) : Rd H' a u := h.imp (e _ _) fun ⟨o, h⟩ => ⟨o, e _ _ h⟩
/-- a new object, left out of the ghost heap -/
theorem Ex.out (s : Sub G H) {p : Addr} {o : HO} (n : H p = none) : Ex H G (upd H p o) G :=
  ⟨Same.new n, Gr.refl G, fun a u h => Same.new n _ _ (s a u h), fun _ _ => rfl⟩
/-- a new object, frozen at once -/
theorem Ex.frz (s : Sub G H) {p : Addr} {o : HO} (n : H p = none) : Ex H G (upd H p o) (upd G p o) :=
  ⟨Same.new n, fun a u h => by rw [upd_ne (ne_of_none h (s.free n))]; exact h,
    fun a u h => by
      by_cases e : a = p
      · subst e; rw [upd_same] at h; cases h; exact upd_same
      · rw [upd_ne e] at h; exact Same.new n _ _ (s a u h),
    fun a h => upd_ne fun e => by subst e; exact h n⟩

theorem Sh.ex {H' G' : Hp} (x : Ex H G H' G') : ∀ {d : D} {v : V}, Sh K H G d v → Sh K H' G' d v
  | .none, _, h => h
  | .bool _, _, h => h
  | .int _, _, h => h
  | .str _, _, h => h
  | .list ds, v, h => by
    obtain ⟨a, xs, e, h1, h2, h3⟩ := h
    exact ⟨a, xs, e, x.same.seq h1, h2, h3.mono x.gr⟩
  | .tuple ds, v, h => Dv.mono x.gr (.tuple ds) v h
  | .dict kvs, v, h => by
    obtain ⟨a, kx, e, h1, h2, h3⟩ := h
    exact ⟨a, kx, e, x.same.rd h1, h2, h3.mono x.gr⟩
end
theorem _root_.L2.Same.seqT {K : PySem.W.Frag} {H H' : Hp} {a : Addr} {xs : List V} (e : Same H H') (h : SqT K H a xs) : SqT K H' a xs := h.imp (Same.rd e) id

/-! ### what the slots hold -/
/-- a host: its parts, those that are broken, those that run, what was said -/
structure HSt where
  parts : List (D × D)
  faulty : List (D × D)
  run : D
  rows : List D
/-- other things of the def's own: an instance with its dicts and its list; a dict keyed by tuples -/
inductive Ob where
  | host (h : HSt)
  | dT (kvs : List (List Key × D))
/-- how a thing is held: the def's own, new; the caller's, that the def may change; one that is only looked at -/
inductive Hold where
  | new | slf | bor
inductive Slot where
  | un
  /-- a datum, frozen -/
  | dat (d : D)
  /-- a list or a dict of the def's own, that may still change -/
  | own (d : D)
  /-- another thing -/
  | obj (k : Hold) (t : Ob)
abbrev Env := List Slot

def Own (K : PySem.W.Frag) (H G : Hp) (a : Addr) : D → Prop
  | .list ds => ∃ xs, H a = some (.lst xs) ∧ xs.length ≤ sizeLine ∧ DvAll K G ds xs
  | .dict kvs => ∃ kx, H a = some (.dK kx) ∧ kx.length ≤ sizeLine ∧ DvKV K G kvs kx
  | _ => False
/-- the class of the hosts -/
def HostCls (K : PySem.W.Frag) (C : Addr) : Prop := PySem.W.nsIn K mainGlobals "Host" = some (some (.ref C))
/-- a host's attributes -/
def hFs (pa fa ra : Addr) (v : V) : List (Str × V) := putF "rows" (.ref ra) (putF "running" v (putF "faulty" (.ref fa) (putF "parts" (.ref pa) [])))
structure HostAt (K : PySem.W.Frag) (H G : Hp) (p dx pa fa ra : Addr) (t : HSt) : Prop where
  ins : ∃ C v, HostCls K C ∧ H p = some (.ins C dx (hFs pa fa ra v)) ∧ Dv K G t.run v
  own : H dx = some (.own p)
  parts : Own K H G pa (.dict t.parts)
  faulty : Own K H G fa (.dict t.faulty)
  rows : Own K H G ra (.list t.rows)
  nodup : [p, dx, pa, fa, ra].Nodup
def DvKT (K : PySem.W.Frag) (G : Hp) : List (List Key × D) → List (List Key × V) → Prop
  | [], vs => vs = []
  | (k, d) :: ds, vs => ∃ v r, vs = (k, v) :: r ∧ Dv K G d v ∧ DvKT K G ds r
/-- the thing at p is t; its feet are F -/
def ObOk (K : PySem.W.Frag) (H G : Hp) (F : List Addr) (p : Addr) : Ob → Prop
  | .host t => ∃ dx pa fa ra, F = [p, dx, pa, fa, ra] ∧ HostAt K H G p dx pa fa ra t
  | .dT kvs => ∃ kx, F = [p] ∧ H p = some (.dT kx) ∧ kx.length ≤ sizeLine ∧ DvKT K G kvs kx

/-- a step that may change what stands at F -/
structure ExM (F : Addr → Prop) (H G H' G' : Hp) : Prop where
  same : ∀ b o, H b = some o → ¬ F b → H' b = some o
  live : ∀ b, H b ≠ none → H' b ≠ none
  gr : Gr G G'
  sub : Sub G' H'
  old : ∀ a, H a ≠ none → ¬ F a → G' a = G a
def NoF : Addr → Prop := fun _ => False
/-- the base of a def: what stood when it began, the thing at p with its feet F that may change, the tables of code -/
structure Bs where
  H : Hp
  p : Addr
  F : List Addr
  T : List (Addr × Str)
def Bs.of (H : Hp) : Bs := ⟨H, 0, [], []⟩
def Bs.M (B : Bs) (a : Addr) : Prop := a ∈ B.F ∨ ∃ q, (a, q) ∈ B.T
theorem Bs.of_M {H : Hp} {a : Addr} (h : (Bs.of H).M a) : False := by
  rcases h with h | ⟨q, h⟩ <;> cases h
abbrev ExB (B : Bs) (G0 H G : Hp) : Prop := ExM B.M B.H G0 H G
section
variable {K : PySem.W.Frag} {B : Bs} {G0 H G H' G' H1 G1 : Hp} {F F' : Addr → Prop}
theorem Ex.toM (x : Ex H G H' G') : ExM F H G H' G' := ⟨fun b o e _ => x.same b o e, fun b hb => by
    cases q : H b with
    | none => exact absurd q hb
    | some o => rw [x.same b o q]; exact nofun, x.gr, x.sub, fun a h _ => x.old a h⟩
theorem ExM.toEx (x : ExM NoF H G H' G') : Ex H G H' G' := ⟨fun b o e => x.same b o e id, x.gr, x.sub, fun a h => x.old a h id⟩
theorem ExM.ofEx (x : ExM (Bs.of H).M H G H' G') : Ex H G H' G' := ⟨fun b o e => x.same b o e Bs.of_M, x.gr, x.sub, fun a h => x.old a h Bs.of_M⟩
theorem ExM.refl (s : Sub G H) : ExM F H G H G := (Ex.refl s).toM
theorem ExM.free (x : ExM F H G H' G') {a : Addr} (h : H' a = none) : H a = none := by
  cases q : H a with
  | none => rfl
  | some o => exact absurd h (x.live a (by rw [q]; exact nofun))
theorem ExM.trans (x : ExM F H G H1 G1) (y : ExM F' H1 G1 H' G') (hF : ∀ a, F' a → H a = none ∨ F a) : ExM F H G H' G' :=
  have n : ∀ b, H b ≠ none → ¬ F b → ¬ F' b := fun b hb nf f => (hF b f).elim hb nf
  ⟨fun b o e nf => y.same b o (x.same b o e nf) (n b (by rw [e]; exact nofun) nf), fun b hb => y.live b (x.live b hb), x.gr.trans y.gr, y.sub,
    fun a h nf => by rw [y.old a (x.live a h) (n a h nf), x.old a h nf]⟩
theorem ExM.step (x : ExM F H G H1 G1) (y : Ex H1 G1 H' G') : ExM F H G H' G' := x.trans (F' := NoF) y.toM fun _ f => f.elim
theorem ExM.mono (x : ExM F H G H' G') (h : ∀ a, F a → H a = none ∨ F' a) : ExM F' H G H' G' :=
  have n : ∀ b, H b ≠ none → ¬ F' b → ¬ F b := fun b hb nf f => (h b f).elim hb nf
  ⟨fun b o e nf => x.same b o e (n b (by rw [e]; exact nofun) nf), x.live, x.gr, x.sub, fun a e nf => x.old a e (n a e nf)⟩
/-- one object changes -/
theorem ExM.one {a : Addr} {o : HO} (s : Sub G H) (g : G a = none) : ExM (· = a) H G (upd H a o) G :=
  ⟨fun b u e n => by rw [upd_ne n]; exact e, fun b hb => by unfold upd; split; exact nofun; exact hb, Gr.refl G, fun b u e => by
    rw [upd_ne (fun z => by subst z; rw [g] at e; cases e)]; exact s b u e, fun _ _ _ => rfl⟩
theorem Own.some {a : Addr} {d : D} (h : Own K H G a d) : H a ≠ none := by
  cases d with
  | list ds => obtain ⟨_, e, _⟩ := h; rw [e]; exact nofun
  | dict kvs => obtain ⟨_, e, _⟩ := h; rw [e]; exact nofun
  | _ => exact h.elim
theorem Own.keep {a : Addr} {d : D} (e : H' a = H a) (g : Gr G G') (h : Own K H G a d) : Own K H' G' a d := by
  cases d with
  | list ds => obtain ⟨xs, q, l, h⟩ := h; exact ⟨xs, by rw [e]; exact q, l, h.mono g⟩
  | dict kvs => obtain ⟨xs, q, l, h⟩ := h; exact ⟨xs, by rw [e]; exact q, l, h.mono g⟩
  | _ => exact h.elim
theorem _root_.L2.Same.keep (x : Same H H') {a : Addr} (h : H a ≠ none) : H' a = H a := by
  cases q : H a with
  | none => exact absurd q h
  | some o => exact x a o q
theorem Own.ex {a : Addr} {d : D} (x : Ex H G H' G') (h : Own K H G a d) : Own K H' G' a d := h.keep (x.same.keep h.some) x.gr
/-- neither a table nor one that is told by its object -/
def Ord (u : HO) : Prop := (∀ ps, u ≠ .tbl ps) ∧ ∀ φ, u ≠ .ext φ
theorem Own.ord {a : Addr} {d : D} (h : Own K H G a d) : ∃ u, H a = Option.some u ∧ Ord u := by
  cases d with
  | list ds => obtain ⟨_, e, _⟩ := h; exact ⟨_, e, nofun, nofun⟩
  | dict kvs => obtain ⟨_, e, _⟩ := h; exact ⟨_, e, nofun, nofun⟩
  | _ => exact h.elim
theorem HostAt.keep {p dx pa fa ra : Addr} {t : HSt} (h : HostAt K H G p dx pa fa ra t) (e : ∀ b ∈ [p, dx, pa, fa, ra], H' b = H b) (g : Gr G G') : HostAt K H' G' p dx pa fa ra t := by
  obtain ⟨⟨C, v, h1, h2, h3⟩, h4, h5, h6, h7, h8⟩ := h
  exact ⟨⟨C, v, h1, by rw [e p (by simp)]; exact h2, h3.mono g⟩, by rw [e dx (by simp)]; exact h4, h5.keep (e pa (by simp)) g, h6.keep (e fa (by simp)) g, h7.keep (e ra (by simp)) g, h8⟩
theorem DvKT.mono (g : Gr G G') : ∀ {ds : List (List Key × D)} {vs : List (List Key × V)}, DvKT K G ds vs → DvKT K G' ds vs
  | [], _, h => h
  | (k, d) :: ds, vs, h => by
    obtain ⟨v, r, e, h1, h2⟩ := h
    exact ⟨v, r, e, h1.mono g, DvKT.mono g h2⟩
theorem ObOk.keep {F : List Addr} {p : Addr} {t : Ob} (h : ObOk K H G F p t) (e : ∀ b ∈ F, H' b = H b) (g : Gr G G') : ObOk K H' G' F p t := by
  cases t with
  | host t =>
    obtain ⟨dx, pa, fa, ra, rfl, h⟩ := h
    exact ⟨dx, pa, fa, ra, rfl, h.keep e g⟩
  | dT kvs =>
    obtain ⟨kx, rfl, h1, h2, h3⟩ := h
    exact ⟨kx, rfl, by rw [e p (by simp)]; exact h1, h2, h3.mono g⟩
theorem ObOk.ord {F : List Addr} {p : Addr} {t : Ob} (h : ObOk K H G F p t) : ∀ b ∈ F, ∃ u, H b = Option.some u ∧ Ord u := by
  cases t with
  | host t =>
    obtain ⟨dx, pa, fa, ra, rfl, ⟨⟨C, v, h1, h2, h3⟩, h4, h5, h6, h7, h8⟩⟩ := h
    intro b hb
    simp only [List.mem_cons, List.not_mem_nil, or_false] at hb
    rcases hb with rfl | rfl | rfl | rfl | rfl
    · exact ⟨_, h2, nofun, nofun⟩
    · exact ⟨_, h4, nofun, nofun⟩
    · exact h5.ord
    · exact h6.ord
    · exact h7.ord
  | dT kvs =>
    obtain ⟨kx, rfl, h1, h2, h3⟩ := h
    intro b hb
    simp only [List.mem_cons, List.not_mem_nil, or_false] at hb
    subst hb
    exact ⟨_, h1, nofun, nofun⟩
theorem ObOk.head {F : List Addr} {p : Addr} {t : Ob} (h : ObOk K H G F p t) : p ∈ F := by
  cases t with
  | host t => obtain ⟨dx, pa, fa, ra, rfl, _⟩ := h; simp
  | dT kvs => obtain ⟨kx, rfl, _⟩ := h; simp
/-- the tables stay while none of what changes is a table or a code object -/
theorem tabs_keep {T : List (Addr × Str)} (t : LamX.Tabs T H) (h : ∀ b o, H b = Option.some o → ¬ Ord o → H' b = Option.some o) : LamX.Tabs T H' := fun p hp => by
  obtain ⟨ps, h1, h2, h3⟩ := t p hp
  refine ⟨ps, h _ _ h1 (fun z => z.1 ps rfl), h2, fun pos cv hc => ?_⟩
  obtain ⟨c, e1, e2⟩ := h3 pos cv hc
  exact ⟨c, e1, h _ _ e2 (fun z => z.2 _ rfl)⟩
end

def HoldOk (B : Bs) (F : List Addr) (p : Addr) : Hold → Prop
  | .new => ∀ a ∈ F, B.H a = none
  | .slf => p = B.p ∧ F = B.F
  | .bor => True
/-- W: whose feet -/
structure RelW (K : PySem.W.Frag) (B : Bs) (G0 : Hp) (σ : L2.St) (H G : Hp) (env : Env) (W : Nat → List Addr) : Prop where
  ex : ExB B G0 H G
  len : σ.length = env.length
  dat : ∀ {i : Nat} {d : D}, env[i]? = some (.dat d) → ∃ v, σ[i]? = some (some v) ∧ Dv K G d v
  own : ∀ {i : Nat} {d : D}, env[i]? = some (.own d) → ∃ a, σ[i]? = some (some (.ref a)) ∧ W i = [a] ∧ B.H a = none ∧ Own K H G a d
  obj : ∀ {i : Nat} {k : Hold} {t : Ob}, env[i]? = some (.obj k t) → ∃ p, σ[i]? = some (some (.ref p)) ∧ ObOk K H G (W i) p t ∧ HoldOk B (W i) p k
  foot : ∀ {i : Nat} {a : Addr}, a ∈ W i → G a = none ∧ ∃ u, H a = some u ∧ Ord u
  dis : ∀ {i j : Nat} {a : Addr}, a ∈ W i → a ∈ W j → i = j
  tab : LamX.Tabs B.T H
  tabM : ∀ p ∈ B.T, G p.1 = none
def Rel (K : PySem.W.Frag) (B : Bs) (G0 : Hp) (σ : L2.St) (H G : Hp) (env : Env) : Prop := ∃ W, RelW K B G0 σ H G env W

theorem getSet {α : Type} {l : List α} {i j : Nat} {s t : α} (h : (l.set i s)[j]? = some t) : (i = j ∧ i < l.length ∧ t = s) ∨ (i ≠ j ∧ l[j]? = some t) := by
  by_cases hj : i = j
  · subst hj
    by_cases hl : i < l.length
    · rw [List.getElem?_set_self hl] at h
      exact .inl ⟨rfl, hl, (Option.some.inj h).symm⟩
    · rw [List.getElem?_eq_none (by rw [List.length_set]; omega)] at h; cases h
  · rw [List.getElem?_set_ne hj] at h
    exact .inr ⟨hj, h⟩
def wSet (W : Nat → List Addr) (i : Nat) (F : List Addr) : Nat → List Addr := fun j => if j = i then F else W j
theorem wSet_same {W : Nat → List Addr} {i : Nat} {F : List Addr} : wSet W i F i = F := by unfold wSet; rw [if_pos rfl]
theorem wSet_ne {W : Nat → List Addr} {i j : Nat} {F : List Addr} (h : j ≠ i) : wSet W i F j = W j := by unfold wSet; rw [if_neg h]
section
variable {K : PySem.W.Frag} {B : Bs} {G0 H G H' G' : Hp} {σ : L2.St} {env : Env} {W : Nat → List Addr}
/-- a slot takes another thing -/
theorem RelW.put (r : RelW K B G0 σ H G env W) {i : Nat} {s : Slot} {v : Option V} {F : List Addr} (hd : ∀ d, s = .dat d → ∃ w, v = some w ∧ Dv K G d w)
    (ho : ∀ d, s = .own d → ∃ a, v = some (.ref a) ∧ F = [a] ∧ B.H a = none ∧ Own K H G a d) (hb : ∀ k t, s = .obj k t → ∃ p, v = some (.ref p) ∧ ObOk K H G F p t ∧ HoldOk B F p k)
    (hf : ∀ a ∈ F, G a = none ∧ ∃ u, H a = some u ∧ Ord u) (hn : ∀ j a, a ∈ F → a ∈ W j → j = i) :
    RelW K B G0 (σ.set i v) H G (env.set i s) (wSet W i F) := by
  have at_i : i < env.length → (σ.set i v)[i]? = some v := fun hl => List.getElem?_set_self (by rw [r.len]; exact hl)
  refine ⟨r.ex, by rw [List.length_set, List.length_set, r.len], fun {j d} he => ?_, fun {j d} he => ?_, fun {j k t} he => ?_, fun {j a} ha => ?_, fun {j k a} h1 h2 => ?_, r.tab, r.tabM⟩
  · rcases getSet he with ⟨rfl, hl, e⟩ | ⟨hj, he⟩
    · obtain ⟨w, e1, e2⟩ := hd d e.symm
      exact ⟨w, by rw [at_i hl, e1], e2⟩
    · obtain ⟨w, e1, e2⟩ := r.dat he
      exact ⟨w, by rw [List.getElem?_set_ne hj]; exact e1, e2⟩
  · rcases getSet he with ⟨rfl, hl, e⟩ | ⟨hj, he⟩
    · obtain ⟨a, e1, e2, e3⟩ := ho d e.symm
      exact ⟨a, by rw [at_i hl, e1], by rw [wSet_same, e2], e3⟩
    · obtain ⟨a, e1, e2, e3⟩ := r.own he
      exact ⟨a, by rw [List.getElem?_set_ne hj]; exact e1, by rw [wSet_ne (Ne.symm hj), e2], e3⟩
  · rcases getSet he with ⟨rfl, hl, e⟩ | ⟨hj, he⟩
    · obtain ⟨p, e1, e2⟩ := hb k t e.symm
      exact ⟨p, by rw [at_i hl, e1], by rw [wSet_same]; exact e2⟩
    · obtain ⟨p, e1, e2⟩ := r.obj he
      exact ⟨p, by rw [List.getElem?_set_ne hj]; exact e1, by rw [wSet_ne (Ne.symm hj)]; exact e2⟩
  · by_cases hj : j = i
    · subst hj; rw [wSet_same] at ha; exact hf a ha
    · rw [wSet_ne hj] at ha; exact r.foot ha
  · by_cases hj : j = i
    · subst hj
      rw [wSet_same] at h1
      by_cases hk : k = j
      · exact hk.symm
      · rw [wSet_ne hk] at h2; exact (hn k a h1 h2).symm
    · rw [wSet_ne hj] at h1
      by_cases hk : k = i
      · subst hk; rw [wSet_same] at h2; exact hn j a h2 h1
      · rw [wSet_ne hk] at h2; exact r.dis h1 h2
/-- a slot is forgotten -/
theorem RelW.drop (r : RelW K B G0 σ H G env W) (i : Nat) : RelW K B G0 σ H G (env.set i .un) (wSet W i []) := by
  refine ⟨r.ex, by rw [List.length_set, r.len], fun {j d} he => ?_, fun {j d} he => ?_, fun {j k t} he => ?_, fun {j a} ha => ?_, fun {j k a} h1 h2 => ?_, r.tab, r.tabM⟩
  · rcases getSet he with ⟨_, _, e⟩ | ⟨hj, he⟩
    · cases e
    · exact r.dat he
  · rcases getSet he with ⟨_, _, e⟩ | ⟨hj, he⟩
    · cases e
    · rw [wSet_ne (Ne.symm hj)]; exact r.own he
  · rcases getSet he with ⟨_, _, e⟩ | ⟨hj, he⟩
    · cases e
    · rw [wSet_ne (Ne.symm hj)]; exact r.obj he
  · by_cases hj : j = i
    · subst hj; rw [wSet_same] at ha; cases ha
    · rw [wSet_ne hj] at ha; exact r.foot ha
  · by_cases hj : j = i
    · subst hj; rw [wSet_same] at h1; cases h1
    · rw [wSet_ne hj] at h1
      by_cases hk : k = i
      · subst hk; rw [wSet_same] at h2; cases h2
      · rw [wSet_ne hk] at h2; exact r.dis h1 h2
/-- a step that leaves all feet alone -/
theorem RelW.heap (r : RelW K B G0 σ H G env W) {F : Addr → Prop} (y : ExM F H G H' G') (hF : ∀ a, F a → B.H a = none ∨ B.M a) (hW : ∀ i a, a ∈ W i → ¬ F a)
    (ht : ∀ b o, H b = some o → ¬ Ord o → ¬ F b) : RelW K B G0 σ H' G' env W := by
  have kp : ∀ i b, b ∈ W i → H' b = H b := fun i b hb => by
    obtain ⟨_, u, e, _⟩ := r.foot hb
    rw [e]; exact y.same b u e (hW i b hb)
  have kg : ∀ i b, b ∈ W i → G' b = G b := fun i b hb => by
    obtain ⟨_, u, e, _⟩ := r.foot hb
    exact y.old b (by rw [e]; exact nofun) (hW i b hb)
  refine ⟨r.ex.trans y hF, r.len, fun {j d} he => ?_, fun {j d} he => ?_, fun {j k t} he => ?_, fun {j a} ha => ?_, r.dis, tabs_keep r.tab fun b o e no => y.same b o e (ht b o e no), fun p hp => ?_⟩
  · obtain ⟨v, h1, h2⟩ := r.dat he
    exact ⟨v, h1, h2.mono y.gr⟩
  · obtain ⟨a, h1, h2, h3, h4⟩ := r.own he
    exact ⟨a, h1, h2, h3, h4.keep (kp j a (by rw [h2]; simp)) y.gr⟩
  · obtain ⟨p, h1, h2, h3⟩ := r.obj he
    exact ⟨p, h1, h2.keep (kp j) y.gr, h3⟩
  · obtain ⟨h1, u, h3, h4⟩ := r.foot ha
    exact ⟨by rw [kg j a ha]; exact h1, u, by rw [kp j a ha]; exact h3, h4⟩
  · obtain ⟨ps, h3, _⟩ := r.tab p hp
    rw [y.old p.1 (by rw [h3]; exact nofun) (ht _ _ h3 (fun z => z.1 ps rfl))]
    exact r.tabM p hp
theorem RelW.next (r : RelW K B G0 σ H G env W) (x : Ex H G H' G') : RelW K B G0 σ H' G' env W := r.heap (F := NoF) x.toM (fun _ f => f.elim) (fun _ _ _ => id) fun _ _ _ _ => id
theorem Rel.ex (r : Rel K B G0 σ H G env) : ExB B G0 H G := let ⟨_, r⟩ := r; r.ex
theorem Rel.sub (r : Rel K B G0 σ H G env) : Sub G H := r.ex.sub
theorem Rel.len (r : Rel K B G0 σ H G env) : σ.length = env.length := let ⟨_, r⟩ := r; r.len
theorem Rel.dat (r : Rel K B G0 σ H G env) {i : Nat} {d : D} (h : env[i]? = some (.dat d)) : ∃ v, σ[i]? = some (some v) ∧ Dv K G d v := let ⟨_, r⟩ := r; r.dat h
theorem Rel.own (r : Rel K B G0 σ H G env) {i : Nat} {d : D} (h : env[i]? = some (.own d)) : ∃ a, σ[i]? = some (some (.ref a)) ∧ B.H a = none ∧ G a = none ∧ Own K H G a d := by
  obtain ⟨W, r⟩ := r
  obtain ⟨a, h1, h2, h3, h4⟩ := r.own h
  exact ⟨a, h1, h3, (r.foot (i := i) (a := a) (by rw [h2]; simp)).1, h4⟩
theorem Rel.next (r : Rel K B G0 σ H G env) (x : Ex H G H' G') : Rel K B G0 σ H' G' env := let ⟨W, r⟩ := r; ⟨W, r.next x⟩
/-- a datum comes into a slot -/
theorem Rel.set (r : Rel K B G0 σ H G env) {i : Nat} {d : D} {v : V} (h : Dv K G d v) : Rel K B G0 (σ.set i (some v)) H G (env.set i (.dat d)) := by
  obtain ⟨W, r⟩ := r
  exact ⟨_, r.put (F := []) (fun d' e => by cases e; exact ⟨v, rfl, h⟩) nofun nofun nofun nofun⟩
theorem Rel.unset (r : Rel K B G0 σ H G env) (i : Nat) : Rel K B G0 (σ.set i none) H G (env.set i .un) := by
  obtain ⟨W, r⟩ := r
  exact ⟨_, r.put (F := []) nofun nofun nofun nofun nofun⟩
/-- a new object of one's own comes into a slot -/
theorem Rel.setOwn (r : Rel K B G0 σ H G env) (x : Ex H G H' G') {i : Nat} {d : D} {a : Addr} (hn : H a = none) (hg : G' a = none) (ow : Own K H' G' a d) :
    Rel K B G0 (σ.set i (some (.ref a))) H' G' (env.set i (.own d)) := by
  obtain ⟨W, r⟩ := r
  have h0 := r.ex.free hn
  refine ⟨_, (r.next x).put (F := [a]) nofun (fun d' e => by cases e; exact ⟨a, rfl, rfl, h0, ow⟩) nofun (fun b hb => ?_) fun j b hb hw => ?_⟩
  · rw [List.mem_singleton.mp hb]
    exact ⟨hg, ow.ord⟩
  · rw [List.mem_singleton.mp hb] at hw
    obtain ⟨_, u, e, _⟩ := r.foot hw
    rw [hn] at e; cases e
/-- a new thing of one's own comes into a slot -/
theorem Rel.setObj (r : Rel K B G0 σ H G env) (x : Ex H G H' G') {i : Nat} {t : Ob} {p : Addr} {F : List Addr} (hn : ∀ a ∈ F, H a = none ∧ G' a = none) (ob : ObOk K H' G' F p t) :
    Rel K B G0 (σ.set i (some (.ref p))) H' G' (env.set i (.obj .new t)) := by
  obtain ⟨W, r⟩ := r
  refine ⟨_, (r.next x).put (F := F) nofun nofun (fun k' d' e => by cases e; exact ⟨p, rfl, ob, fun b hb => r.ex.free (hn b hb).1⟩) (fun b hb => ?_) fun j b hb hw => ?_⟩
  · exact ⟨(hn b hb).2, ob.ord b hb⟩
  · obtain ⟨_, u, e, _⟩ := r.foot hw
    rw [(hn b hb).1] at e; cases e
theorem set_back {σ : L2.St} {j : Nat} {v : Option V} (h : σ[j]? = some v) : σ.set j v = σ := by
  apply List.ext_getElem?
  intro k
  by_cases hk : j = k
  · subst hk
    obtain ⟨hl, _⟩ := List.getElem?_eq_some_iff.mp h
    rw [List.getElem?_set_self hl, h]
  · rw [List.getElem?_set_ne hk]
/-- an own object changes -/
theorem Rel.change (r : Rel K B G0 σ H G env) {j : Nat} {d e : D} {a : Addr} {o : HO} (h : env[j]? = some (.own d)) (ha : σ[j]? = some (some (.ref a))) (ow : Own K (upd H a o) G a e) : Rel K B G0 σ (upd H a o) G (env.set j (.own e)) := by
  obtain ⟨W, r⟩ := r
  obtain ⟨a', e1, hw, h0, ow0⟩ := r.own h
  rw [ha] at e1
  cases e1
  have ga := (r.foot (i := j) (a := a) (by rw [hw]; simp)).1
  have r1 := (r.drop j).heap (ExM.one (o := o) r.ex.sub ga) (fun b e => .inl (by rw [e]; exact h0)) (fun i b hb e => by
      subst e
      by_cases hi : i = j
      · subst hi; rw [wSet_same] at hb; cases hb
      · rw [wSet_ne hi] at hb; exact hi (r.dis hb (by rw [hw]; simp))) (fun b u hb no e => by
      subst e
      obtain ⟨u', e1, e2⟩ := ow0.ord
      rw [e1] at hb; cases hb
      exact no e2)
  have r2 := r1.put (i := j) (s := .own e) (v := some (.ref a)) (F := [a]) nofun (fun d' e' => by cases e'; exact ⟨a, rfl, rfl, h0, ow⟩) nofun (fun b hb => by
      rw [List.mem_singleton.mp hb]; exact ⟨ga, ow.ord⟩) fun i b hb hi => by
      by_cases hij : i = j
      · exact hij
      · rw [List.mem_singleton.mp hb, wSet_ne hij] at hi; exact r.dis hi (by rw [hw]; simp)
  rw [set_back ha, List.set_set] at r2
  exact ⟨_, r2⟩
/-- a thing that is looked at -/
def obAt (env : Env) (i : Nat) : Option Ob := match env[i]? with
  | some (.obj _ t) => some t
  | _ => none
theorem Rel.look (r : Rel K B G0 σ H G env) {i : Nat} {t : Ob} (h : obAt env i = some t) : ∃ p F, σ[i]? = some (some (.ref p)) ∧ ObOk K H G F p t ∧ ∀ a ∈ F, G a = none := by
  obtain ⟨W, r⟩ := r
  unfold obAt at h
  split at h
  · rename_i q
    cases h
    obtain ⟨p, h1, h2, _⟩ := r.obj q
    exact ⟨p, _, h1, h2, fun a ha => (r.foot ha).1⟩
  · cases h
theorem HoldOk.may {F : List Addr} {p : Addr} {k : Hold} (h : HoldOk B F p k) (hk : k ≠ .bor) : ∀ a ∈ F, B.H a = none ∨ B.M a := fun a ha => by
  cases k with
  | new => exact .inl (h a ha)
  | slf => exact .inr (.inl (by rw [← h.2]; exact ha))
  | bor => exact absurd rfl hk
/-- a thing changes by a step that may change its feet -/
theorem Rel.changeObj (r : Rel K B G0 σ H G env) {j : Nat} {k : Hold} {t : Ob} (h : env[j]? = some (.obj k t)) (hk : k ≠ .bor) : ∃ p F, σ[j]? = some (some (.ref p)) ∧ ObOk K H G F p t ∧ (∀ a ∈ F, G a = none) ∧
    ∀ H' G' t', ExM (· ∈ F) H G H' G' → (∀ a ∈ F, G' a = none) → ObOk K H' G' F p t' → Rel K B G0 σ H' G' (env.set j (.obj k t')) := by
  obtain ⟨W, r⟩ := r
  obtain ⟨p, e1, ob, hd⟩ := r.obj h
  refine ⟨p, W j, e1, ob, fun a ha => (r.foot ha).1, fun H' G' t' y hg ob' => ?_⟩
  have r1 := (r.drop j).heap y (hd.may hk) (fun i b hb e => by
      by_cases hi : i = j
      · subst hi; rw [wSet_same] at hb; cases hb
      · rw [wSet_ne hi] at hb; exact hi (r.dis hb e)) (fun b u hb no e => by
      obtain ⟨_, u', e1, e2⟩ := r.foot e
      rw [e1] at hb; cases hb
      exact no e2)
  have r2 := r1.put (i := j) (s := .obj k t') (v := some (.ref p)) (F := W j) nofun nofun (fun k' d' e' => by cases e'; exact ⟨p, rfl, ob', hd⟩) (fun b hb => ⟨hg b hb, ob'.ord b hb⟩) fun i b hb hi => by
      by_cases hij : i = j
      · exact hij
      · rw [wSet_ne hij] at hi; exact r.dis hi hb
  rw [set_back e1, List.set_set] at r2
  exact ⟨_, r2⟩
end

/-! ### readings made of functions on data -/
/-- an expression that makes a datum (nothing owned leaks into it) -/
def tD (K : PySem.W.Frag) (f : Env → Option D) : TE := fun σ H Q => ∃ H0 G0 G env d, Rel K H0 G0 σ H G env ∧ f env = some d ∧ ∀ v H' G', Ex H G H' G' → Dv K G' d v → Q v H'
/-- .. whose outermost object may be owned -/
def tW (K : PySem.W.Frag) (f : Env → Option D) : TE := fun σ H Q => ∃ H0 G0 G env d, Rel K H0 G0 σ H G env ∧ f env = some d ∧ ∀ v H' G', Ex H G H' G' → Sh K H' G' d v → Q v H'
/-- .. that makes a new list or dict that nobody else holds -/
def tF (K : PySem.W.Frag) (f : Env → Option D) : TE := fun σ H Q => ∃ H0 G0 G env d, Rel K H0 G0 σ H G env ∧ f env = some d ∧ ∀ a H' G', Ex H G H' G' → H a = none → G' a = none → Own K H' G' a d → Q (.ref a) H'
/-- a test -/
def tT (K : PySem.W.Frag) (f : Env → Option Bool) : TT := fun σ H Q => ∃ H0 G0 G env b, Rel K H0 G0 σ H G env ∧ f env = some b ∧ ∀ H' G', Ex H G H' G' → Q b H'
/-- arguments -/
def tDs (K : PySem.W.Frag) (f : Env → Option (List D)) : TA := fun σ H Q => ∃ H0 G0 G env ds, Rel K H0 G0 σ H G env ∧ f env = some ds ∧ ∀ vs H' G', Ex H G H' G' → DvAll K G' ds vs → Q vs H'
/-- one argument, perhaps owned -/
def tW1 (K : PySem.W.Frag) (f : Env → Option D) : TA := fun σ H Q => ∃ H0 G0 G env d, Rel K H0 G0 σ H G env ∧ f env = some d ∧ ∀ v H' G', Ex H G H' G' → Sh K H' G' d v → Q [v] H'

section
variable {X : Cx} {e : Expr}
theorem _root_.L2.PE.to {t t' : TE} (h : PE X e t) (k : ∀ σ H Q, t' σ H Q → t σ H Q) : PE X e t' := ⟨fun pins s σ H Q I q => h.run pins s σ H Q I (k σ H Q q)⟩
theorem _root_.L2.PT.to {t t' : TT} (h : PT X e t) (k : ∀ σ H Q, t' σ H Q → t σ H Q) : PT X e t' := ⟨fun pins s σ H Q I q => h.run pins s σ H Q I (k σ H Q q)⟩
theorem _root_.L2.PA.to {es : List Expr} {t t' : TA} (h : PA X es t) (k : ∀ σ H Q, t' σ H Q → t σ H Q) : PA X es t' := ⟨fun pos pins s σ H Q I q => h.run pos pins s σ H Q I (k σ H Q q)⟩
theorem _root_.L2.PS.to {st : Stmt} {t t' : TS} (h : PS X st t) (k : ∀ D σ H, t' D σ H → t D σ H) : PS X st t' := ⟨fun pins s σ H D I q => h.run pins s σ H D I (k D σ H q)⟩
theorem _root_.L2.PSs.to {st : List Stmt} {t t' : TS} (h : PSs X st t) (k : ∀ D σ H, t' D σ H → t D σ H) : PSs X st t' := ⟨fun pins s σ H D I q => h.run pins s σ H D I (k D σ H q)⟩
/-- a datum may be looked at -/
theorem w_of {f : Env → Option D} (h : PE X e (tD X.K f)) : PE X e (tW X.K f) := PE.to h fun σ H Q ⟨H0, G0, G, env, d, r, ef, q⟩ =>
  ⟨H0, G0, G, env, d, r, ef, fun v H' G' x hv => q v H' G' x (hv.sh x.sub)⟩
/-- a new object may be looked at -/
theorem w_ofF {f : Env → Option D} (h : PE X e (tF X.K f)) : PE X e (tW X.K f) := PE.to h fun σ H Q ⟨H0, G0, G, env, d, r, ef, q⟩ =>
  ⟨H0, G0, G, env, d, r, ef, fun a H' G' x _ _ ow => q (.ref a) H' G' x (by
    cases d with
    | list ds => obtain ⟨xs, h1, h2, h3⟩ := ow; exact ⟨a, xs, rfl, .of h1, h2, h3⟩
    | dict kvs => obtain ⟨xs, h1, h2, h3⟩ := ow; exact ⟨a, xs, rfl, .inl h1, h2, h3⟩
    | _ => exact ow.elim)⟩
/-- the thing is locked at once, for ever -/
def tFrz (t : TE) : TE := fun σ H Q => t σ H fun v H' => ∃ a u, v = .ref a ∧ H' a = some u ∧ Mut (some u) ∧ ∀ o, Q v (upd H' a (.frz o u))
theorem pe_frz {t : TE} (h : PE X e t) : PE X e (tFrz t) := ⟨fun pins s σ H Q I q => thn (h.run pins s σ H _ I q) fun v s1 ⟨x, H1, I1, r, a, u, ex, hu, mu, q1⟩ =>
  let ⟨od, I2⟩ := I1.lock hu mu
  ⟨x, _, I2, r, q1 od⟩⟩
theorem Ex.lock {H G H' G' : Hp} {a : Addr} {u : HO} {o : Obj} (x : Ex H G H' G') (n : H a = none) (g : G' a = none) : Ex H G (upd H' a (.frz o u)) (upd G' a (.frz o u)) ∧ Gr G' (upd G' a (.frz o u)) := by
  refine ⟨⟨fun b w hb => ?_, fun b w hb => ?_, fun b w hb => ?_, fun b hb => ?_⟩, fun b w hb => ?_⟩
  · rw [upd_ne (fun e => by subst e; rw [n] at hb; cases hb)]; exact x.same b w hb
  · have hb' := x.gr b w hb
    rw [upd_ne (fun e => by subst e; rw [g] at hb'; cases hb')]; exact hb'
  · by_cases e : b = a
    · subst e; rw [upd_same] at hb; cases hb; exact upd_same
    · rw [upd_ne e] at hb ⊢; exact x.sub b w hb
  · rw [upd_ne (fun e => by subst e; exact hb n)]; exact x.old b hb
  · rw [upd_ne (fun e => by subst e; rw [g] at hb; cases hb)]; exact hb
/-- what is owned, locked -/
theorem own_lock {K : PySem.W.Frag} {H G : Hp} {a : Addr} {d : D} (h : Own K H G a d) : ∃ u, H a = some u ∧ Mut (some u) ∧ ∀ o G', Gr G G' → G' a = some (.frz o u) → Dv K G' d (.ref a) := by
  cases d with
  | list ds => obtain ⟨xs, h1, h2, h3⟩ := h; exact ⟨_, h1, True.intro, fun o G' g e => by simp only [Dv]; exact ⟨a, xs, rfl, .inl (.inr ⟨o, e⟩), h2, h3.mono g⟩⟩
  | dict kvs => obtain ⟨xs, h1, h2, h3⟩ := h; exact ⟨_, h1, True.intro, fun o G' g e => by simp only [Dv]; exact ⟨a, xs, rfl, ⟨o, e⟩, h2, h3.mono g⟩⟩
  | _ => exact h.elim
/-- a new object is frozen -/
theorem d_ofF {f : Env → Option D} (h : PE X e (tF X.K f)) : PE X e (tD X.K f) := PE.to (pe_frz h) fun σ H Q ⟨H0, G0, G, env, d, r, ef, q⟩ =>
  ⟨H0, G0, G, env, d, r, ef, fun a H' G' x n g ow => by
    obtain ⟨u, hu, mu, hd⟩ := own_lock ow
    refine ⟨a, u, rfl, hu, mu, fun o => ?_⟩
    obtain ⟨x2, gr⟩ := x.lock (o := o) (u := u) n g
    exact q _ _ _ x2 (hd o _ gr upd_same)⟩

/-! ### names -/
def fV (i : Nat) : Env → Option D := fun env => match env[i]? with
  | some (.dat d) => some d
  | _ => none
def fW (i : Nat) : Env → Option D := fun env => match env[i]? with
  | some (.dat d) => some d
  | some (.own d) => some d
  | _ => none
theorem e_var {i : Nat} (h : PE X e (tVar i)) : PE X e (tD X.K (fV i)) := PE.to h fun σ H Q ⟨H0, G0, G, env, d, r, ef, q⟩ => by
  unfold fV at ef
  split at ef
  · rename_i d' hd
    cases ef
    obtain ⟨v, hv, hD⟩ := r.dat hd
    exact ⟨v, hv, q v H G (.refl r.sub) hD⟩
  · cases ef
theorem w_var {i : Nat} (h : PE X e (tVar i)) : PE X e (tW X.K (fW i)) := PE.to h fun σ H Q ⟨H0, G0, G, env, d, r, ef, q⟩ => by
  unfold fW at ef
  split at ef
  · rename_i d' hd
    cases ef
    obtain ⟨v, hv, hD⟩ := r.dat hd
    exact ⟨v, hv, q v H G (.refl r.sub) (hD.sh r.sub)⟩
  · rename_i d' hd
    cases ef
    obtain ⟨a, hv, _, hg, ow⟩ := r.own hd
    refine ⟨_, hv, q _ H G (.refl r.sub) ?_⟩
    cases d with
    | list ds => obtain ⟨xs, h1, h2, h3⟩ := ow; exact ⟨a, xs, rfl, .of h1, h2, h3⟩
    | dict kvs => obtain ⟨xs, h1, h2, h3⟩ := ow; exact ⟨a, xs, rfl, .inl h1, h2, h3⟩
    | _ => exact ow.elim
  · cases ef
/-! ### constants -/
def fC (d : D) : Env → Option D := fun _ => some d
theorem e_const {d : D} {v : V} (h : PE X e (tC v)) (hv : ∀ G, Dv X.K G d v) : PE X e (tD X.K (fC d)) := PE.to h fun σ H Q ⟨H0, G0, G, env, d', r, ef, q⟩ => by
  cases ef
  exact q v H G (.refl r.sub) (hv G)
theorem e_int {i j pos} : PE X (.Constant (.int i) j pos) (tD X.K (fC (.int i))) := e_const pe_int fun _ => by simp only [Dv]
theorem e_bool {b j pos} : PE X (.Constant (.bool b) j pos) (tD X.K (fC (.bool b))) := e_const pe_bl fun _ => by simp only [Dv]
theorem e_none {j pos} : PE X (.Constant .none j pos) (tD X.K (fC .none)) := e_const pe_non fun _ => by simp only [Dv]
theorem e_str {x j pos} (h : x.length ≤ sizeLine := by decide +kernel) : PE X (.Constant (.str x) j pos) (tD X.K (fC (.str x))) := e_const pe_str fun _ => by simp only [Dv]; exact ⟨trivial, h⟩
/-! ### arguments, displays -/
def fNil : Env → Option (List D) := fun _ => some []
def fCons (f : Env → Option D) (g : Env → Option (List D)) : Env → Option (List D) := fun env => (f env).bind fun d => (g env).bind fun ds => some (d :: ds)
theorem a_nil : PA X [] (tDs X.K fNil) := PA.to pa_nil fun σ H Q ⟨H0, G0, G, env, d', r, ef, q⟩ => by
  cases ef
  exact q [] H G (.refl r.sub) .nil
theorem a_cons {es : List Expr} {f : Env → Option D} {g : Env → Option (List D)} (ha : PE X e (tD X.K f)) (hr : PA X es (tDs X.K g)) (hs : starEach (e :: es) X.env = (false, eval e X.env) :: starEach es X.env := by rfl) : PA X (e :: es) (tDs X.K (fCons f g)) :=
  PA.to (pa_cons ha hr hs) fun σ H Q ⟨H0, G0, G, env, ds, r, ef, q⟩ => by
    unfold fCons at ef
    cases e1 : f env with
    | none => rw [e1] at ef; cases ef
    | some d =>
      cases e2 : g env with
      | none => rw [e1, e2] at ef; cases ef
      | some dr =>
        rw [e1, e2] at ef
        cases ef
        refine ⟨H0, G0, G, env, d, r, e1, fun v H1 G1 x1 hv => ⟨H0, G0, G1, env, dr, r.next x1, e2, fun vs H2 G2 x2 hvs => ?_⟩⟩
        exact q (v :: vs) H2 G2 (x1.trans x2) (.cons (hv.mono x2.gr) hvs)
theorem a_one {f : Env → Option D} (ha : PE X e (tW X.K f)) (hs : starEach [e] X.env = (false, eval e X.env) :: starEach [] X.env := by rfl) : PA X [e] (tW1 X.K f) :=
  PA.to (pa_cons ha pa_nil hs) fun σ H Q ⟨H0, G0, G, env, d, r, ef, q⟩ => ⟨H0, G0, G, env, d, r, ef, fun v H1 G1 x1 hv => q v H1 G1 x1 hv⟩
def fTup (f : Env → Option (List D)) : Env → Option D := fun env => (f env).bind fun ds => if ds.length ≤ sizeLine then some (.tuple ds) else none
def fLst (f : Env → Option (List D)) : Env → Option D := fun env => (f env).bind fun ds => if ds.length ≤ sizeLine then some (.list ds) else none
/-- a tuple display, the new object known -/
def tTupF (t : TA) : TE := fun σ H Q => t σ H fun xs H1 => xs.length ≤ sizeLine ∧ ∀ p o, H1 p = none → TupO o → Q (.ref p) (upd H1 p (.frz o (.tup xs)))
theorem pe_tupF {es : List Expr} {t : TA} {x1 pos} (h : PA X es t) : PE X (.Tuple es x1 pos) (tTupF t) := by
  refine ⟨fun pins s σ H Q I hq => ?_⟩
  refine wpAny_Tuple_spliced (thn (h.run pos pins s σ H _ I hq) fun us s1 ⟨xs, H1, I1, r, z, q⟩ => ⟨by rw [← r.length]; exact z, ?_⟩)
  have hf : H1 s1.heap.objs.size = none := I1.hok.fresh (Nat.le_refl _)
  refine ⟨.ref s1.heap.objs.size, upd H1 s1.heap.objs.size (.frz { cls := .type "tuple", data := .seq us.toArray } (.tup xs)), I1.laid (t' := s1.toks) (fun b u e => Heap.get?_push_of_some _ e) (Nat.le_refl _) ?_, rfl, q _ _ hf ⟨rfl, rfl⟩⟩
  exact ⟨Heap.get?_push_size _ rfl, z, us, r, ⟨_, Heap.get?_push_size _ rfl, rfl, _, rfl⟩⟩
/-- a new tuple is frozen at once -/
theorem Dv.newT {K : PySem.W.Frag} {H G : Hp} {ds : List D} {xs : List V} {p : Addr} {o : Obj} (s : Sub G H) (n : H p = none) (t : TupO o) (l : xs.length ≤ sizeLine) (h : DvAll K G ds xs) :
    Ex H G (upd H p (.frz o (.tup xs))) (upd G p (.frz o (.tup xs))) ∧ Dv K (upd G p (.frz o (.tup xs))) (.tuple ds) (.ref p) := by
  have x := Ex.frz (o := .frz o (.tup xs)) s n
  exact ⟨x, by simp only [Dv]; exact ⟨p, xs, rfl, .inl ⟨o, upd_same, t⟩, l, h.mono x.gr⟩⟩
theorem e_tup {es : List Expr} {j pos} {f : Env → Option (List D)} (h : PA X es (tDs X.K f)) : PE X (.Tuple es j pos) (tD X.K (fTup f)) :=
  PE.to (pe_tupF h) fun σ H Q ⟨H0, G0, G, env, d, r, ef, q⟩ => by
    unfold fTup at ef
    cases e1 : f env with
    | none => rw [e1] at ef; cases ef
    | some ds =>
      rw [e1, Option.bind_some] at ef
      split at ef
      · rename_i hl
        cases ef
        refine ⟨H0, G0, G, env, ds, r, e1, fun vs H1 G1 x1 hv => ⟨by rw [hv.length]; exact hl, fun p o np to => ?_⟩⟩
        obtain ⟨x2, hd⟩ := Dv.newT x1.sub np to (by rw [hv.length]; exact hl) hv
        exact q (.ref p) _ _ (x1.trans x2) hd
      · cases ef
/-- a list display: a new list -/
theorem f_lst {es : List Expr} {pos} {f : Env → Option (List D)} (h : PA X es (tDs X.K f)) : PE X (.List es pos) (tF X.K (fLst f)) :=
  PE.to (pe_lst h) fun σ H Q ⟨H0, G0, G, env, d, r, ef, q⟩ => by
    unfold fLst at ef
    cases e1 : f env with
    | none => rw [e1] at ef; cases ef
    | some ds =>
      rw [e1, Option.bind_some] at ef
      split at ef
      · rename_i hl
        cases ef
        refine ⟨H0, G0, G, env, ds, r, e1, fun vs H1 G1 x1 hv => ⟨by rw [hv.length]; exact hl, fun p np => ?_⟩⟩
        have x2 := Ex.out (o := .lst vs) x1.sub np
        refine q p _ _ (x1.trans x2) (x1.same.free np) (x1.sub.free np) ⟨vs, upd_same, by rw [hv.length]; exact hl, hv⟩
      · cases ef
end
end PD

/-! THE DATA LAYER 2: operators and comparisons on data. -/
namespace PD
open PySem PySem.Spec PyProof.Rows L2

/-! ### data that read off the heap -/
section
variable {K : PySem.W.Frag} {G H : Hp}
theorem plain_cons {d : D} {ds : List D} (h : PyData.plainAll (d :: ds) = true) : d.plain = true ∧ PyData.plainAll ds = true := by
  rw [PyData.plainAll, Bool.and_eq_true] at h; exact h
mutual
theorem Dv.dp (s : Sub G H) : ∀ (d : D) (v : V), d.plain = true → Dv K G d v → Dp K H v d
  | .none, _, _, h => by simp only [Dv] at h; subst h; exact .non
  | .bool b, _, _, h => by simp only [Dv] at h; subst h; exact .bl b
  | .int i, _, _, h => by simp only [Dv] at h; subst h; exact .int i
  | .str x, _, _, h => by simp only [Dv] at h; obtain ⟨rfl, _⟩ := h; exact .str x
  | .list ds, v, p, h => by
    simp only [Dv] at h
    obtain ⟨a, xs, rfl, h1, _, h3⟩ := h
    exact .lst (s.sq h1) (DvAll.dp s ds xs (by simpa [PyData.plain] using p) h3)
  | .tuple ds, v, p, h => by
    simp only [Dv] at h
    obtain ⟨a, xs, rfl, h1, _, h3⟩ := h
    exact .tup (s.sqT h1) (DvAll.dp s ds xs (by simpa [PyData.plain] using p) h3)
  | .dict kvs, _, p, _ => by simp [PyData.plain] at p
theorem DvAll.dp (s : Sub G H) : ∀ (ds : List D) (vs : List V), PyData.plainAll ds = true → DvAll K G ds vs → DpAll K H vs ds
  | [], vs, _, h => by rw [h.inv_nil]; exact .nil
  | d :: ds, vs, p, h => by
    obtain ⟨v, r, rfl, h1, h2⟩ := h.inv
    obtain ⟨p1, p2⟩ := plain_cons p
    exact .cons (Dv.dp s d v p1 h1) (DvAll.dp s ds r p2 h2)
end
theorem Sh.dp (s : Sub G H) : ∀ {d : D} {v : V}, d.plain = true → Sh K H G d v → Dp K H v d
  | .none, _, _, h => by simp only [Sh, Dv] at h; subst h; exact .non
  | .bool b, _, _, h => by simp only [Sh, Dv] at h; subst h; exact .bl b
  | .int i, _, _, h => by simp only [Sh, Dv] at h; subst h; exact .int i
  | .str x, _, _, h => by simp only [Sh, Dv] at h; obtain ⟨rfl, _⟩ := h; exact .str x
  | .list ds, v, p, h => by
    obtain ⟨a, xs, rfl, h1, _, h3⟩ := h
    exact .lst h1 (DvAll.dp s ds xs (by simpa [PyData.plain] using p) h3)
  | .tuple ds, v, p, h => by
    simp only [Sh, Dv] at h
    obtain ⟨a, xs, rfl, h1, _, h3⟩ := h
    exact .tup (s.sqT h1) (DvAll.dp s ds xs (by simpa [PyData.plain] using p) h3)
  | .dict kvs, _, p, _ => by simp [PyData.plain] at p
theorem Sh.tup {ds : List D} {v : V} (h : Sh K H G (.tuple ds) v) : ∃ a xs, v = .ref a ∧ (TGh G a xs ∨ TK K a xs) ∧ xs.length ≤ sizeLine ∧ DvAll K G ds xs := by simpa only [Sh, Dv] using h
theorem Sh.int {i : Int} {v : V} (h : Sh K H G (.int i) v) : v = .int i := by simpa only [Sh, Dv] using h
theorem Sh.bool {i : Bool} {v : V} (h : Sh K H G (.bool i) v) : v = .bl i := by simpa only [Sh, Dv] using h
theorem Sh.none_ {v : V} (h : Sh K H G .none v) : v = .non := by simpa only [Sh, Dv] using h
theorem Sh.str {i : Str} {v : V} (h : Sh K H G (.str i) v) : v = .str i ∧ i.length ≤ sizeLine := by simpa only [Sh, Dv] using h
theorem Dv.int {i : Int} : Dv K G (.int i) (.int i) := by simp only [Dv]
theorem Dv.bool {i : Bool} : Dv K G (.bool i) (.bl i) := by simp only [Dv]
theorem Dv.none_ : Dv K G .none .non := by simp only [Dv]
theorem Dv.str {i : Str} (h : i.length ≤ sizeLine) : Dv K G (.str i) (.str i) := by simp only [Dv]; exact ⟨trivial, h⟩
theorem Dv.lst {ds : List D} {a : Addr} {xs : List V} (h : G a = some (.lst xs)) (l : xs.length ≤ sizeLine) (hd : DvAll K G ds xs) : Dv K G (.list ds) (.ref a) := by
  simp only [Dv]; exact ⟨a, xs, rfl, .inl (.inl h), l, hd⟩
end

/-! ### two-place operations by data -/
def rD2 (K : PySem.W.Frag) (g : D → D → Option D) : R2 := fun x y H Q => ∃ G dx dy d, Sub G H ∧ Sh K H G dx x ∧ Sh K H G dy y ∧ g dx dy = some d ∧ ∀ v H' G', Ex H G H' G' → Dv K G' d v → Q v H'
def f2 (g : D → D → Option D) (fa fb : Env → Option D) : Env → Option D := fun env => (fa env).bind fun x => (fb env).bind fun y => g x y
section
variable {X : Cx} {a b : Expr} {fa fb : Env → Option D} {pos : Pos}
theorem two_to {g : D → D → Option D} : ∀ σ H Q, tD X.K (f2 g fa fb) σ H Q → tOp (rD2 X.K g) (tW X.K fa) (tW X.K fb) σ H Q := fun σ H Q ⟨H0, G0, G, env, d, r, ef, q⟩ => by
  unfold f2 at ef
  cases e1 : fa env with
  | none => rw [e1] at ef; cases ef
  | some dx =>
    cases e2 : fb env with
    | none => rw [e1, e2] at ef; cases ef
    | some dy =>
      rw [e1, e2] at ef
      refine ⟨H0, G0, G, env, dx, r, e1, fun x H1 G1 x1 hx => ⟨H0, G0, G1, env, dy, r.next x1, e2, fun y H2 G2 x2 hy => ?_⟩⟩
      exact ⟨G2, dx, dy, d, x2.sub, hx.ex x2, hy, ef, fun v H' G' x3 hv => q v H' G' (x1.trans (x2.trans x3)) hv⟩
theorem e_op {op : Operator} {g : D → D → Option D} (ho : OpR X (binaryOp op) (rD2 X.K g)) (ha : PE X a (tW X.K fa)) (hb : PE X b (tW X.K fb)) : PE X (.BinOp a op b pos) (tD X.K (f2 g fa fb)) := PE.to (pe_op ho ha hb) two_to
theorem e_cmp {op : CmpOp} {g : D → D → Option D} (ho : OpR X (compareOp op) (rD2 X.K g)) (ha : PE X a (tW X.K fa)) (hb : PE X b (tW X.K fb)) (hm : behindInMarks op b = false := by first | exact nomark _ | rfl) : PE X (.Compare a [op] [b] pos) (tD X.K (f2 g fa fb)) := PE.to (pe_cmpR ho ha hb hm) two_to

/-! ### arithmetic -/
def addD : D → D → Option D
  | .int i, .int j => some (.int (i + j))
  | .str x, .str y => if x.length + y.length ≤ sizeLine then some (.str (x ++ y)) else none
  | .tuple xs, .tuple ys => if xs.length + ys.length ≤ sizeLine then some (.tuple (xs ++ ys)) else none
  | _, _ => none
def subD : D → D → Option D
  | .int i, .int j => some (.int (i - j))
  | _, _ => none
def mulD : D → D → Option D
  | .int i, .int j => if (-(2 ^ 64) < i ∧ i < 2 ^ 64) ∨ (-(2 ^ 64) < j ∧ j < 2 ^ 64) then some (.int (i * j)) else none
  | _, _ => none
def fdivD : D → D → Option D
  | .int i, .int j => if 0 < j ∧ j < 1073741824 then some (.int (i / j)) else none
  | _, _ => none
def modD : D → D → Option D
  | .int i, .int j => if 0 < j then some (.int (i % j)) else none
  | _, _ => none
theorem str_len (x y : Str) : (x ++ y).length = x.length + y.length := by
  show (x.cps ++ y.cps).size = _
  rw [Array.size_append] <;> rfl
/-- t + u, the new object known -/
theorem op_catF : OpR X (binaryOp .Add) (fun x y H Q => ∃ a b xs ys, x = .ref a ∧ y = .ref b ∧ SqT X.K H a xs ∧ SqT X.K H b ys ∧ xs.length + ys.length ≤ sizeLine ∧
    (xs = [] → Q (.ref b) H) ∧ (xs ≠ [] → ys = [] → Q (.ref a) H) ∧ (xs ≠ [] → ys ≠ [] → ∀ p o, H p = none → TupO o → Q (.ref p) (upd H p (.frz o (.tup (xs ++ ys)))))) := by
  intro pins s σ H x y v u Q I rx ry h
  obtain ⟨a, b, xs, ys, rfl, rfl, ha, hb, hz, q0, q1, q2⟩ := h
  cases rx
  cases ry
  obtain ⟨its, r1, p1, _⟩ := I.tuple ha
  obtain ⟨its2, r2, p2, _⟩ := I.tuple hb
  by_cases hx : xs = []
  · subst hx
    cases r1
    exact cat_tup0 p1 p2 ⟨.ref b, H, I, rfl, q0 rfl⟩
  · refine HT.cat_tup p1 p2 (fun z => hx (r1.nil_iff.mp z)) (fun z => ⟨.ref a, H, I, rfl, q1 hx (r2.nil_iff.mp z)⟩) (fun z => ?_) (by rw [← r1.length, ← r2.length]; exact hz)
    refine ⟨.ref s.heap.objs.size, _, I.laid (t' := s.toks) (o := .frz { cls := .type "tuple", data := .seq (its ++ its2).toArray } (.tup (xs ++ ys))) (fun b ob q => Heap.get?_push_of_some _ q) (Nat.le_refl _) ?_, rfl, q2 hx (fun w => z (r2.nil_iff.mpr w)) _ _ (I.hok.fresh (Nat.le_refl _)) ⟨rfl, rfl⟩⟩
    exact ⟨Heap.get?_push_size _ rfl, by rw [List.length_append]; exact hz, _, r1.append r2, IsTup.new _ _⟩
theorem o_add : OpR X (binaryOp .Add) (rD2 X.K addD) := by
  intro pins s σ H x y v u Q I rx ry ⟨G, dx, dy, d, sb, hx, hy, e, q⟩
  unfold addD at e
  split at e
  · cases e; rw [hx.int] at rx; rw [hy.int] at ry
    exact op_add pins s σ H _ _ v u Q I rx ry ⟨_, _, rfl, rfl, q _ _ _ (.refl sb) .int⟩
  · split at e
    · rename_i hl
      cases e; rw [hx.str.1] at rx; rw [hy.str.1] at ry
      exact op_add_str pins s σ H _ _ v u Q I rx ry ⟨_, _, rfl, rfl, hl, q _ _ _ (.refl sb) (.str (by rw [str_len]; exact hl))⟩
    · cases e
  · split at e
    · rename_i hl
      cases e
      have hx0 := hx
      have hy0 := hy
      obtain ⟨p, xs, rfl, h1, h2, h3⟩ := hx.tup
      obtain ⟨p', ys, rfl, k1, k2, k3⟩ := hy.tup
      have hl' : xs.length + ys.length ≤ sizeLine := by rw [h3.length, k3.length]; exact hl
      refine op_catF pins s σ H _ _ v u Q I rx ry ⟨p, p', xs, ys, rfl, rfl, sb.sqT h1, sb.sqT k1, hl', fun e0 => ?_, fun _ e0 => ?_, fun _ _ z o nz to => ?_⟩
      · subst e0
        have l0 := h3.length
        have e1 := List.eq_nil_of_length_eq_zero l0.symm
        subst e1
        exact q _ _ _ (.refl sb) hy0
      · subst e0
        have l0 := k3.length
        have e1 := List.eq_nil_of_length_eq_zero l0.symm
        subst e1
        rw [List.append_nil] at q
        exact q _ _ _ (.refl sb) hx0
      · obtain ⟨x2, hd⟩ := Dv.newT sb nz to (by rw [List.length_append]; exact hl') (h3.append k3)
        exact q _ _ _ x2 hd
    · cases e
  · cases e
theorem o_sub : OpR X (binaryOp .Sub) (rD2 X.K subD) := by
  intro pins s σ H x y v u Q I rx ry ⟨G, dx, dy, d, sb, hx, hy, e, q⟩
  unfold subD at e
  split at e
  · cases e; rw [hx.int] at rx; rw [hy.int] at ry
    exact op_sub pins s σ H _ _ v u Q I rx ry ⟨_, _, rfl, rfl, q _ _ _ (.refl sb) .int⟩
  · cases e
theorem o_fdiv : OpR X (binaryOp .FloorDiv) (rD2 X.K fdivD) := by
  intro pins s σ H x y v u Q I rx ry ⟨G, dx, dy, d, sb, hx, hy, e, q⟩
  unfold fdivD at e
  split at e
  · split at e
    · rename_i hc
      cases e; rw [hx.int] at rx; rw [hy.int] at ry
      exact op_fdiv pins s σ H _ _ v u Q I rx ry ⟨_, _, rfl, rfl, hc, q _ _ _ (.refl sb) .int⟩
    · cases e
  · cases e
theorem o_mod : OpR X (binaryOp .Mod) (rD2 X.K modD) := by
  intro pins s σ H x y v u Q I rx ry ⟨G, dx, dy, d, sb, hx, hy, e, q⟩
  unfold modD at e
  split at e
  · split at e
    · rename_i hc
      cases e; rw [hx.int] at rx; rw [hy.int] at ry
      exact op_mod pins s σ H _ _ v u Q I rx ry ⟨_, _, rfl, rfl, hc, q _ _ _ (.refl sb) .int⟩
    · cases e
  · cases e

/-! ### comparisons of data -/
def roomD (d e : D) : Bool := d.plain && e.plain && decide (min d.depth e.depth ≤ 60)
def eqD (d e : D) : Option D := if roomD d e = true then some (.bool (PyData.eqv d e)) else none
def neD (d e : D) : Option D := if roomD d e = true then some (.bool (!PyData.eqv d e)) else none
theorem roomD_ok {d e : D} (h : roomD d e = true) : d.plain = true ∧ e.plain = true ∧ min d.depth e.depth ≤ 60 := by
  unfold roomD at h
  rw [Bool.and_eq_true, Bool.and_eq_true] at h
  exact ⟨h.1.1, h.1.2, of_decide_eq_true h.2⟩
theorem o_eq (hu : X.A.units + 64 < cLine) : OpR X (compareOp .Eq) (rD2 X.K eqD) := by
  intro pins s σ H x y v u Q I rx ry ⟨G, dx, dy, d, sb, hx, hy, e, q⟩
  unfold eqD at e
  split at e
  · rename_i hr
    cases e
    obtain ⟨p1, p2, p3⟩ := roomD_ok hr
    obtain ⟨as, r1⟩ := Dp.reads I dx x v (hx.dp sb p1) rx
    obtain ⟨bs, r2⟩ := Dp.reads I dy y u (hy.dp sb p2) ry
    exact SeqAt.eq_plain r1 r2 p1 p2 (by omega) ⟨.bl _, H, I, rfl, q _ _ _ (.refl sb) .bool⟩
  · cases e
theorem o_ne (hu : X.A.units + 64 < cLine) : OpR X (compareOp .NotEq) (rD2 X.K neD) := by
  intro pins s σ H x y v u Q I rx ry ⟨G, dx, dy, d, sb, hx, hy, e, q⟩
  unfold neD at e
  split at e
  · rename_i hr
    cases e
    obtain ⟨p1, p2, p3⟩ := roomD_ok hr
    obtain ⟨as, r1⟩ := Dp.reads I dx x v (hx.dp sb p1) rx
    obtain ⟨bs, r2⟩ := Dp.reads I dy y u (hy.dp sb p2) ry
    exact SeqAt.ne_plain r1 r2 p1 p2 (by omega) ⟨.bl _, H, I, rfl, q _ _ _ (.refl sb) .bool⟩
  · cases e
/-- the order: alike data -/
def ltRoom (d e : D) : Bool := PySem.W.alike d e && (d.plain && e.plain) && decide (min d.depth e.depth ≤ 60) && (match d with | .none => false | _ => true)
theorem ltRoom_ok {d e : D} (h : ltRoom d e = true) : PySem.W.alike d e = true ∧ d.plain = true ∧ e.plain = true ∧ min d.depth e.depth ≤ 60 ∧ d ≠ .none := by
  unfold ltRoom at h
  simp only [Bool.and_eq_true] at h
  obtain ⟨⟨⟨h1, h2, h2'⟩, h3⟩, h4⟩ := h
  exact ⟨h1, h2, h2', of_decide_eq_true h3, fun e => by subst e; cases h4⟩
def ltD (d e : D) : Option D := if ltRoom d e = true then some (.bool (PySem.W.dataLt d e)) else none
def gtD (d e : D) : Option D := if ltRoom d e = true then some (.bool (PySem.W.dataLt e d)) else none
def leD (d e : D) : Option D := if ltRoom d e = true then some (.bool (!PySem.W.dataLt e d)) else none
def geD (d e : D) : Option D := if ltRoom d e = true then some (.bool (!PySem.W.dataLt d e)) else none
theorem o_ord {op : CmpOp} {g : D → D → Bool} (hu : X.A.units + 64 < cLine)
    (rule : ∀ {s : Shared} {a b : Value} {da db : D} {as bs : List Addr} {Q : Value → Shared → Prop}, Reads s.heap a da as → Reads s.heap b db bs → PySem.W.alike da db = true → da ≠ .none → X.A.units + min da.depth db.depth < cLine → Q (.bool (g da db)) s → wpAny (model X.prog X.w) X.A (compareOp op a b) Q X.xe s) :
    OpR X (compareOp op) (rD2 X.K fun d e => if ltRoom d e = true then some (.bool (g d e)) else none) := by
  intro pins s σ H x y v u Q I rx ry ⟨G, dx, dy, d, sb, hx, hy, e, q⟩
  dsimp only at e
  split at e
  · rename_i hr
    cases e
    obtain ⟨p0, p1, p2, p3, p4⟩ := ltRoom_ok hr
    obtain ⟨as, r1⟩ := Dp.reads I dx x v (hx.dp sb p1) rx
    obtain ⟨bs, r2⟩ := Dp.reads I dy y u (hy.dp sb p2) ry
    exact rule r1 r2 p0 p4 (by omega) ⟨.bl _, H, I, rfl, q _ _ _ (.refl sb) .bool⟩
  · cases e
theorem o_lt (hu : X.A.units + 64 < cLine) : OpR X (compareOp .Lt) (rD2 X.K ltD) := o_ord hu fun r1 r2 h hn hu q => PySem.W.lt_data r1 r2 h hn hu q
theorem o_gt (hu : X.A.units + 64 < cLine) : OpR X (compareOp .Gt) (rD2 X.K gtD) := o_ord (g := fun d e => PySem.W.dataLt e d) hu fun r1 r2 h hn hu q => PySem.W.gt_data r1 r2 h hn hu q
theorem o_le (hu : X.A.units + 64 < cLine) : OpR X (compareOp .LtE) (rD2 X.K leD) := o_ord (g := fun d e => !PySem.W.dataLt e d) hu fun r1 r2 h hn hu q => PySem.W.le_data r1 r2 h hn hu q
theorem o_ge (hu : X.A.units + 64 < cLine) : OpR X (compareOp .GtE) (rD2 X.K geD) := o_ord (g := fun d e => !PySem.W.dataLt d e) hu fun r1 r2 h hn hu q => PySem.W.ge_data r1 r2 h hn hu q
/-- is None, is not None -/
def isNone : D → Bool
  | .none => true
  | _ => false
def isND (d e : D) : Option D := if isNone e = true then some (.bool (isNone d)) else none
def notND (d e : D) : Option D := if isNone e = true then some (.bool (!isNone d)) else none
theorem isNone_eq {d : D} (h : isNone d = true) : d = .none := by cases d <;> first | rfl | cases h
theorem non_iff {K : PySem.W.Frag} {H G : Hp} : ∀ {d : D} {v : V}, Sh K H G d v → decide (v = .non) = isNone d
  | .none, _, h => by rw [h.none_]; rfl
  | .bool b, _, h => by rw [h.bool]; rfl
  | .int i, _, h => by rw [h.int]; rfl
  | .str x, _, h => by rw [h.str.1]; rfl
  | .list ds, _, h => by obtain ⟨a, _, rfl, _⟩ := h; rfl
  | .tuple ds, _, h => by obtain ⟨a, _, rfl, _⟩ := h.tup; rfl
  | .dict ds, _, h => by obtain ⟨a, _, rfl, _⟩ := h; rfl
theorem o_isN : OpR X (compareOp .Is) (rD2 X.K isND) := by
  intro pins s σ H x y v u Q I rx ry ⟨G, dx, dy, d, sb, hx, hy, e, q⟩
  unfold isND at e
  split at e
  · rename_i hn
    cases e
    have := isNone_eq hn
    subst this
    refine op_isN pins s σ H x y v u Q I rx ry ⟨hy.none_, ?_⟩
    rw [non_iff hx]
    exact q _ _ _ (.refl sb) .bool
  · cases e
theorem o_notN : OpR X (compareOp .IsNot) (rD2 X.K notND) := by
  intro pins s σ H x y v u Q I rx ry ⟨G, dx, dy, d, sb, hx, hy, e, q⟩
  unfold notND at e
  split at e
  · rename_i hn
    cases e
    have := isNone_eq hn
    subst this
    refine op_notN pins s σ H x y v u Q I rx ry ⟨hy.none_, ?_⟩
    rw [non_iff hx]
    exact q _ _ _ (.refl sb) .bool
  · cases e
end

/-! ### dicts by data -/
def toKey : D → Option Key
  | .int i => some (.inl i)
  | .str x => some (.inr x)
  | _ => none
theorem toKey_keyD (k : Key) : toKey (keyD k) = some k := by cases k <;> rfl
theorem keyD_of {d : D} {k : Key} (h : toKey d = some k) : d = keyD k := by
  cases d <;> simp [toKey] at h <;> (subst h; rfl)
def getKV : List (D × D) → Key → Option D
  | [], _ => none
  | (k, d) :: r, key => if toKey k = some key then some d else getKV r key
def repKV : List (D × D) → Key → D → List (D × D)
  | [], _, _ => []
  | (k, d) :: r, key, e => (if toKey k = some key then (k, e) else (k, d)) :: repKV r key e
def putKV (kvs : List (D × D)) (key : Key) (e : D) : List (D × D) := if (getKV kvs key).isSome = true then repKV kvs key e else kvs ++ [(keyD key, e)]
def dropKV : List (D × D) → Key → List (D × D)
  | [], _ => []
  | (k, d) :: r, key => if toKey k = some key then dropKV r key else (k, d) :: dropKV r key
section
variable {K : PySem.W.Frag} {G H : Hp}
theorem DvKV.inv {k d : D} {ds : List (D × D)} {vs : List (Key × V)} (h : DvKV K G ((k, d) :: ds) vs) : ∃ key v r, vs = (key, v) :: r ∧ k = keyD key ∧ Dv K G d v ∧ DvKV K G ds r := by simpa only [DvKV] using h
theorem DvKV.inv_nil {vs : List (Key × V)} (h : DvKV K G [] vs) : vs = [] := by simpa only [DvKV] using h
theorem DvKV.nil : DvKV K G [] [] := by simp only [DvKV]
theorem DvKV.cons {d : D} {key : Key} {v : V} {ds : List (D × D)} {vs : List (Key × V)} (h : Dv K G d v) (t : DvKV K G ds vs) : DvKV K G ((keyD key, d) :: ds) ((key, v) :: vs) := by
  simp only [DvKV]; exact ⟨key, v, vs, rfl, rfl, h, t⟩
theorem DvKV.get : ∀ {ds : List (D × D)} {vs : List (Key × V)} (key : Key), DvKV K G ds vs →
    (∀ d, getKV ds key = some d → ∃ v, valV vs key = some v ∧ Dv K G d v) ∧ (getKV ds key = none → valV vs key = none)
  | [], vs, key, h => by
    rw [h.inv_nil]
    exact ⟨fun d e => (nomatch e), fun _ => rfl⟩
  | (k, d) :: ds, vs, key, h => by
    obtain ⟨key', v, r, rfl, rfl, h1, h2⟩ := h.inv
    have ih := DvKV.get key h2
    by_cases e : key' = key
    · subst e
      refine ⟨fun d' e' => ?_, fun e' => ?_⟩
      · simp only [getKV, toKey_keyD, if_true] at e'
        cases e'
        exact ⟨v, valV_pos rfl, h1⟩
      · simp [getKV, toKey_keyD] at e'
    · have ne : ¬ toKey (keyD key') = some key := by rw [toKey_keyD]; exact fun z => e (Option.some.inj z)
      rw [getKV, if_neg ne, valV_neg (p := (key', v)) e]
      exact ih
theorem DvKV.rep : ∀ {ds : List (D × D)} {vs : List (Key × V)} {key : Key} {e : D} {y : V}, DvKV K G ds vs → Dv K G e y → DvKV K G (repKV ds key e) (vs.map fun kv => if kv.1 = key then (kv.1, y) else kv)
  | [], vs, key, e, y, h, _ => by rw [h.inv_nil]; exact .nil
  | (k, d) :: ds, vs, key, e, y, h, he => by
    obtain ⟨key', v, r, rfl, rfl, h1, h2⟩ := h.inv
    have ih := DvKV.rep (key := key) h2 he
    rw [List.map_cons, repKV, toKey_keyD]
    by_cases ek : key' = key
    · subst ek
      rw [if_pos rfl, if_pos rfl]
      exact .cons he ih
    · rw [if_neg (fun z => ek (Option.some.inj z)), if_neg ek]
      exact .cons h1 ih
theorem DvKV.append : ∀ {ds es : List (D × D)} {vs us : List (Key × V)}, DvKV K G ds vs → DvKV K G es us → DvKV K G (ds ++ es) (vs ++ us)
  | [], _, _, _, h, t => by rw [h.inv_nil]; exact t
  | (k, d) :: ds, _, _, _, h, t => by
    obtain ⟨key', v, r, rfl, rfl, h1, h2⟩ := h.inv
    exact .cons h1 (DvKV.append h2 t)
theorem DvKV.put {ds : List (D × D)} {vs : List (Key × V)} {key : Key} {e : D} {y : V} (h : DvKV K G ds vs) (he : Dv K G e y) : DvKV K G (putKV ds key e) (putK vs key y) := by
  unfold putKV putK
  rw [valV_any]
  cases q : getKV ds key with
  | none =>
    rw [(h.get key).2 q]
    rw [if_neg (by simp), if_neg (by simp)]
    exact h.append (.cons he .nil)
  | some d =>
    obtain ⟨v, e1, _⟩ := (h.get key).1 d q
    rw [e1, if_pos (by rfl), if_pos (by rfl)]
    exact h.rep he
theorem DvKV.drop : ∀ {ds : List (D × D)} {vs : List (Key × V)} {key : Key}, DvKV K G ds vs → DvKV K G (dropKV ds key) (dropK vs key)
  | [], vs, key, h => by rw [h.inv_nil]; exact .nil
  | (k, d) :: ds, vs, key, h => by
    obtain ⟨key', v, r, rfl, rfl, h1, h2⟩ := h.inv
    have ih := DvKV.drop (key := key) h2
    unfold dropK
    rw [List.filter_cons, dropKV, toKey_keyD]
    by_cases ek : key' = key
    · subst ek
      rw [if_pos rfl, if_neg (by simp)]
      exact ih
    · rw [if_neg (fun z => ek (Option.some.inj z)), if_pos (decide_eq_true ek)]
      exact .cons h1 ih
theorem DvKV.keys : ∀ {ds : List (D × D)} {vs : List (Key × V)}, DvKV K G ds vs → ds.map (·.1) = vs.map fun kv => keyD kv.1
  | [], vs, h => by rw [h.inv_nil]; rfl
  | (k, d) :: ds, vs, h => by
    obtain ⟨key', v, r, rfl, rfl, h1, h2⟩ := h.inv
    rw [List.map_cons, List.map_cons, DvKV.keys h2]
theorem keyD_dv (k : Key) (h : ∀ x, k = .inr x → x.length ≤ sizeLine) : Dv K G (keyD k) (kV k) := by
  cases k with
  | inl i => exact .int
  | inr x => exact .str (h x rfl)
end

/-! ### in, not in -/
def inB (d c : D) : Option Bool := match c with
  | .list xs => if d.plain && PyData.plainAll xs && decide (d.depth ≤ 60) then some (xs.any fun y => PyData.eqv y d) else none
  | .tuple xs => if d.plain && PyData.plainAll xs && decide (d.depth ≤ 60) then some (xs.any fun y => PyData.eqv y d) else none
  | .dict kvs => (toKey d).map fun k => (getKV kvs k).isSome
  | .str z => match d with
    | .str x => match x.cps.toList with
      | [n] => some (decide (n ∈ z.cps.toList))
      | _ => none
    | _ => none
  | _ => none
def inD (d c : D) : Option D := (inB d c).map .bool
def notInD (d c : D) : Option D := (inB d c).map fun b => .bool (!b)
theorem str_of_toList {x : Str} {n : Nat} (h : x.cps.toList = [n]) : x = ⟨#[n]⟩ := by
  cases x with
  | mk c =>
    have : c = #[n] := by
      have h' : c.toList = [n] := h
      rw [← Array.toArray_toList (xs := c), h']
    rw [this]
section
variable {X : Cx}
theorem o_inB (hu : X.A.units + 64 < cLine) {neg : Bool} {pins : List (Addr × Obj)} {s : Shared} {σ : L2.St} {H G : Hp} {dx dy : D} {x y : V} {v u : Value} {Q : VK} {b : Bool} (I : L2.Inv X pins σ H s) (rx : L2.RelV x v) (ry : L2.RelV y u)
    (sb : Sub G H) (hx : Sh X.K H G dx x) (hy : Sh X.K H G dy y) (e : inB dx dy = some b) (q : Q (.bl (if neg then !b else b)) H) :
    wpAny (model X.prog X.w) X.A (compareOp (if neg then .NotIn else .In) v u) (EP X pins σ Q) X.xe s := by
  have seq : ∀ ds, (dy = .list ds ∨ dy = .tuple ds) → (if dx.plain && PyData.plainAll ds && decide (dx.depth ≤ 60) then some (ds.any fun y => PyData.eqv y dx) else none) = some b →
      wpAny (model X.prog X.w) X.A (compareOp (if neg then .NotIn else .In) v u) (EP X pins σ Q) X.xe s := fun ds hd e => by
    split at e
    · rename_i hp
      rw [Bool.and_eq_true, Bool.and_eq_true] at hp
      obtain ⟨⟨p1, p2⟩, p3⟩ := hp
      have p3 := of_decide_eq_true p3
      cases e
      obtain ⟨as, r1⟩ := Dp.reads I dx x v (hx.dp sb p1) rx
      have hmin : X.A.units + 1 + min (PyData.depthAll ds) dx.depth < cLine := by omega
      rcases hd with rfl | rfl
      · obtain ⟨bs, r2⟩ := Dp.reads I _ y u (hy.dp sb (by simpa [PyData.plain] using p2)) ry
        cases neg with
        | true => exact SeqAt.notIn_list_data r2 r1 p2 p1 hmin ⟨.bl _, H, I, rfl, q⟩
        | false => exact SeqAt.in_list_data r2 r1 p2 p1 hmin ⟨.bl _, H, I, rfl, q⟩
      · obtain ⟨bs, r2⟩ := Dp.reads I _ y u (hy.dp sb (by simpa [PyData.plain] using p2)) ry
        cases neg with
        | true => exact SeqAt.notIn_tuple_data r2 r1 p2 p1 hmin ⟨.bl _, H, I, rfl, q⟩
        | false => exact SeqAt.in_tuple_data r2 r1 p2 p1 hmin ⟨.bl _, H, I, rfl, q⟩
    · cases e
  cases dy with
  | list ds => exact seq ds (.inl rfl) e
  | tuple ds => exact seq ds (.inr rfl) e
  | dict kvs =>
    have e' : (toKey dx).map (fun k => (getKV kvs k).isSome) = some b := e
    cases hk : toKey dx with
    | none => rw [hk] at e'; cases e'
    | some key =>
      rw [hk] at e'
      cases e'
      obtain ⟨a, kx, rfl, h1, h2, h3⟩ := hy
      have ek := keyD_of hk
      have ex : x = kV key := by
        subst ek
        cases key with
        | inl i => exact hx.int
        | inr z => exact hx.str.1
      subst ex
      have g : DGet H a (kV key) (valV kx key) := .inl ⟨kx, key, h1, rfl, rfl⟩
      have es : (valV kx key).isSome = (getKV kvs key).isSome := by
        cases z : getKV kvs key with
        | none => rw [(h3.get key).2 z]; rfl
        | some d =>
          obtain ⟨v', e1, _⟩ := (h3.get key).1 d z
          rw [e1] <;> rfl
      cases ry
      cases neg with
      | true => exact d_notIn (by omega) I g rx fun s' I' => ⟨.bl _, H, I', rfl, by rw [es]; exact q⟩
      | false => exact d_in (by omega) I g rx fun s' I' => ⟨.bl _, H, I', rfl, by rw [es]; exact q⟩
  | str z =>
    cases dx with
    | str w =>
      have e' : (match w.cps.toList with
        | [n] => some (decide (n ∈ z.cps.toList))
        | _ => none) = some b := e
      split at e'
      · rename_i n hn
        cases e'
        rw [hx.str.1, str_of_toList hn] at rx
        rw [hy.str.1] at ry
        cases neg with
        | true => exact op_notIn_sign pins s σ H _ _ v u Q I rx ry ⟨n, z, rfl, rfl, q⟩
        | false => exact op_in_sign pins s σ H _ _ v u Q I rx ry ⟨n, z, rfl, rfl, q⟩
      · cases e'
    | _ => cases e
  | _ => cases e
theorem o_in (hu : X.A.units + 64 < cLine) : OpR X (compareOp .In) (rD2 X.K inD) := by
  intro pins s σ H x y v u Q I rx ry ⟨G, dx, dy, d, sb, hx, hy, e, q⟩
  unfold inD at e
  cases eb : inB dx dy with
  | none => rw [eb] at e; cases e
  | some b =>
    rw [eb] at e
    cases e
    exact o_inB (neg := false) hu I rx ry sb hx hy eb (q _ _ _ (.refl sb) .bool)
theorem o_notIn (hu : X.A.units + 64 < cLine) : OpR X (compareOp .NotIn) (rD2 X.K notInD) := by
  intro pins s σ H x y v u Q I rx ry ⟨G, dx, dy, d, sb, hx, hy, e, q⟩
  unfold notInD at e
  cases eb : inB dx dy with
  | none => rw [eb] at e; cases e
  | some b =>
    rw [eb] at e
    cases e
    exact o_inB (neg := true) hu I rx ry sb hx hy eb (q _ _ _ (.refl sb) .bool)
end
end PD

/-! THE DATA LAYER 3: subscripts, slices, booleans, tests. -/
namespace PD
open PySem PySem.Spec PyProof.Rows L2

/-! ### subscripts -/
def ixD (c i : D) : Option D := match c, i with
  | .list xs, .int n => atI xs n
  | .tuple xs, .int n => atI xs n
  | .str z, .int n => (atI z.cps.toList n).map fun c => .str ⟨#[c]⟩
  | .dict kvs, i => (toKey i).bind fun k => getKV kvs k
  | _, _ => none
section
variable {K : PySem.W.Frag} {G H : Hp}
theorem DvAll.atI {ds : List D} {vs : List V} {i : Int} {d : D} (h : DvAll K G ds vs) (e : atI ds i = some d) : ∃ v, L2.atI vs i = some v ∧ Dv K G d v := by
  unfold L2.atI at e ⊢
  rw [h.length]
  cases q : ixN ds.length i with
  | none => rw [q] at e; cases e
  | some j =>
    rw [q] at e
    exact h.get e
theorem one_len (c : Nat) : (⟨#[c]⟩ : Str).length ≤ sizeLine := by rw [sizeLine_eq]; exact (by decide : 1 ≤ 16777216)
end
section
variable {X : Cx} {a b : Expr} {fa fb : Env → Option D} {pos : Pos}
theorem ix_dict (hu : X.A.units + 64 < cLine) : IxR X (fun x y H Q => ∃ a v, x = .ref a ∧ DGet H a y (some v) ∧ Q v H) := by
  intro value slice pins s σ H x y v u Q I rx ry h hs
  obtain ⟨a, w, rfl, g, q⟩ := h
  cases rx
  have hT := dict_typeIs I g
  unfold subscriptTail
  refine wpAny_bind ?_
  rw [getitemInPython_of_ne hT.not_modules]
  refine wpAny_bind (wpAny_specialOf hT PySem.F.slot_dict_getitem.lookup ?_)
  have fin : wpAny (model X.prog X.w) X.A (subscripted slice false (.ref a) u) (fun r s₃ => wpAny (model X.prog X.w) X.A (letTemporaryGo value (.ref a) r >>= fun _ => pure r) (EP X pins σ Q) X.xe s₃) X.xe s := by
    rw [hs]
    exact wpAny_operating (d_getItem (by omega) I g ry fun w' s3 I3 rw' => wpAny_bind (wpAny_letTemporaryGo (wpAny_pure ⟨w, H, I3, rw', q⟩)))
  first
    | exact wpAny_pure (wpAny_bind fin)
    | exact wpAny_bind (wpAny_pure (wpAny_bind fin))
    | exact wpAny_bind fin
theorem ix_d (hu : X.A.units + 64 < cLine) : IxR X (rD2 X.K ixD) := by
  intro value slice pins s σ H x y v u Q I rx ry ⟨G, dx, dy, d, sb, hx, hy, e, q⟩ hs
  unfold ixD at e
  split at e
  · rename_i ds n
    obtain ⟨p, xs, rfl, h1, h2, h3⟩ := hx
    have := hy.int
    subst this
    obtain ⟨w, e1, hd⟩ := h3.atI e
    exact ix_list value slice pins s σ H _ _ v u Q I rx ry ⟨p, xs, n, w, rfl, rfl, h1, e1, q _ _ _ (.refl sb) hd⟩ hs
  · rename_i ds n
    obtain ⟨p, xs, rfl, h1, h2, h3⟩ := hx.tup
    have := hy.int
    subst this
    obtain ⟨w, e1, hd⟩ := h3.atI e
    exact ix_tup value slice pins s σ H _ _ v u Q I rx ry ⟨p, xs, n, w, rfl, rfl, sb.sqT h1, e1, q _ _ _ (.refl sb) hd⟩ hs
  · rename_i z n
    obtain ⟨rfl, hz⟩ := hx.str
    have := hy.int
    subst this
    cases e1 : L2.atI z.cps.toList n with
    | none => rw [e1] at e; cases e
    | some c =>
      rw [e1] at e
      cases e
      exact ix_str value slice pins s σ H _ _ v u Q I rx ry ⟨z, n, c, rfl, rfl, hz, e1, q _ _ _ (.refl sb) (.str (one_len c))⟩ hs
  · rename_i kvs
    cases hk : toKey dy with
    | none => rw [hk] at e; cases e
    | some key =>
      rw [hk, Option.bind_some] at e
      obtain ⟨p, kx, rfl, h1, h2, h3⟩ := hx
      have ek := keyD_of hk
      have ey : y = kV key := by
        subst ek
        cases key with
        | inl i => exact hy.int
        | inr z => exact hy.str.1
      subst ey
      obtain ⟨w, e1, hd⟩ := (h3.get key).1 d e
      exact ix_dict hu value slice pins s σ H _ _ v u Q I rx ry ⟨p, w, rfl, .inl ⟨kx, key, h1, rfl, e1.symm⟩, q _ _ _ (.refl sb) hd⟩ hs
  · cases e
theorem e_ix (hu : X.A.units + 64 < cLine) (ha : PE X a (tW X.K fa)) (hb : PE X b (tW X.K fb)) (hs : PlainIx b := by exact fun _ _ => rfl) : PE X (.Subscript a b pos) (tD X.K (f2 ixD fa fb)) := PE.to (pe_ix (ix_d hu) ha hb hs) two_to
end

/-! ### slices -/
def partD (f : Env → Option D) : Env → Option (Option Int) := fun env => (f env).bind fun d => match d with
  | .int i => some (some i)
  | _ => none
def noPart : Env → Option (Option Int) := fun _ => some none
def tP (K : PySem.W.Frag) (f : Env → Option (Option Int)) : TO := fun σ H Q => ∃ H0 G0 G env o, Rel K H0 G0 σ H G env ∧ f env = some o ∧ ∀ H' G', Ex H G H' G' → Q o H'
def cutL {α : Type} (xs : List α) (lo hi : Option Int) : List α := (xs.drop (HT.sIx xs.length 0 lo)).take (HT.sIx xs.length xs.length hi - HT.sIx xs.length 0 lo)
def slD (c : D) (lo hi : Option Int) : Option D := match c with
  | .list xs => some (.list (cutL xs lo hi))
  | .tuple xs => some (.tuple (cutL xs lo hi))
  | .str z => some (.str (cutS z lo hi))
  | _ => none
def fSl (f : Env → Option D) (g h : Env → Option (Option Int)) : Env → Option D := fun env => (f env).bind fun c => (g env).bind fun lo => (h env).bind fun hi => slD c lo hi
section
variable {K : PySem.W.Frag} {G H : Hp}
theorem DvAll.cut {ds : List D} {vs : List V} (h : DvAll K G ds vs) (lo hi : Option Int) : DvAll K G (cutL ds lo hi) (cutV vs lo hi) := by
  unfold cutL cutV
  rw [h.length]
  exact (h.drop _).take _
theorem cutS_len (z : Str) (lo hi : Option Int) (h : z.length ≤ sizeLine) : (cutS z lo hi).length ≤ sizeLine := by
  refine Nat.le_trans ?_ h
  show ((z.cps.toList.drop _).take _).toArray.size ≤ z.cps.size
  rw [List.size_toArray, List.length_take, List.length_drop, Array.length_toList]
  omega
end
section
variable {X : Cx} {e : Expr} {f : Env → Option D} {g h : Env → Option (Option Int)} {lo hi : Option Expr} {pos p2 : Pos}
theorem PO_to {o : Option Expr} {t t' : TO} (h : PO X o t) (k : ∀ σ H Q, t' σ H Q → t σ H Q) : PO X o t' := ⟨fun pins s σ H Q I q => h.run pins s σ H Q I (k σ H Q q)⟩
theorem p_none : PO X none (tP X.K noPart) := PO_to po_none fun σ H Q ⟨H0, G0, G, env, o, r, ef, q⟩ => by
  cases ef
  exact q H G (.refl r.sub)
theorem p_some (he : PE X e (tW X.K f)) : PO X (some e) (tP X.K (partD f)) := PO_to (po_some he) fun σ H Q ⟨H0, G0, G, env, o, r, ef, q⟩ => by
  unfold partD at ef
  cases e1 : f env with
  | none => rw [e1] at ef; cases ef
  | some d =>
    rw [e1, Option.bind_some] at ef
    cases d with
    | int i =>
      cases ef
      exact ⟨H0, G0, G, env, _, r, e1, fun v H' G' x hv => ⟨i, hv.int, q H' G' x⟩⟩
    | _ => cases ef
def rSlD (K : PySem.W.Frag) : V → Option Int → Option Int → Hp → VK → Prop := fun x lo hi H Q => ∃ G dx d, Sub G H ∧ Sh K H G dx x ∧ slD dx lo hi = some d ∧ ∀ v H' G', Ex H G H' G' → Dv K G' d v → Q v H'
/-- t[lo:hi], the new object known -/
theorem sl_tupF : SlR X (fun x lo hi H Q => ∃ a xs, x = .ref a ∧ SqT X.K H a xs ∧ (HT.sIx xs.length 0 lo = 0 ∧ HT.sIx xs.length xs.length hi = xs.length → Q (.ref a) H) ∧
    (¬ (HT.sIx xs.length 0 lo = 0 ∧ HT.sIx xs.length xs.length hi = xs.length) → ∀ p o, H p = none → TupO o → Q (.ref p) (upd H p (.frz o (.tup (cutV xs lo hi)))))) := by
  intro pins s σ H x v vl vu lo hi sl Q I rx hs pl pu h
  obtain ⟨a, xs, rfl, hx, q1, q2⟩ := h
  by_cases hw : HT.sIx xs.length 0 lo = 0 ∧ HT.sIx xs.length xs.length hi = xs.length
  · exact sl_tupA pins s σ H _ v vl vu lo hi sl Q I rx hs pl pu ⟨a, xs, rfl, hx, q1, fun n => absurd hw n⟩
  · cases rx
    obtain ⟨its, r, ht, hz⟩ := I.tuple hx
    have hlen : its.toArray.size = xs.length := by rw [List.size_toArray]; exact r.length.symm
    refine ⟨"tuple", _, PyProof.Rows.slot_tuple_getitem.lookup, ht.typeIs, ?_⟩
    refine HT.getItem_tuple_cut ht hs pl pu (by rw [hlen]; exact hw) ?_ (by rw [hlen]; exact hz)
    rw [hlen]
    refine ⟨.ref s.heap.objs.size, _, I.laid (t' := s.toks) (o := .frz { cls := .type "tuple", data := .seq ((its.toArray.toList.drop (HT.sIx xs.length 0 lo)).take (HT.sIx xs.length xs.length hi - HT.sIx xs.length 0 lo)).toArray } (.tup (cutV xs lo hi))) (fun b ob q => Heap.get?_push_of_some _ q) (Nat.le_refl _) ?_, rfl, q2 hw _ _ (I.hok.fresh (Nat.le_refl _)) ⟨rfl, rfl⟩⟩
    exact ⟨Heap.get?_push_size _ rfl, Nat.le_trans (cutV_length xs lo hi) hz, _, (r.drop (HT.sIx xs.length 0 lo)).take (HT.sIx xs.length xs.length hi - HT.sIx xs.length 0 lo), IsTup.new _ _⟩
theorem s_d : SlR X (rSlD X.K) := by
  intro pins s σ H x v vl vu lo hi sl Q I rx hs pl pu ⟨G, dx, d, sb, hx, ed, q⟩
  cases dx with
  | list ds =>
    obtain ⟨p, xs, rfl, h1, h2, h3⟩ := hx
    cases ed
    refine sl_list pins s σ H _ v vl vu lo hi sl Q I rx hs pl pu ⟨p, xs, rfl, h1, fun z nz => ?_⟩
    have x2 := Ex.frz (o := .lst (cutV xs lo hi)) sb nz
    exact q _ _ _ x2 (.lst upd_same (Nat.le_trans (cutV_length xs lo hi) h2) ((h3.cut lo hi).mono x2.gr))
  | tuple ds =>
    have hx0 := hx
    obtain ⟨p, xs, rfl, h1, h2, h3⟩ := hx.tup
    cases ed
    refine sl_tupF pins s σ H _ v vl vu lo hi sl Q I rx hs pl pu ⟨p, xs, rfl, sb.sqT h1, fun hw => ?_, fun hw z o nz to => ?_⟩
    · have e1 : cutL ds lo hi = ds := by
        unfold cutL
        rw [← h3.length, hw.1, hw.2, List.drop_zero, Nat.sub_zero, h3.length, List.take_length]
      rw [e1] at q
      exact q _ _ _ (.refl sb) hx0
    · obtain ⟨x2, hd⟩ := Dv.newT sb nz to (Nat.le_trans (cutV_length xs lo hi) h2) (h3.cut lo hi)
      exact q _ _ _ x2 hd
  | str z =>
    obtain ⟨rfl, hz⟩ := hx.str
    cases ed
    exact sl_str pins s σ H _ v vl vu lo hi sl Q I rx hs pl pu ⟨z, rfl, hz, q _ _ _ (.refl sb) (.str (cutS_len z lo hi hz))⟩
  | _ => cases ed
theorem e_slice (he : PE X e (tW X.K f)) (hl : PO X lo (tP X.K g)) (hu : PO X hi (tP X.K h)) : PE X (.Subscript e (.Slice lo hi none p2) pos) (tD X.K (fSl f g h)) :=
  PE.to (pe_slice s_d he hl hu) fun σ H Q ⟨H0, G0, G, env, d, r, ef, q⟩ => by
    unfold fSl at ef
    cases e1 : f env with
    | none => rw [e1] at ef; cases ef
    | some c =>
      cases e2 : g env with
      | none => rw [e1, e2] at ef; cases ef
      | some l =>
        cases e3 : h env with
        | none => rw [e1, e2, e3] at ef; cases ef
        | some u =>
          rw [e1, e2, e3] at ef
          refine ⟨H0, G0, G, env, c, r, e1, fun x H1 G1 x1 hx => ⟨H0, G0, G1, env, l, r.next x1, e2, fun H2 G2 x2 => ⟨H0, G0, G2, env, u, (r.next x1).next x2, e3, fun H3 G3 x3 => ?_⟩⟩⟩
          exact ⟨G3, c, d, x3.sub, (hx.ex x2).ex x3, ef, fun v H' G' x4 hv => q v H' G' (x1.trans (x2.trans (x3.trans x4))) hv⟩
end

/-! ### tests -/
/-- a test's answer of a datum that is a truth value -/
def asB : D → Option Bool
  | .bool b => some b
  | _ => none
def fB (f : Env → Option D) : Env → Option Bool := fun env => (f env).bind asB
def fAndB (f g : Env → Option Bool) : Env → Option Bool := fun env => (f env).bind fun b => if b = true then g env else some false
def fOrB (f g : Env → Option Bool) : Env → Option Bool := fun env => (f env).bind fun b => if b = true then some true else g env
def fNotB (f : Env → Option Bool) : Env → Option Bool := fun env => (f env).map fun b => !b
def fOfB (f : Env → Option Bool) : Env → Option D := fun env => (f env).map .bool
def fIf (c : Env → Option Bool) (f g : Env → Option D) : Env → Option D := fun env => (c env).bind fun b => if b = true then f env else g env
/-- and, or of values, all but the last truth values -/
def fAndV (f g : Env → Option D) : Env → Option D := fun env => (f env).bind fun d => match d with
  | .bool b => if b = true then g env else some (.bool false)
  | _ => none
def fOrV (f g : Env → Option D) : Env → Option D := fun env => (f env).bind fun d => match d with
  | .bool b => if b = true then some (.bool true) else g env
  | _ => none
def fNotV (f : Env → Option D) : Env → Option D := fun env => (f env).bind fun d => match d with
  | .bool b => some (.bool (!b))
  | _ => none
section
variable {X : Cx} {a b c e : Expr} {f g : Env → Option D} {p q : Env → Option Bool} {rest : List Expr} {pos : Pos}
theorem tT_bind {K : PySem.W.Frag} {f : Env → Option Bool} {g : Bool → Env → Option Bool} {σ : L2.St} {H : Hp} {Q : Bool → Hp → Prop} (h : tT K (fun env => (f env).bind fun b => g b env) σ H Q) :
    tT K f σ H fun b H1 => tT K (g b) σ H1 Q := by
  obtain ⟨H0, G0, G, env, d, r, ef, q⟩ := h
  dsimp only at ef
  cases e1 : f env with
  | none => rw [e1] at ef; cases ef
  | some b =>
    rw [e1, Option.bind_some] at ef
    exact ⟨H0, G0, G, env, b, r, e1, fun H1 G1 x1 => ⟨H0, G0, G1, env, d, r.next x1, ef, fun H2 G2 x2 => q H2 G2 (x1.trans x2)⟩⟩
theorem tT_pure {K : PySem.W.Frag} {b : Bool} {σ : L2.St} {H : Hp} {Q : Bool → Hp → Prop} (h : tT K (fun _ => some b) σ H Q) : Q b H := by
  obtain ⟨H0, G0, G, env, d, r, ef, q⟩ := h
  cases ef
  exact q H G (.refl r.sub)
theorem t_val (h : PE X e (tW X.K f)) (he : ∀ whole, isTrue e X.env whole = (do let v ← whole; standAt e.pos; holding [v] (truthy v)) := by intro _; rfl) : PT X e (tT X.K (fB f)) :=
  PT.to (pt_val h he) fun σ H Q ⟨H0, G0, G, env, d, r, ef, q⟩ => by
    unfold fB at ef
    cases e1 : f env with
    | none => rw [e1] at ef; cases ef
    | some c =>
      rw [e1, Option.bind_some] at ef
      cases c with
      | bool k =>
        cases ef
        exact ⟨H0, G0, G, env, _, r, e1, fun v H' G' x hv => ⟨_, hv.bool, q H' G' x⟩⟩
      | _ => cases ef
theorem t_cmp {op : CmpOp} {g' : D → D → Option D} {fa fb : Env → Option D} (ho : OpR X (compareOp op) (rD2 X.K g')) (ha : PE X a (tW X.K fa)) (hb : PE X b (tW X.K fb)) (hm : behindInMarks op b = false := by first | exact nomark _ | rfl) : PT X (.Compare a [op] [b] pos) (tT X.K (fB (f2 g' fa fb))) :=
  PT.to (pt_cmpR ho ha hb hm) fun σ H Q ⟨H0, G0, G, env, d, r, ef, q⟩ => by
    unfold fB at ef
    cases e1 : f2 g' fa fb env with
    | none => rw [e1] at ef; cases ef
    | some c =>
      rw [e1, Option.bind_some] at ef
      cases c with
      | bool k =>
        cases ef
        exact two_to σ H _ ⟨H0, G0, G, env, _, r, e1, fun v H' G' x hv => ⟨_, by simpa only [Dv] using hv, q H' G' x⟩⟩
      | _ => cases ef
theorem t_and1 (ha : PT X a (tT X.K p)) : PW X (.BoolOp .And [a] pos) (tT X.K p) := pw_and1 ha
theorem t_or1 (ha : PT X a (tT X.K p)) : PW X (.BoolOp .Or [a] pos) (tT X.K p) := pw_or1 ha
theorem PW_to {t t' : TT} (h : PW X e t) (k : ∀ σ H Q, t' σ H Q → t σ H Q) : PW X e t' := ⟨fun wh pins s σ H Q I q => h.run wh pins s σ H Q I (k σ H Q q)⟩
theorem t_and (ha : PT X a (tT X.K p)) (hb : PW X (.BoolOp .And (b :: rest) pos) (tT X.K q)) : PW X (.BoolOp .And (a :: b :: rest) pos) (tT X.K (fAndB p q)) :=
  PW_to (pw_and ha hb) fun σ H Q h => by
    obtain ⟨H0, G0, G, env, d, r, ef, k⟩ := tT_bind (g := fun b env => if b = true then q env else some false) h
    refine ⟨H0, G0, G, env, d, r, ef, fun H' G' x => ?_⟩
    cases d with
    | true => simpa only [if_true] using k H' G' x
    | false => simpa only [Bool.false_eq_true, if_false] using tT_pure (k H' G' x)
theorem t_or (ha : PT X a (tT X.K p)) (hb : PW X (.BoolOp .Or (b :: rest) pos) (tT X.K q)) : PW X (.BoolOp .Or (a :: b :: rest) pos) (tT X.K (fOrB p q)) :=
  PW_to (pw_or ha hb) fun σ H Q h => by
    obtain ⟨H0, G0, G, env, d, r, ef, k⟩ := tT_bind (g := fun b env => if b = true then some true else q env) h
    refine ⟨H0, G0, G, env, d, r, ef, fun H' G' x => ?_⟩
    cases d with
    | true => simpa only [if_true] using tT_pure (k H' G' x)
    | false => simpa only [Bool.false_eq_true, if_false] using k H' G' x
theorem t_not (ha : PT X a (tT X.K p)) : PT X (.UnaryOp .Not a pos) (tT X.K (fNotB p)) :=
  PT.to (pt_not ha) fun σ H Q ⟨H0, G0, G, env, d, r, ef, q⟩ => by
    unfold fNotB at ef
    cases e1 : p env with
    | none => rw [e1] at ef; cases ef
    | some b =>
      rw [e1] at ef
      cases ef
      exact ⟨H0, G0, G, env, b, r, e1, q⟩
/-! ### .. as values -/
theorem e_one {op} (h : PE X a (tD X.K f)) : PE X (.BoolOp op [a] pos) (tD X.K f) := pe_one h
theorem e_and (ha : PE X a (tD X.K f)) (hb : PE X (.BoolOp .And (b :: rest) pos) (tD X.K g)) : PE X (.BoolOp .And (a :: b :: rest) pos) (tD X.K (fAndV f g)) :=
  PE.to (pe_and ha hb) fun σ H Q ⟨H0, G0, G, env, d, r, ef, q⟩ => by
    unfold fAndV at ef
    cases e1 : f env with
    | none => rw [e1] at ef; cases ef
    | some c =>
      rw [e1, Option.bind_some] at ef
      cases c with
      | bool k =>
        refine ⟨H0, G0, G, env, _, r, e1, fun v H' G' x hv => ⟨k, by simpa only [Dv] using hv, ?_⟩⟩
        cases k with
        | true => exact iteT ⟨H0, G0, G', env, d, r.next x, ef, fun v H2 G2 x2 hv => q v H2 G2 (x.trans x2) hv⟩
        | false => cases ef; exact iteF (q _ H' G' x .bool)
      | _ => cases ef
theorem e_or (ha : PE X a (tD X.K f)) (hb : PE X (.BoolOp .Or (b :: rest) pos) (tD X.K g)) : PE X (.BoolOp .Or (a :: b :: rest) pos) (tD X.K (fOrV f g)) :=
  PE.to (pe_or ha hb) fun σ H Q ⟨H0, G0, G, env, d, r, ef, q⟩ => by
    unfold fOrV at ef
    cases e1 : f env with
    | none => rw [e1] at ef; cases ef
    | some c =>
      rw [e1, Option.bind_some] at ef
      cases c with
      | bool k =>
        refine ⟨H0, G0, G, env, _, r, e1, fun v H' G' x hv => ⟨k, by simpa only [Dv] using hv, ?_⟩⟩
        cases k with
        | true => cases ef; exact iteT (q _ H' G' x .bool)
        | false => exact iteF ⟨H0, G0, G', env, d, r.next x, ef, fun v H2 G2 x2 hv => q v H2 G2 (x.trans x2) hv⟩
      | _ => cases ef
theorem e_not (ha : PE X a (tD X.K f)) : PE X (.UnaryOp .Not a pos) (tD X.K (fNotV f)) :=
  PE.to (pe_not ha) fun σ H Q ⟨H0, G0, G, env, d, r, ef, q⟩ => by
    unfold fNotV at ef
    cases e1 : f env with
    | none => rw [e1] at ef; cases ef
    | some c =>
      rw [e1, Option.bind_some] at ef
      cases c with
      | bool k =>
        cases ef
        exact ⟨H0, G0, G, env, _, r, e1, fun v H' G' x hv => ⟨k, by simpa only [Dv] using hv, q _ H' G' x .bool⟩⟩
      | _ => cases ef
theorem e_if (hc : PT X c (tT X.K p)) (ha : PE X a (tD X.K f)) (hb : PE X b (tD X.K g)) : PE X (.IfExp c a b pos) (tD X.K (fIf p f g)) :=
  PE.to (pe_ifExp hc ha hb) fun σ H Q ⟨H0, G0, G, env, d, r, ef, q⟩ => by
    unfold fIf at ef
    cases e1 : p env with
    | none => rw [e1] at ef; cases ef
    | some k =>
      rw [e1, Option.bind_some] at ef
      refine ⟨H0, G0, G, env, k, r, e1, fun H' G' x => ?_⟩
      cases k with
      | true => exact iteT ⟨H0, G0, G', env, d, r.next x, ef, fun v H2 G2 x2 hv => q v H2 G2 (x.trans x2) hv⟩
      | false => exact iteF ⟨H0, G0, G', env, d, r.next x, ef, fun v H2 G2 x2 hv => q v H2 G2 (x.trans x2) hv⟩
/-- a < b < c -/
def fChain (g g' : D → D → Option D) (fa fb fc : Env → Option D) : Env → Option D := fun env => (fa env).bind fun x => (fb env).bind fun y => (g x y).bind fun z => match z with
  | .bool k => if k = true then (fc env).bind fun w => g' y w else some (.bool false)
  | _ => none
theorem chain_to {K : PySem.W.Frag} {g g' : D → D → Option D} {fa fb fc : Env → Option D} : ∀ σ H Q, tD K (fChain g g' fa fb fc) σ H Q → tChain (rD2 K g) (rD2 K g') (tW K fa) (tW K fb) (tW K fc) σ H Q := fun σ H Q ⟨H0, G0, G, env, d, r, ef, q⟩ => by
  unfold fChain at ef
  cases e1 : fa env with
  | none => rw [e1] at ef; cases ef
  | some dx =>
    cases e2 : fb env with
    | none => rw [e1, e2] at ef; cases ef
    | some dy =>
      rw [e1, e2, Option.bind_some, Option.bind_some] at ef
      cases e3 : g dx dy with
      | none => rw [e3] at ef; cases ef
      | some dz =>
        rw [e3, Option.bind_some] at ef
        refine ⟨H0, G0, G, env, dx, r, e1, fun x H1 G1 x1 hx => ⟨H0, G0, G1, env, dy, r.next x1, e2, fun y H2 G2 x2 hy => ⟨G2, dx, dy, dz, x2.sub, hx.ex x2, hy, e3, fun z H3 G3 x3 hz => ?_⟩⟩⟩
        cases dz with
        | bool k =>
          refine ⟨k, by simpa only [Dv] using hz, ?_⟩
          cases k with
          | false => cases ef; exact iteF (q _ H3 G3 (x1.trans (x2.trans x3)) .bool)
          | true =>
            refine iteT ?_
            have ef' : (fc env).bind (fun w => g' dy w) = some d := ef
            cases e4 : fc env with
            | none => rw [e4] at ef'; cases ef'
            | some dw =>
              rw [e4, Option.bind_some] at ef'
              exact ⟨H0, G0, G3, env, dw, ((r.next x1).next x2).next x3, e4, fun w H4 G4 x4 hw => ⟨G4, dy, dw, d, x4.sub, (hy.ex x3).ex x4, hw, ef', fun v H5 G5 x5 hv => q v H5 G5 (x1.trans (x2.trans (x3.trans (x4.trans x5)))) hv⟩⟩
        | _ => cases ef
theorem e_chain {op op' : CmpOp} {g g' : D → D → Option D} {fa fb fc : Env → Option D} (ho : OpR X (compareOp op) (rD2 X.K g)) (ho' : OpR X (compareOp op') (rD2 X.K g')) (ha : PE X a (tW X.K fa)) (hb : PE X b (tW X.K fb)) (hc : PE X c (tW X.K fc))
    (hm : lastMarks [op, op'] [b, c] = false := by first | rfl | exact nomark _) : PE X (.Compare a [op, op'] [b, c] pos) (tD X.K (fChain g g' fa fb fc)) := PE.to (pe_chain ho ho' ha hb hc hm) chain_to
theorem t_chain {op op' : CmpOp} {g g' : D → D → Option D} {fa fb fc : Env → Option D} (ho : OpR X (compareOp op) (rD2 X.K g)) (ho' : OpR X (compareOp op') (rD2 X.K g')) (ha : PE X a (tW X.K fa)) (hb : PE X b (tW X.K fb)) (hc : PE X c (tW X.K fc))
    (hm : lastMarks [op, op'] [b, c] = false := by first | rfl | exact nomark _) : PT X (.Compare a [op, op'] [b, c] pos) (tT X.K (fB (fChain g g' fa fb fc))) :=
  PT.to (pt_chain ho ho' ha hb hc hm) fun σ H Q ⟨H0, G0, G, env, d, r, ef, q⟩ => by
    unfold fB at ef
    cases e1 : fChain g g' fa fb fc env with
    | none => rw [e1] at ef; cases ef
    | some c =>
      rw [e1, Option.bind_some] at ef
      cases c with
      | bool k =>
        cases ef
        exact chain_to σ H _ ⟨H0, G0, G, env, _, r, e1, fun v H' G' x hv => ⟨_, by simpa only [Dv] using hv, q H' G' x⟩⟩
      | _ => cases ef
end
end PD

/-! THE DATA LAYER 4: what is walked, targets, comprehensions. -/
namespace PD
open PySem PySem.Spec PyProof.Rows L2

/-! ### what is walked -/
/-- J hands out the data ds, one by one, at the heaps H, G -/
structure At (K : PySem.W.Frag) (J : It) (ds : List D) (H G : Hp) : Prop where
  go : ∀ i, i < ds.length → J.go i H
  stop : J.stop ds.length H
  yld : ∀ i x H', i < ds.length → J.yld i H x H' → ∃ d G', ds[i]? = some d ∧ Ex H G H' G' ∧ Dv K G' d x
/-- as long as what is frozen stays -/
structure Walk (K : PySem.W.Frag) (J : It) (ds : List D) (G1 : Hp) : Prop where
  at_ : ∀ H G, Gr G1 G → Sub G H → At K J ds H G
  len : ds.length ≤ sizeLine
/-- as long as all stays -/
structure WalkH (K : PySem.W.Frag) (J : It) (ds : List D) (H1 G1 : Hp) : Prop where
  at_ : ∀ H G, Ex H1 G1 H G → At K J ds H G
  len : ds.length ≤ sizeLine
theorem Walk.h {K : PySem.W.Frag} {J : It} {ds : List D} {H1 G1 : Hp} (w : Walk K J ds G1) : WalkH K J ds H1 G1 := ⟨fun H G x => w.at_ H G x.gr x.sub, w.len⟩

def tI (K : PySem.W.Frag) (f : Env → Option (List D)) : TI := fun σ H R => ∃ H0 G0 G env ds, Rel K H0 G0 σ H G env ∧ f env = some ds ∧ ∀ J H' G', Ex H G H' G' → Walk K J ds G' → R J H'
def tIh (K : PySem.W.Frag) (f : Env → Option (List D)) : TI := fun σ H R => ∃ H0 G0 G env ds, Rel K H0 G0 σ H G env ∧ f env = some ds ∧ ∀ J H' G', Ex H G H' G' → WalkH K J ds H' G' → R J H'
section
variable {K : PySem.W.Frag} {G H : Hp}
theorem at_list {a : Addr} {xs : List V} {ds : List D} (h : SqL K H a xs) (hd : DvAll K G ds xs) (sb : Sub G H) (uniq : ∀ ys, SqL K H a ys → ys = xs) : At K (Itl K a) ds H G :=
  ⟨fun i hi => ⟨xs, xs[i]'(by rw [hd.length]; exact hi), h, by simp⟩, ⟨xs, h, by rw [hd.length]; exact Nat.le_refl _⟩, fun i x H' _ ⟨e, y⟩ => by
    subst e
    obtain ⟨d, e1, e2⟩ := hd.getV (y xs h)
    exact ⟨d, G, e1, .refl sb, e2⟩⟩
theorem at_tup {a : Addr} {xs : List V} {ds : List D} (h : SqT K H a xs) (hd : DvAll K G ds xs) (sb : Sub G H) : At K (Itt K a) ds H G :=
  ⟨fun i hi => ⟨xs, xs[i]'(by rw [hd.length]; exact hi), h, by simp⟩, ⟨xs, h, by rw [hd.length]; exact Nat.le_refl _⟩, fun i x H' _ ⟨e, y⟩ => by
    subst e
    obtain ⟨d, e1, e2⟩ := hd.getV (y xs h)
    exact ⟨d, G, e1, .refl sb, e2⟩⟩
end
/-- what a list, a tuple, a text hands out -/
def itemsD : D → Option (List D)
  | .list xs => some xs
  | .tuple xs => some xs
  | .str z => some (z.cps.toList.map fun c => .str ⟨#[c]⟩)
  | _ => none
def fIt (f : Env → Option D) : Env → Option (List D) := fun env => (f env).bind itemsD
section
variable {X : Cx} {tg e : Expr} {f : Env → Option D}
theorem PI_to {t t' : TI} (h : PI X tg e t) (k : ∀ σ H R, t' σ H R → t σ H R) : PI X tg e t' := ⟨fun pins s σ H R I q => h.run pins s σ H R I (k σ H R q)⟩
theorem walk_str (z : Str) (hz : z.length ≤ sizeLine) (G : Hp) : Walk X.K (Its z) (z.cps.toList.map fun c => .str ⟨#[c]⟩) G :=
  ⟨fun H G' _ sb => ⟨fun i hi => by simpa [Its] using hi, by simp only [Its, List.length_map, Array.length_toList]; exact Nat.le_refl _, fun i x H' _ ⟨e, c, hc, ex⟩ => by
    subst e ex
    refine ⟨_, G', ?_, .refl sb, .str (one_len c)⟩
    rw [List.getElem?_map, Array.getElem?_toList, hc] <;> rfl⟩, by rw [List.length_map, Array.length_toList]; exact hz⟩
/-- frozen things, for a loop whose body may change what is owned -/
theorem i_seq (h : PE X e (tD X.K f)) : PI X tg e (tI X.K (fIt f)) :=
  ⟨fun pins s σ H R I ⟨H0, G0, G, env, ds, r, ef, q⟩ => by
    unfold fIt at ef
    cases e1 : f env with
    | none => rw [e1] at ef; cases ef
    | some d =>
      rw [e1, Option.bind_some] at ef
      cases d with
      | list xs =>
        cases ef
        refine (pi_list h).run pins s σ H R I ⟨H0, G0, G, env, _, r, e1, fun v H' G' x hv => ?_⟩
        simp only [Dv] at hv
        obtain ⟨a, vs, rfl, h1, h2, h3⟩ := hv
        refine ⟨a, rfl, ⟨vs, x.sub.sq h1⟩, q _ H' G' x ⟨fun H2 G2 g sb => ?_, by rw [← h3.length]; exact h2⟩⟩
        have h4 := sb.sq (h1.imp (LG.mono g) id)
        refine ⟨fun i hi => ⟨vs, vs[i]'(by rw [h3.length]; exact hi), h4, by simp⟩, ⟨vs, h4, by rw [h3.length]; exact Nat.le_refl _⟩, fun i w H3 _ ⟨e3, y⟩ => ?_⟩
        subst e3
        obtain ⟨d, k1, k2⟩ := (h3.mono g).getV (y vs h4)
        exact ⟨d, G2, k1, .refl sb, k2⟩
      | tuple xs =>
        cases ef
        refine (pi_tup h).run pins s σ H R I ⟨H0, G0, G, env, _, r, e1, fun v H' G' x hv => ?_⟩
        simp only [Dv] at hv
        obtain ⟨a, vs, rfl, h1, h2, h3⟩ := hv
        refine ⟨a, rfl, ⟨vs, x.sub.sqT h1⟩, q _ H' G' x ⟨fun H2 G2 g sb => ?_, by rw [← h3.length]; exact h2⟩⟩
        have h4 := sb.sqT (h1.imp (TGh.mono g) id)
        exact at_tup h4 (h3.mono g) sb
      | str z =>
        cases ef
        refine (pi_str h).run pins s σ H R I ⟨H0, G0, G, env, _, r, e1, fun v H' G' x hv => ?_⟩
        simp only [Dv] at hv
        obtain ⟨rfl, hz⟩ := hv
        exact ⟨z, rfl, q _ H' G' x (walk_str z hz G')⟩
      | _ => cases ef⟩
/-- .. owned ones too, for a comprehension -/
theorem ih_seq (h : PE X e (tW X.K f)) : PI X tg e (tIh X.K (fIt f)) :=
  ⟨fun pins s σ H R I ⟨H0, G0, G, env, ds, r, ef, q⟩ => by
    unfold fIt at ef
    cases e1 : f env with
    | none => rw [e1] at ef; cases ef
    | some d =>
      rw [e1, Option.bind_some] at ef
      cases d with
      | list xs =>
        cases ef
        refine (pi_list h).run pins s σ H R I ⟨H0, G0, G, env, _, r, e1, fun v H' G' x hv => ?_⟩
        obtain ⟨a, vs, rfl, h1, h2, h3⟩ := hv
        refine ⟨a, rfl, ⟨vs, h1⟩, q _ H' G' x ⟨fun H2 G2 y => ?_, by rw [← h3.length]; exact h2⟩⟩
        have h4 := y.same.seq h1
        refine ⟨fun i hi => ⟨vs, vs[i]'(by rw [h3.length]; exact hi), h4, by simp⟩, ⟨vs, h4, by rw [h3.length]; exact Nat.le_refl _⟩, fun i w H3 _ ⟨e3, yy⟩ => ?_⟩
        subst e3
        obtain ⟨d, k1, k2⟩ := (h3.mono y.gr).getV (yy vs h4)
        exact ⟨d, G2, k1, .refl y.sub, k2⟩
      | tuple xs =>
        cases ef
        refine (pi_tup h).run pins s σ H R I ⟨H0, G0, G, env, _, r, e1, fun v H' G' x hv => ?_⟩
        obtain ⟨a, vs, rfl, h1, h2, h3⟩ := hv.tup
        refine ⟨a, rfl, ⟨vs, x.sub.sqT h1⟩, q _ H' G' x ⟨fun H2 G2 y => ?_, by rw [← h3.length]; exact h2⟩⟩
        exact at_tup (y.sub.sqT (h1.imp (TGh.mono y.gr) id)) (h3.mono y.gr) y.sub
      | str z =>
        cases ef
        refine (pi_str h).run pins s σ H R I ⟨H0, G0, G, env, _, r, e1, fun v H' G' x hv => ?_⟩
        obtain ⟨rfl, hz⟩ := hv.str
        exact ⟨z, rfl, q _ H' G' x (walk_str z hz G').h⟩
      | _ => cases ef⟩
theorem ih_of {g : Env → Option (List D)} (h : PI X tg e (tI X.K g)) : PI X tg e (tIh X.K g) := PI_to h fun σ H R ⟨H0, G0, G, env, ds, r, ef, q⟩ =>
  ⟨H0, G0, G, env, ds, r, ef, fun J H' G' x w => q J H' G' x w.h⟩
end

/-! ### range -/
def rangeD (lo : Int) (n : Nat) : List D := (List.range n).map fun (i : Nat) => .int (lo + (i : Int))
def fR1 (f : Env → Option D) : Env → Option (List D) := fun env => (f env).bind fun d => match d with
  | .int n => if -10000 ≤ n ∧ n ≤ 10000 then some (rangeD 0 n.toNat) else none
  | _ => none
def fR2 (f g : Env → Option D) : Env → Option (List D) := fun env => (f env).bind fun d => (g env).bind fun e => match d, e with
  | .int a, .int b => if -10000 ≤ a ∧ a ≤ 10000 ∧ -10000 ≤ b ∧ b ≤ 10000 then some (rangeD a (b - a).toNat) else none
  | _, _ => none
section
variable {X : Cx} {tg a b : Expr} {f g : Env → Option D} {p pos : Pos}
theorem small_toNat {n : Nat} (h : n ≤ 100000) : n ≤ sizeLine := by rw [sizeLine_eq]; omega
theorem walk_range (lo : Int) (n : Nat) (hn : n ≤ 100000) (G : Hp) : Walk X.K (Itr lo n) (rangeD lo n) G :=
  ⟨fun H G' _ sb => ⟨fun i hi => by simpa [rangeD, Itr] using hi, by simp [Itr, rangeD], fun i x H' hi ⟨e, ex⟩ => by
    subst e ex
    have hi : i < n := by simpa [rangeD] using hi
    exact ⟨_, G', by rw [rangeD, List.getElem?_map, List.getElem?_range hi] <;> rfl, .refl sb, .int⟩⟩, by rw [rangeD, List.length_map, List.length_range]; exact small_toNat hn⟩
theorem i_range1 (hg : Gl X "range") (hm : X.mg "range" = none) (ha : PE X a (tD X.K f)) (hs : starEach [a] X.env = [(false, eval a X.env)] := by rfl) : PI X tg (.Call (.Name "range" p) [a] [] pos) (tI X.K (fR1 f)) :=
  PI_to (pi_range1 hg hm (a_cons ha a_nil hs) hs) fun σ H R ⟨H0, G0, G, env, ds, r, ef, q⟩ => by
    unfold fR1 at ef
    cases e1 : f env with
    | none => rw [e1] at ef; cases ef
    | some d =>
      rw [e1, Option.bind_some] at ef
      cases d with
      | int n =>
        have ef' : (if -10000 ≤ n ∧ n ≤ 10000 then some (rangeD 0 n.toNat) else none) = some ds := ef
        split at ef'
        · rename_i hn
          cases ef'
          refine ⟨H0, G0, G, env, [.int n], r, by unfold fCons fNil; rw [e1] <;> rfl, fun vs H' G' x hv => ?_⟩
          obtain ⟨v, r', rfl, hv1, hv2⟩ := hv.inv
          have := hv2.inv_nil
          subst this
          have : v = .int n := by simpa only [Dv] using hv1
          subst this
          exact ⟨n, rfl, by omega, by omega, q _ H' G' x (walk_range 0 n.toNat (by omega) G')⟩
        · cases ef'
      | _ => cases ef
theorem i_range2 (hg : Gl X "range") (hm : X.mg "range" = none) (ha : PE X a (tD X.K f)) (hb : PE X b (tD X.K g)) (hs : starEach [a, b] X.env = [(false, eval a X.env), (false, eval b X.env)] := by rfl) (hs2 : starEach [b] X.env = [(false, eval b X.env)] := by rfl) :
    PI X tg (.Call (.Name "range" p) [a, b] [] pos) (tI X.K (fR2 f g)) :=
  PI_to (pi_range2 hg hm (a_cons ha (a_cons hb a_nil hs2) (by rw [hs, hs2])) hs hs2) fun σ H R ⟨H0, G0, G, env, ds, r, ef, q⟩ => by
    unfold fR2 at ef
    cases e1 : f env with
    | none => rw [e1] at ef; cases ef
    | some d =>
      cases e2 : g env with
      | none => rw [e1, e2] at ef; cases ef
      | some d2 =>
        rw [e1, e2, Option.bind_some, Option.bind_some] at ef
        cases d with
        | int a =>
          cases d2 with
          | int b =>
            have ef' : (if -10000 ≤ a ∧ a ≤ 10000 ∧ -10000 ≤ b ∧ b ≤ 10000 then some (rangeD a (b - a).toNat) else none) = some ds := ef
            split at ef'
            · rename_i hn
              cases ef'
              refine ⟨H0, G0, G, env, [.int a, .int b], r, by simp only [fCons, fNil, e1, e2, Option.bind_some], fun vs H' G' x hv => ?_⟩
              obtain ⟨v, r', rfl, hv1, hv2⟩ := hv.inv
              obtain ⟨v2, r2, rfl, hv3, hv4⟩ := hv2.inv
              have := hv4.inv_nil
              subst this
              have : v = .int a := by simpa only [Dv] using hv1
              subst this
              have : v2 = .int b := by simpa only [Dv] using hv3
              subst this
              exact ⟨a, b, rfl, ⟨by omega, by omega, by omega, by omega⟩, q _ H' G' x (walk_range a (b - a).toNat (by omega) G')⟩
            · cases ef'
          | _ => cases ef
        | _ => cases ef
end

/-! ### targets -/
/-- vs: the slots that the target writes -/
def gD (K : PySem.W.Frag) (vs : List Nat) (t : D → Env → Option Env) : TG := fun v σ H Q => ∃ H0 G0 G env d env', Rel K H0 G0 σ H G env ∧ Dv K G d v ∧ t d env = some env' ∧
  ∀ σ' H' G', Rel K H0 G0 σ' H' G' env' → Ex H G H' G' → wipe σ' vs = wipe σ vs → Q σ' H'
def gDs (K : PySem.W.Frag) (vs : List Nat) (t : List D → Env → Option Env) : TGs := fun us σ H Q => ∃ H0 G0 G env ds env', Rel K H0 G0 σ H G env ∧ DvAll K G ds us ∧ t ds env = some env' ∧
  ∀ σ' H' G', Rel K H0 G0 σ' H' G' env' → Ex H G H' G' → wipe σ' vs = wipe σ vs → Q σ' H'
def sN (i : Nat) : D → Env → Option Env := fun d env => some (env.set i (.dat d))
def sNil : List D → Env → Option Env := fun ds env => match ds with
  | [] => some env
  | _ => none
def sCons (t : D → Env → Option Env) (u : List D → Env → Option Env) : List D → Env → Option Env := fun ds env => match ds with
  | d :: r => (t d env).bind fun env' => u r env'
  | [] => none
def sTup (t : List D → Env → Option Env) : D → Env → Option Env := fun d env => match d with
  | .tuple ds => t ds env
  | _ => none
section
variable {K : PySem.W.Frag} {H0 : Bs} {G0 H G : Hp} {σ : L2.St} {env : Env}
theorem set_none_comm (σ : L2.St) (i j : Nat) : (σ.set i none).set j none = (σ.set j none).set i none := by
  by_cases h : i = j
  · rw [h]
  · exact List.set_comm _ _ h
theorem wipe_comm (σ : L2.St) (i : Nat) : ∀ vs : List Nat, (wipe σ vs).set i none = wipe (σ.set i none) vs
  | [] => rfl
  | j :: vs => by
    unfold wipe
    rw [set_none_comm, wipe_comm σ i vs]
theorem wipe_set (σ : L2.St) (i : Nat) (v : Option V) : ∀ vs : List Nat, i ∈ vs → wipe (σ.set i v) vs = wipe σ vs
  | [], h => by simp at h
  | j :: vs, h => by
    unfold wipe
    rcases List.mem_cons.mp h with e | h
    · subst e
      rw [wipe_comm, wipe_comm, List.set_set]
    · rw [wipe_set σ i v vs h]
end
section
variable {X : Cx} {vs : List Nat} {pos : Pos}
theorem PG_to {tg : Expr} {t t' : TG} (h : PG X tg t) (k : ∀ v σ H Q, t' v σ H Q → t v σ H Q) : PG X tg t' := ⟨fun pins s σ H v u Q I r q => h.run pins s σ H v u Q I r (k v σ H Q q)⟩
theorem PGs_to {tg : List Expr} {t t' : TGs} (h : PGs X tg t) (k : ∀ v σ H Q, t' v σ H Q → t v σ H Q) : PGs X tg t' := ⟨fun pins s σ H v u Q I r q => h.run pins s σ H v u Q I r (k v σ H Q q)⟩
theorem g_name {i : Nat} {tg : Expr} (h : PG X tg (gName i)) (hi : i ∈ vs := by decide) : PG X tg (gD X.K vs (sN i)) := PG_to h fun v σ H Q ⟨H0, G0, G, env, d, env', r, hv, e, q⟩ => by
  cases e
  exact q _ H G (r.set hv) (.refl r.sub) (wipe_set σ i (some v) vs hi)
theorem g_nil : PGs X [] (gDs X.K vs sNil) := PGs_to pgs_nil fun us σ H Q ⟨H0, G0, G, env, ds, env', r, hv, e, q⟩ => by
  unfold sNil at e
  cases ds with
  | nil => cases e; exact ⟨hv.inv_nil, q _ H G r (.refl r.sub) rfl⟩
  | cons _ _ => cases e
theorem g_cons {e : Expr} {es : List Expr} {t : D → Env → Option Env} {u : List D → Env → Option Env} (h1 : PG X e (gD X.K vs t)) (h2 : PGs X es (gDs X.K vs u))
    (hs : (assignEach (e :: es) X.env).map (·.2) = assign e X.env :: (assignEach es X.env).map (·.2) := by rfl) : PGs X (e :: es) (gDs X.K vs (sCons t u)) :=
  PGs_to (pgs_cons h1 h2 hs) fun us σ H Q ⟨H0, G0, G, env, ds, env', r, hv, ee, q⟩ => by
    unfold sCons at ee
    cases ds with
    | nil => cases ee
    | cons d ds =>
      obtain ⟨v, rest, rfl, hv1, hv2⟩ := hv.inv
      have ee' : (t d env).bind (fun env' => u ds env') = some env' := ee
      cases e1 : t d env with
      | none => rw [e1] at ee'; cases ee'
      | some env1 =>
        rw [e1, Option.bind_some] at ee'
        refine ⟨v, rest, rfl, H0, G0, G, env, d, env1, r, hv1, e1, fun σ1 H1 G1 r1 x1 w1 => ⟨H0, G0, G1, env1, ds, env', r1, hv2.mono x1.gr, ee', fun σ2 H2 G2 r2 x2 w2 => ?_⟩⟩
        exact q σ2 H2 G2 r2 (x1.trans x2) (w2.trans w1)
theorem sTup_some {t : List D → Env → Option Env} {d : D} {env env' : Env} (h : sTup t d env = some env') : ∃ ds, d = .tuple ds ∧ t ds env = some env' := by
  cases d <;> first | exact ⟨_, rfl, h⟩ | cases h
theorem g_tup {es : List Expr} {k : Nat} {t : List D → Env → Option Env} {n : Nat} (hc : X.calm = true) (h : PGs X es (gDs X.K vs t)) (hl : ∀ ds env env', t ds env = some env' → ds.length = n)
    (hn : (assignEach es X.env).length = n := by rfl) (hst : (assignEach es X.env).findIdx? (·.1) = none := by rfl) : PG X (.Tuple es k pos) (gD X.K vs (sTup t)) :=
  PG_to (pg_tup hc h hn hst) fun v σ H Q ⟨H0, G0, G, env, d, env', r, hv, e, q⟩ => by
    obtain ⟨ds, rfl, e'⟩ := sTup_some e
    simp only [Dv] at hv
    obtain ⟨a, xs, rfl, h1, h2, h3⟩ := hv
    exact ⟨a, xs, rfl, r.sub.sqT h1, by rw [h3.length]; exact hl _ _ _ e', H0, G0, G, env, ds, env', r, h3, e', q⟩
theorem len_nil {ds : List D} {env env' : Env} (h : sNil ds env = some env') : ds.length = 0 := by
  cases ds with
  | nil => rfl
  | cons _ _ => cases h
theorem len_cons {t : D → Env → Option Env} {u : List D → Env → Option Env} {n : Nat} (hu : ∀ ds env env', u ds env = some env' → ds.length = n) : ∀ ds env env', sCons t u ds env = some env' → ds.length = n + 1 := fun ds env env' h => by
  cases ds with
  | nil => cases h
  | cons d r =>
    have h' : (t d env).bind (fun env' => u r env') = some env' := h
    cases e1 : t d env with
    | none => rw [e1] at h'; cases h'
    | some env1 =>
      rw [e1, Option.bind_some] at h'
      rw [List.length_cons, hu _ _ _ h']
end

theorem wipe_wipe (σ : L2.St) : ∀ vs : List Nat, wipe (wipe σ vs) vs = wipe σ vs := fun vs => by
  have key : ∀ (us vs : List Nat), (∀ u ∈ us, u ∈ vs) → wipe (wipe σ us) vs = wipe σ vs := by
    intro us
    induction us with
    | nil => intro vs _; rfl
    | cons u us ih =>
      intro vs h
      show wipe ((wipe σ us).set u none) vs = wipe σ vs
      rw [wipe_set _ u none vs (h u List.mem_cons_self)]
      exact ih vs fun x hx => h x (List.mem_cons_of_mem _ hx)
  exact key vs vs fun _ h => h
/-! ### comprehensions -/
def wipeE (env : Env) : List Nat → Env
  | [] => env
  | v :: vs => (wipeE env vs).set v .un
theorem Rel.wipe {K : PySem.W.Frag} {H0 : Bs} {G0 H G : Hp} {σ : L2.St} {env : Env} (r : Rel K H0 G0 σ H G env) : ∀ vs : List Nat, Rel K H0 G0 (wipe σ vs) H G (wipeE env vs)
  | [] => r
  | i :: vs => (r.wipe vs).unset i

/-- one comprehension, from the i-th datum on -/
def compL (t : D → Env → Option Env) (tt : Env → Option Bool) (te : Env → Option D) (env : Env) : List D → Option (List D)
  | [] => some []
  | d :: ds => (t d env).bind fun env1 => (tt env1).bind fun b => if b = true then (te env1).bind fun y => (compL t tt te env ds).bind fun r => some (y :: r) else compL t tt te env ds
def fLc (fi : Env → Option (List D)) (vs : List Nat) (t : D → Env → Option Env) (tt : Env → Option Bool) (te : Env → Option D) : Env → Option D := fun env => (fi env).bind fun ds => (compL t tt te (wipeE env vs) ds).map .list
def fYes : Env → Option Bool := fun _ => some true
section
variable {X : Cx}
theorem ts_nil : PTs X [] (tT X.K fYes) := ⟨fun pins s σ H Q I h => pts_nil.run pins s σ H Q I (tT_pure h)⟩
theorem ts_one {c : Expr} {f : Env → Option Bool} (h : PT X c (tT X.K f)) : PTs X [c] (tT X.K f) := pts_one h
theorem lc_to {fi : Env → Option (List D)} {vs : List Nat} {t : D → Env → Option Env} {tt : Env → Option Bool} {te : Env → Option D} {σ : L2.St} {H : Hp} {Q : VK} (h : tF X.K (fLc fi vs t tt te) σ H Q) :
    tLc (tIh X.K fi) (gD X.K vs t) (tT X.K tt) (tD X.K te) vs σ H Q := by
  obtain ⟨H0, G0, G, env, d, r, ef, q⟩ := h
  unfold fLc at ef
  cases e1 : fi env with
  | none => rw [e1] at ef; cases ef
  | some ds =>
    rw [e1, Option.bind_some] at ef
    cases e2 : compL t tt te (wipeE env vs) ds with
    | none => rw [e2] at ef; cases ef
    | some out =>
      rw [e2] at ef
      cases ef
      refine ⟨H0, G0, G, env, ds, r, e1, fun J H1 G1 x1 w => fun D nD => ?_⟩
      have r1 := (r.next x1).wipe vs
      -- the invariant: the first i have been taken; what is to come makes the rest of out
      refine ⟨fun i m H' => m = ds.length - i ∧ i ≤ ds.length ∧ ∃ (G' : Hp) (Hb : Hp) (acc : List V) (done todo : List PyData), Ex H1 G1 Hb G' ∧ Hb D = none ∧ H' = upd Hb D (.lst acc) ∧ DvAll X.K G' done acc ∧ done ++ todo = out ∧ compL t tt te (wipeE env vs) (ds.drop i) = some todo ∧ acc.length ≤ i,
        ⟨ds.length, by simp, Nat.zero_le _, G1, H1, [], [], out, .refl x1.sub, nD, rfl, .nil, rfl, e2, Nat.le_refl _⟩, ?_⟩
      rintro i m H' ⟨rfl, hi, G', Hb, acc, done, todo, xb, nb, rfl, hacc, hout, hc, hlen⟩
      -- the heap with the new list, the ghost heap without
      have xo : Ex Hb G' (upd Hb D (.lst acc)) G' := .out xb.sub nb
      have xw := xb.trans xo
      have A := w.at_ _ _ xw
      by_cases hlt : i < ds.length
      · refine .inr ⟨A.go i hlt, fun H2 => i + 1 ≤ ds.length ∧ ∃ (G' : Hp) (Hb : Hp) (acc : List V) (done todo : List PyData), Ex H1 G1 Hb G' ∧ Hb D = none ∧ H2 = upd Hb D (.lst acc) ∧ DvAll X.K G' done acc ∧ done ++ todo = out ∧ compL t tt te (wipeE env vs) (ds.drop (i + 1)) = some todo ∧ acc.length ≤ i + 1,
          fun H2 h2 => ⟨ds.length - (i + 1), by omega, rfl, h2⟩, fun x H2 hy => ?_⟩
        obtain ⟨dx, G2, k1, x2, hx⟩ := A.yld i x H2 hlt hy
        rw [List.drop_eq_getElem_cons hlt] at hc
        have ed : ds[i] = dx := by rw [List.getElem?_eq_getElem hlt] at k1; exact Option.some.inj k1
        rw [ed] at hc
        have hc' : (t dx (wipeE env vs)).bind (fun env1 => (tt env1).bind fun b => if b = true then (te env1).bind fun y => (compL t tt te (wipeE env vs) (ds.drop (i + 1))).bind fun r => some (y :: r) else compL t tt te (wipeE env vs) (ds.drop (i + 1))) = some todo := hc
        cases e3 : t dx (wipeE env vs) with
        | none => rw [e3] at hc'; cases hc'
        | some env1 =>
          rw [e3, Option.bind_some] at hc'
          cases e4 : tt env1 with
          | none => rw [e4] at hc'; cases hc'
          | some b =>
            rw [e4, Option.bind_some] at hc'
            -- a heap without D, from one that grew
            have strip : ∀ {Hn Gn : Hp}, Ex (upd Hb D (.lst acc)) G' Hn Gn → ∃ Hm, Ex H1 G1 Hm Gn ∧ Hm D = none ∧ Hn = upd Hm D (.lst acc) := fun {Hn Gn} xn => by
              have hD : Hn D = some (.lst acc) := xn.same _ _ upd_same
              have gD' : Gn D = none := by rw [xn.old D (by rw [upd_same]; exact nofun)]; exact xb.sub.free nb
              refine ⟨fun b => if b = D then none else Hn b, ⟨fun b o e => ?_, xb.gr.trans xn.gr, fun b o e => ?_, fun b hb => ?_⟩, if_pos rfl, ?_⟩
              · have nbD : b ≠ D := fun z => by subst z; rw [nD] at e; cases e
                show (if b = D then none else Hn b) = some o
                rw [if_neg nbD]
                exact xn.same b o (by rw [upd_ne nbD]; exact xb.same b o e)
              · have nbD : b ≠ D := fun z => by subst z; rw [gD'] at e; cases e
                show (if b = D then none else Hn b) = _
                rw [if_neg nbD]; exact xn.sub b o e
              · rw [xn.old b, xb.old b hb]
                have nbD : b ≠ D := fun z => by subst z; exact hb nD
                rw [upd_ne nbD]
                cases z : H1 b with
                | none => exact absurd z hb
                | some o => rw [xb.same b o z]; exact nofun
              · funext b
                unfold upd
                by_cases nbD : b = D
                · subst nbD; rw [if_pos rfl, hD]
                · rw [if_neg nbD]; exact (if_neg nbD).symm
            refine ⟨H0, G0, G2, wipeE env vs, dx, env1, (r1.next xw).next x2, hx, e3, fun σ3 H3 G3 r3 x3 w3 => ?_⟩
            refine ⟨w3.trans (by rw [wipe_wipe]), H0, G0, G3, env1, b, r3, e4, fun H4 G4 x4 => ?_⟩
            cases b with
            | false =>
              obtain ⟨Hm, y1, y2, y3⟩ := strip (x2.trans (x3.trans x4))
              exact iteF ⟨hlt, G4, Hm, acc, done, todo, y1, y2, y3, hacc.mono ((x2.trans (x3.trans x4)).gr), hout, hc', by omega⟩
            | true =>
              have hc2 : (te env1).bind (fun y => (compL t tt te (wipeE env vs) (ds.drop (i + 1))).bind fun r => some (y :: r)) = some todo := hc'
              cases e5 : te env1 with
              | none => rw [e5] at hc2; cases hc2
              | some y =>
                rw [e5, Option.bind_some] at hc2
                cases e6 : compL t tt te (wipeE env vs) (ds.drop (i + 1)) with
                | none => rw [e6] at hc2; cases hc2
                | some rest =>
                  rw [e6] at hc2
                  cases hc2
                  refine iteT ⟨H0, G0, G4, env1, y, r3.next x4, e5, fun v H5 G5 x5 hv => ?_⟩
                  obtain ⟨Hm, y1, y2, y3⟩ := strip (x2.trans (x3.trans (x4.trans x5)))
                  refine ⟨acc, by rw [y3, upd_same], ?_, hlt, G5, Hm, acc ++ [v], done ++ [y], rest, y1, y2, by rw [y3, upd_upd], ?_, by rw [← hout, List.append_assoc]; rfl, rfl, by rw [List.length_append]; exact Nat.succ_le_succ hlen⟩
                  · exact Nat.lt_of_lt_of_le (Nat.lt_of_le_of_lt hlen hlt) w.len
                  · exact (hacc.mono ((x2.trans (x3.trans (x4.trans x5))).gr)).append (.cons hv .nil)
      · have e : i = ds.length := by omega
        subst e
        rw [List.drop_length] at hc
        have : todo = [] := by
          have hc' : some [] = some todo := hc
          exact (Option.some.inj hc').symm
        subst this
        rw [List.append_nil] at hout
        subst hout
        refine .inl ⟨A.stop, q D _ G' (x1.trans xw) ?_ (xb.sub.free nb) ⟨acc, upd_same, Nat.le_trans hlen w.len, hacc⟩⟩
        exact x1.same.free nD
theorem f_lc {elt tg iter : Expr} {ifs : List Expr} {scope : Scope} {own : List (Str × Nat)} {pos : Pos} {fi : Env → Option (List D)} {t : D → Env → Option Env} {tt : Env → Option Bool} {te : Env → Option D} (hc : X.calm = true) (hN : X.N.Nodup) (hi : PI X tg iter (tIh X.K fi)) (ok : BlkOk X.N X.env.scope scope own)
    (hg : ∀ (s : Shared) (H : Hp) (C : Addr) (cl : List (Str × Addr)) (fp : List Addr), PG (X.blk s H scope (compEnvC scope cl C X.env) fp) tg (gD X.K (own.map (·.2)) t)) (ht : ∀ (s : Shared) (H : Hp) (C : Addr) (cl : List (Str × Addr)) (fp : List Addr), PTs (X.blk s H scope (compEnvC scope cl C X.env) fp) ifs (tT X.K tt))
    (he : ∀ (s : Shared) (H : Hp) (C : Addr) (cl : List (Str × Addr)) (fp : List Addr), PE (X.blk s H scope (compEnvC scope cl C X.env) fp) elt (tD X.K te)) (hs : ∀ x, foldedSetIterable iter X.env x = pure x := by intro _; rfl) :
    PE X (.ListComp elt [⟨tg, iter, ifs, 0⟩] scope pos) (tF X.K (fLc fi (own.map (·.2)) t tt te)) :=
  PE.to (pe_lc hc hN hi ok hg ht he hs) fun σ H Q h => lc_to h
end
end PD

/-! THE DATA LAYER 5: statements, defs. -/
namespace PD
open PySem PySem.Spec PyProof.Rows L2

inductive Res where
  | next (env : Env) | brk (env : Env) | cont (env : Env) | ret (d : D)
def Post (K : PySem.W.Frag) (H0 : Bs) (G0 G : Hp) (C : Ends) : Res → Prop
  | .next env => ∀ σ' H' G', Rel K H0 G0 σ' H' G' env → Gr G G' → C.nx σ' H'
  | .brk env => ∀ σ' H' G', Rel K H0 G0 σ' H' G' env → Gr G G' → C.bk σ' H'
  | .cont env => ∀ σ' H' G', Rel K H0 G0 σ' H' G' env → Gr G G' → C.ct σ' H'
  | .ret d => ∀ v H' G', ExB H0 G0 H' G' → Dv K G' d v → C.rt v H'
/-- a statement that does g -/
def sD (K : PySem.W.Frag) (g : Env → Option Res) : TS := fun C σ H => ∃ H0 G0 G env r, Rel K H0 G0 σ H G env ∧ g env = some r ∧ Post K H0 G0 G C r

theorem Post.gr {K : PySem.W.Frag} {H0 : Bs} {G0 G G' : Hp} {C : Ends} (g : Gr G G') : ∀ {r : Res}, Post K H0 G0 G C r → Post K H0 G0 G' C r
  | .next _, h => fun σ H G2 r g2 => h σ H G2 r (g.trans g2)
  | .brk _, h => fun σ H G2 r g2 => h σ H G2 r (g.trans g2)
  | .cont _, h => fun σ H G2 r g2 => h σ H G2 r (g.trans g2)
  | .ret _, h => h
/-! ### blocks -/
def qNil : Env → Option Res := fun env => some (.next env)
def qSeq (g h : Env → Option Res) : Env → Option Res := fun env => (g env).bind fun r => match r with
  | .next env' => h env'
  | r => some r
def qIf (c : Env → Option Bool) (g h : Env → Option Res) : Env → Option Res := fun env => (c env).bind fun b => if b = true then g env else h env
def qSet (i : Nat) (f : Env → Option D) : Env → Option Res := fun env => (f env).map fun d => .next (env.set i (.dat d))
def qOwn (i : Nat) (f : Env → Option D) : Env → Option Res := fun env => if i < env.length then (f env).map fun d => .next (env.set i (.own d)) else none
def qRet (f : Env → Option D) : Env → Option Res := fun env => (f env).map .ret
def qBrk : Env → Option Res := fun env => some (.brk env)
def qCont : Env → Option Res := fun env => some (.cont env)
def qDrop (f : Env → Option D) : Env → Option Res := fun env => (f env).map fun _ => .next env
def qAsg (f : Env → Option D) (t : D → Env → Option Env) : Env → Option Res := fun env => (f env).bind fun d => (t d env).map .next
/-- y = x of an own x: from here on both are frozen -/
def qAlias (i j : Nat) : Env → Option Res := fun env => match env[j]? with
  | some (.own d) => some (.next ((env.set j (.dat d)).set i (.dat d)))
  | _ => none
def qRetOwn (j : Nat) : Env → Option Res := fun env => match env[j]? with
  | some (.own d) => some (.ret d)
  | _ => none
/-- one turn after the other -/
def loopS (t : D → Env → Option Env) (body : Env → Option Res) : List D → Env → Option Res
  | [], env => some (.next env)
  | d :: ds, env => (t d env).bind fun env1 => (body env1).bind fun r => match r with
    | .next env2 => loopS t body ds env2
    | .cont env2 => loopS t body ds env2
    | .brk env2 => some (.next env2)
    | .ret d => some (.ret d)
def qFor (fi : Env → Option (List D)) (t : D → Env → Option Env) (body : Env → Option Res) : Env → Option Res := fun env => (fi env).bind fun ds => loopS t body ds env
def whileS (c : Env → Option Bool) (body : Env → Option Res) : Nat → Env → Option Res
  | 0, _ => none
  | n + 1, env => (c env).bind fun b => if b = true then (body env).bind fun r => match r with
      | .next env2 => whileS c body n env2
      | .cont env2 => whileS c body n env2
      | .brk env2 => some (.next env2)
      | .ret d => some (.ret d)
    else some (.next env)

section
variable {K : PySem.W.Frag} {H0 : Bs} {G0 H G : Hp} {σ : L2.St} {env : Env}
theorem ExM.lock {F : Addr → Prop} {H G H' G' : Hp} {a : Addr} {u : HO} {o : Obj} (x : ExM F H G H' G') (n : H a = none) (g : G' a = none) : ExM F H G (upd H' a (.frz o u)) (upd G' a (.frz o u)) ∧ Gr G' (upd G' a (.frz o u)) := by
  refine ⟨⟨fun b w hb nf => ?_, fun b hb => ?_, fun b w hb => ?_, fun b w hb => ?_, fun b hb nf => ?_⟩, fun b w hb => ?_⟩
  · rw [upd_ne (fun e => by subst e; rw [n] at hb; cases hb)]; exact x.same b w hb nf
  · unfold upd; split; exact nofun; exact x.live b hb
  · have hb' := x.gr b w hb
    rw [upd_ne (fun e => by subst e; rw [g] at hb'; cases hb')]; exact hb'
  · by_cases e : b = a
    · subst e; rw [upd_same] at hb; cases hb; exact upd_same
    · rw [upd_ne e] at hb ⊢; exact x.sub b w hb
  · rw [upd_ne (fun e => by subst e; exact hb n)]; exact x.old b hb nf
  · rw [upd_ne (fun e => by subst e; rw [g] at hb; cases hb)]; exact hb
/-- an own object is frozen -/
theorem Rel.freeze (r : Rel K H0 G0 σ H G env) {j : Nat} {d : D} (h : env[j]? = some (.own d)) : ∃ a u, σ[j]? = some (some (.ref a)) ∧ H a = some u ∧ Mut (some u) ∧ ∀ o, ∃ G', Dv K G' d (.ref a) ∧ ExB H0 G0 (upd H a (.frz o u)) G' ∧ Gr G G' ∧ Rel K H0 G0 σ (upd H a (.frz o u)) G' (env.set j (.dat d)) := by
  obtain ⟨W, r⟩ := r
  obtain ⟨a, e1, hw, h0, ow⟩ := r.own h
  obtain ⟨u, hu, mu, hd⟩ := own_lock ow
  have ga := (r.foot (i := j) (a := a) (by rw [hw]; simp)).1
  refine ⟨a, u, e1, hu, mu, fun o => ?_⟩
  obtain ⟨x, gr⟩ := r.ex.lock (o := o) (u := u) h0 ga
  have hv := hd o _ gr upd_same
  have y : ExM (· = a) H G (upd H a (.frz o u)) (upd G a (.frz o u)) := ⟨fun b w hb nf => by rw [upd_ne nf]; exact hb, fun b hb => by unfold upd; split; exact nofun; exact hb, gr, x.sub, fun b _ nf => upd_ne nf⟩
  have r1 := (r.drop j).heap y (fun b e => .inl (by rw [e]; exact h0)) (fun i b hb e => by
      subst e
      by_cases hi : i = j
      · subst hi; rw [wSet_same] at hb; cases hb
      · rw [wSet_ne hi] at hb; exact hi (r.dis hb (by rw [hw]; simp))) (fun b w hb no e => by
      subst e
      obtain ⟨u', e1, e2⟩ := ow.ord
      rw [e1] at hb; cases hb
      exact no e2)
  have r2 := r1.put (i := j) (s := .dat d) (v := some (.ref a)) (F := []) (fun d' e' => by cases e'; exact ⟨_, rfl, hv⟩) nofun nofun nofun nofun
  rw [set_back e1, List.set_set] at r2
  exact ⟨_, hv, x, gr, _, r2⟩
end

section
variable {X : Cx} {st : Stmt} {rest : List Stmt} {g h : Env → Option Res} {e : Expr} {f : Env → Option D} {pos : Pos}
theorem ss_nil : PSs X [] (sD X.K qNil) := PSs.to pss_nil fun C σ H ⟨H0, G0, G, env, r, rl, e, p⟩ => by
  cases e
  exact p σ H G rl (.refl G)
theorem seq_to {K : PySem.W.Frag} {g h : Env → Option Res} {C : Ends} {σ : L2.St} {H : Hp} (q : sD K (qSeq g h) C σ H) : tSeq (sD K g) (sD K h) C σ H := by
  obtain ⟨H0, G0, G, env, r, rl, e, p⟩ := q
  unfold qSeq at e
  cases e1 : g env with
  | none => rw [e1] at e; cases e
  | some r1 =>
    rw [e1, Option.bind_some] at e
    refine ⟨H0, G0, G, env, r1, rl, e1, ?_⟩
    cases r1 with
    | next env' => exact fun σ' H' G' rl' g => ⟨H0, G0, G', env', r, rl', e, p.gr g⟩
    | brk _ => cases e; exact p
    | cont _ => cases e; exact p
    | ret _ => cases e; exact p
theorem ss_cons (h1 : PS X st (sD X.K g)) (h2 : PSs X rest (sD X.K h)) : PSs X (st :: rest) (sD X.K (qSeq g h)) := PSs.to (pss_cons h1 h2) fun _ _ _ => seq_to
theorem ss_one (h1 : PS X st (sD X.K g)) : PSs X [st] (sD X.K g) := pss_one h1
theorem s_if {c : Expr} {a b : List Stmt} {p : Env → Option Bool} (hc : PT X c (tT X.K p)) (ha : PSs X a (sD X.K g)) (hb : PSs X b (sD X.K h)) : PS X (.If c a b pos) (sD X.K (qIf p g h)) :=
  PS.to (ps_if hc ha hb) fun C σ H ⟨H0, G0, G, env, r, rl, e, q⟩ => by
    unfold qIf at e
    cases e1 : p env with
    | none => rw [e1] at e; cases e
    | some b =>
      rw [e1, Option.bind_some] at e
      refine ⟨H0, G0, G, env, b, rl, e1, fun H' G' x => ?_⟩
      cases b with
      | true => exact iteT ⟨H0, G0, G', env, r, rl.next x, e, q.gr x.gr⟩
      | false => exact iteF ⟨H0, G0, G', env, r, rl.next x, e, q.gr x.gr⟩
theorem set_to {K : PySem.W.Frag} {i : Nat} {C : Ends} {σ : L2.St} {H : Hp} (q : sD K (qSet i f) C σ H) : tAsg (tD K f) (gName i) C σ H := by
  obtain ⟨H0, G0, G, env, r, rl, e, p⟩ := q
  unfold qSet at e
  cases e1 : f env with
  | none => rw [e1] at e; cases e
  | some d =>
    rw [e1] at e
    cases e
    exact ⟨H0, G0, G, env, d, rl, e1, fun v H' G' x hv => p _ H' G' ((rl.next x).set hv) x.gr⟩
theorem own_to {K : PySem.W.Frag} {i : Nat} {C : Ends} {σ : L2.St} {H : Hp} (q : sD K (qOwn i f) C σ H) : tAsg (tF K f) (gName i) C σ H := by
  obtain ⟨H0, G0, G, env, r, rl, e, p⟩ := q
  unfold qOwn at e
  split at e
  · cases e1 : f env with
    | none => rw [e1] at e; cases e
    | some d =>
      rw [e1] at e
      cases e
      exact ⟨H0, G0, G, env, d, rl, e1, fun a H' G' x hn hg ow => p _ H' G' (rl.setOwn x hn hg ow) x.gr⟩
  · cases e
theorem s_set {i : Nat} {x : Str} {pos' : Pos} (hN : X.N.Nodup) (hi : X.N[i]? = some x) (hx : Loc X.env.scope x) (he : PE X e (tD X.K f)) (hs : swapsWith e (some (.Name x pos')) pos.line X.env = pure false := by rfl) (hf : X.fn x = true ∨ X.env.scope.names.lookup x = some .local := by first | exact .inl rfl | exact .inr rfl | assumption) :
    PS X (.Assign [.Name x pos'] e pos) (sD X.K (qSet i f)) := PS.to (ps_set hN hi hx he hs hf) fun _ _ _ => set_to
theorem s_own {i : Nat} {x : Str} {pos' : Pos} (hN : X.N.Nodup) (hi : X.N[i]? = some x) (hx : Loc X.env.scope x) (he : PE X e (tF X.K f)) (hs : swapsWith e (some (.Name x pos')) pos.line X.env = pure false := by rfl) (hf : X.fn x = true ∨ X.env.scope.names.lookup x = some .local := by first | exact .inl rfl | exact .inr rfl | assumption) :
    PS X (.Assign [.Name x pos'] e pos) (sD X.K (qOwn i f)) := PS.to (ps_set hN hi hx he hs hf) fun _ _ _ => own_to
/-- target = value, any target -/
theorem s_asg {tg : Expr} {vs : List Nat} {t : D → Env → Option Env} (he : PE X e (tD X.K f)) (hg : PG X tg (gD X.K vs t)) (hs : swapsWithSole [tg] e pos.line X.env = pure false := by rfl) (hw : swappedStores [tg] e X.env = pure none := by rfl)
    (h1 : (assignEach [tg] X.env).map (·.2) = [assign tg X.env] := by rfl) : PS X (.Assign [tg] e pos) (sD X.K (qAsg f t)) :=
  PS.to (ps_asg he hg hs hw h1) fun C σ H ⟨H0, G0, G, env, r, rl, ee, p⟩ => by
    unfold qAsg at ee
    cases e1 : f env with
    | none => rw [e1] at ee; cases ee
    | some d =>
      rw [e1, Option.bind_some] at ee
      cases e2 : t d env with
      | none => rw [e2] at ee; cases ee
      | some env' =>
        rw [e2] at ee
        cases ee
        exact ⟨H0, G0, G, env, d, rl, e1, fun v H' G' x hv => ⟨H0, G0, G', env, d, env', rl.next x, hv, e2, fun σ2 H2 G2 rl2 x2 _ => p σ2 H2 G2 rl2 (x.gr.trans x2.gr)⟩⟩
/-- a, b = x, y of plain local names -/
def qPar (i j : Nat) (f g : Env → Option D) : Env → Option Res := fun env => (f env).bind fun a => (g env).bind fun b => some (.next ((env.set i (.dat a)).set j (.dat b)))
theorem s_par {i j : Nat} {x y : Str} {a b : Expr} {fa fb : Env → Option D} {px py pt : Pos} {kt k2 pt2} (hc : X.calm = true) (hN : X.N.Nodup) (hi : X.N[i]? = some x) (hj : X.N[j]? = some y) (hij : i ≠ j)
    (hx : X.env.scope.names.lookup x = some .local) (hy : X.env.scope.names.lookup y = some .local) (ha : PE X a (tD X.K fa)) (hb : PE X b (tD X.K fb)) (hsb : starEach [b] X.env = (false, eval b X.env) :: starEach [] X.env := by rfl) (hsa : starEach [a, b] X.env = (false, eval a X.env) :: starEach [b] X.env := by rfl)
    (hw : swappedStores [.Tuple [.Name x px, .Name y py] kt pt] (.Tuple [a, b] k2 pt2) X.env = pure (some [x, y]) := by rfl)
    (hs : swapsWithSole [.Tuple [.Name x px, .Name y py] kt pt] (.Tuple [a, b] k2 pt2) pos.line X.env = pure false := by rfl) :
    PS X (.Assign [.Tuple [.Name x px, .Name y py] kt pt] (.Tuple [a, b] k2 pt2) pos) (sD X.K (qPar i j fa fb)) :=
  PS.to (ps_par hc hN hi hj hij hx hy (a_cons ha (a_cons hb a_nil hsb) hsa) hw hs) fun C σ H ⟨H0, G0, G, env, r, rl, ee, p⟩ => by
    unfold qPar at ee
    cases e1 : fa env with
    | none => rw [e1] at ee; cases ee
    | some da =>
      cases e2 : fb env with
      | none => rw [e1, e2] at ee; cases ee
      | some db =>
        rw [e1, e2] at ee
        cases ee
        refine ⟨H0, G0, G, env, [da, db], rl, by simp only [fCons, fNil, e1, e2, Option.bind_some], fun vs H' G' x hv => ?_⟩
        obtain ⟨v, r', rfl, hv1, hv2⟩ := hv.inv
        obtain ⟨v2, r2, rfl, hv3, hv4⟩ := hv2.inv
        have := hv4.inv_nil
        subst this
        exact ⟨v, v2, rfl, p _ H' G' (((rl.next x).set hv1).set hv3) x.gr⟩
theorem s_ret (he : PE X e (tD X.K f)) : PS X (.Return (some e) pos) (sD X.K (qRet f)) := PS.to (ps_ret he) fun C σ H ⟨H0, G0, G, env, r, rl, ee, p⟩ => by
  unfold qRet at ee
  cases e1 : f env with
  | none => rw [e1] at ee; cases ee
  | some d =>
    rw [e1] at ee
    cases ee
    exact ⟨H0, G0, G, env, d, rl, e1, fun v H' G' x hv => p v H' G' (rl.ex.step x) hv⟩
theorem s_retOwn {j : Nat} (he : PE X e (tVar j)) : PS X (.Return (some e) pos) (sD X.K (qRetOwn j)) := PS.to (ps_ret (pe_frz he)) fun C σ H ⟨H0, G0, G, env, r, rl, ee, p⟩ => by
  unfold qRetOwn at ee
  split at ee
  · rename_i d hd
    cases ee
    obtain ⟨a, u, e1, hu, mu, fz⟩ := rl.freeze hd
    refine ⟨_, e1, a, u, rfl, hu, mu, fun o => ?_⟩
    obtain ⟨G', hv, x, _, _⟩ := fz o
    exact p _ _ G' x hv
  · cases ee
theorem s_alias {i j : Nat} {x : Str} {pos' : Pos} (hN : X.N.Nodup) (hi : X.N[i]? = some x) (hx : Loc X.env.scope x) (he : PE X e (tVar j)) (hs : swapsWith e (some (.Name x pos')) pos.line X.env = pure false := by rfl) (hf : X.fn x = true ∨ X.env.scope.names.lookup x = some .local := by first | exact .inl rfl | exact .inr rfl | assumption) :
    PS X (.Assign [.Name x pos'] e pos) (sD X.K (qAlias i j)) := PS.to (ps_set hN hi hx (pe_frz he) hs hf) fun C σ H ⟨H0, G0, G, env, r, rl, ee, p⟩ => by
  unfold qAlias at ee
  split at ee
  · rename_i d hd
    cases ee
    obtain ⟨a, u, e1, hu, mu, fz⟩ := rl.freeze hd
    refine ⟨_, e1, a, u, rfl, hu, mu, fun o => ?_⟩
    obtain ⟨G', hv, x, gr, rl'⟩ := fz o
    exact p _ _ G' (rl'.set hv) gr
  · cases ee
theorem s_brk : PS X (.Break pos) (sD X.K qBrk) := PS.to ps_break fun C σ H ⟨H0, G0, G, env, r, rl, ee, p⟩ => by
  cases ee
  exact p σ H G rl (.refl G)
theorem s_cont : PS X (.Continue pos) (sD X.K qCont) := PS.to ps_continue fun C σ H ⟨H0, G0, G, env, r, rl, ee, p⟩ => by
  cases ee
  exact p σ H G rl (.refl G)
theorem s_expr (he : PE X e (tD X.K f)) (hs : swapsWith e none pos.line X.env = pure false := by rfl) : PS X (.Expr e pos) (sD X.K (qDrop f)) := PS.to (ps_expr he hs) fun C σ H ⟨H0, G0, G, env, r, rl, ee, p⟩ => by
  unfold qDrop at ee
  cases e1 : f env with
  | none => rw [e1] at ee; cases ee
  | some d =>
    rw [e1] at ee
    cases ee
    exact ⟨H0, G0, G, env, d, rl, e1, fun v H' G' x hv => p σ H' G' (rl.next x) x.gr⟩
/-! ### loops -/
theorem s_for {tg iter : Expr} {body : List Stmt} {fi : Env → Option (List D)} {vs : List Nat} {t : D → Env → Option Env} (hp : PassesOwn (model X.prog X.w) X.A X.env X.xe) (hc : X.calm = true) (hi : PI X tg iter (tI X.K fi)) (hg : PG X tg (gD X.K vs t)) (hb : PSs X body (sD X.K g))
    (hs : ∀ x, foldedSetIterable iter X.env x = pure x := by intro _; rfl) : PS X (.For tg iter body [] pos) (sD X.K (qFor fi t g)) :=
  PS.to (ps_for hp hc hi hg hb hs) fun C σ H ⟨H0, G0, G, env, r, rl, ee, p⟩ => by
    unfold qFor at ee
    cases e1 : fi env with
    | none => rw [e1] at ee; cases ee
    | some ds =>
      rw [e1, Option.bind_some] at ee
      refine ⟨H0, G0, G, env, ds, rl, e1, fun J H1 G1 x1 w => ?_⟩
      refine ⟨fun i m σ' H' => m = ds.length - i ∧ i ≤ ds.length ∧ ∃ (G' : Hp) (env' : Env), Gr G1 G' ∧ Rel X.K H0 G0 σ' H' G' env' ∧ loopS t g (ds.drop i) env' = some r, ⟨ds.length, by simp, Nat.zero_le _, G1, env, .refl _, rl.next x1, ee⟩, ?_⟩
      rintro i m σ' H' ⟨rfl, hi', G', env', gr, rl', hl⟩
      have A := w.at_ H' G' gr rl'.sub
      by_cases hlt : i < ds.length
      · rw [List.drop_eq_getElem_cons hlt] at hl
        refine .inr ⟨A.go i hlt, fun σ2 H2 => i + 1 ≤ ds.length ∧ ∃ (G' : Hp) (env' : Env), Gr G1 G' ∧ Rel X.K H0 G0 σ2 H2 G' env' ∧ loopS t g (ds.drop (i + 1)) env' = some r, fun σ2 H2 h2 => ⟨ds.length - (i + 1), by omega, rfl, h2⟩, fun x H2 hy => ?_⟩
        obtain ⟨dx, G2, k1, x2, hx⟩ := A.yld i x H2 hlt hy
        have ed : ds[i] = dx := by rw [List.getElem?_eq_getElem hlt] at k1; exact Option.some.inj k1
        rw [ed] at hl
        have hl' : (t dx env').bind (fun env1 => (g env1).bind fun r => match r with
            | .next env2 => loopS t g (ds.drop (i + 1)) env2
            | .cont env2 => loopS t g (ds.drop (i + 1)) env2
            | .brk env2 => some (.next env2)
            | .ret d => some (.ret d)) = some r := hl
        cases e2 : t dx env' with
        | none => rw [e2] at hl'; cases hl'
        | some env1 =>
          rw [e2, Option.bind_some] at hl'
          cases e3 : g env1 with
          | none => rw [e3] at hl'; cases hl'
          | some r1 =>
            rw [e3, Option.bind_some] at hl'
            refine ⟨H0, G0, G2, env', dx, env1, rl'.next x2, hx, e2, fun σ3 H3 G3 rl3 x3 _ => ?_⟩
            refine ⟨H0, G0, G3, env1, r1, rl3, e3, ?_⟩
            have gr3 : Gr G1 G3 := gr.trans (x2.gr.trans x3.gr)
            cases r1 with
            | next env2 => exact fun σ4 H4 G4 rl4 g4 => ⟨hlt, G4, env2, gr3.trans g4, rl4, hl'⟩
            | cont env2 => exact fun σ4 H4 G4 rl4 g4 => ⟨hlt, G4, env2, gr3.trans g4, rl4, hl'⟩
            | brk env2 => cases hl'; exact fun σ4 H4 G4 rl4 g4 => p σ4 H4 G4 rl4 ((x1.gr.trans gr3).trans g4)
            | ret d => cases hl'; exact p
      · have e : i = ds.length := by omega
        subst e
        rw [List.drop_length] at hl
        cases hl
        exact .inl ⟨A.stop, p σ' H' G' rl' (x1.gr.trans gr)⟩
theorem s_while {c : Expr} {body : List Stmt} {p : Env → Option Bool} (n : Nat) (hp : PassesOwn (model X.prog X.w) X.A X.env X.xe) (hc : PT X c (tT X.K p)) (hb : PSs X body (sD X.K g)) : PS X (.While c body [] pos) (sD X.K (whileS p g n)) :=
  PS.to (ps_while hp hc hb) fun C σ H ⟨H0, G0, G, env, r, rl, ee, q⟩ => by
    refine ⟨fun m σ' H' => ∃ (G' : Hp) (env' : Env), Gr G G' ∧ Rel X.K H0 G0 σ' H' G' env' ∧ whileS p g m env' = some r, ⟨n, G, env, .refl _, rl, ee⟩, ?_⟩
    rintro m σ' H' ⟨G', env', gr, rl', hl⟩
    cases m with
    | zero => cases hl
    | succ m =>
      have hl' : (p env').bind (fun b => if b = true then (g env').bind fun r => match r with
          | .next env2 => whileS p g m env2
          | .cont env2 => whileS p g m env2
          | .brk env2 => some (.next env2)
          | .ret d => some (.ret d)
        else some (.next env')) = some r := hl
      cases e1 : p env' with
      | none => rw [e1] at hl'; cases hl'
      | some b =>
        rw [e1, Option.bind_some] at hl'
        refine ⟨H0, G0, G', env', b, rl', e1, fun H2 G2 x2 => ?_⟩
        cases b with
        | false =>
          cases hl'
          exact iteF (q σ' H2 G2 (rl'.next x2) (gr.trans x2.gr))
        | true =>
          have hl2 : (g env').bind (fun r => match r with
            | .next env2 => whileS p g m env2
            | .cont env2 => whileS p g m env2
            | .brk env2 => some (.next env2)
            | .ret d => some (.ret d)) = some r := hl'
          cases e3 : g env' with
          | none => rw [e3] at hl2; cases hl2
          | some r1 =>
            rw [e3, Option.bind_some] at hl2
            refine iteT ⟨fun σ3 H3 => ∃ (G' : Hp) (env' : Env), Gr G G' ∧ Rel X.K H0 G0 σ3 H3 G' env' ∧ whileS p g m env' = some r, fun σ3 H3 h3 => ⟨m, Nat.lt_succ_self m, h3⟩, H0, G0, G2, env', r1, rl'.next x2, e3, ?_⟩
            have gr2 := gr.trans x2.gr
            cases r1 with
            | next env2 => exact fun σ4 H4 G4 rl4 g4 => ⟨G4, env2, gr2.trans g4, rl4, hl2⟩
            | cont env2 => exact fun σ4 H4 G4 rl4 g4 => ⟨G4, env2, gr2.trans g4, rl4, hl2⟩
            | brk env2 => cases hl2; exact fun σ4 H4 G4 rl4 g4 => q σ4 H4 G4 rl4 (gr2.trans g4)
            | ret d => cases hl2; exact q
end

/-! ### defs -/
/-- a def's promise: data in, the datum m of them out; nothing that stood changes -/
def spD (K : PySem.W.Frag) (n : Nat) (m : List D → Option D) : Sp := fun vs H Q _ => ∃ G ds d, Sub G H ∧ DvAll K G ds vs ∧ ds.length = n ∧ m ds = some d ∧ ∀ v H' G', Ex H G H' G' → Dv K G' d v → Q v H'
def startE (N : Nat) (ds : List D) : Env := ds.map Slot.dat ++ List.replicate (N - ds.length) .un
def bodyD (N : Nat) (g : Env → Option Res) (ds : List D) : Option D := (g (startE N ds)).bind fun r => match r with
  | .ret d => some d
  | .next _ => some .none
  | _ => none
theorem startE_get {N : Nat} {ds : List D} {i : Nat} {s : Slot} (h : (startE N ds)[i]? = some s) : (∃ d, ds[i]? = some d ∧ s = .dat d) ∨ s = .un := by
  unfold startE at h
  by_cases hi : i < ds.length
  · rw [List.getElem?_append_left (by simpa using hi), List.getElem?_map] at h
    cases q : ds[i]? with
    | none => rw [q] at h; cases h
    | some d => rw [q] at h; cases h; exact .inl ⟨d, rfl, rfl⟩
  · rw [List.getElem?_append_right (by simpa using hi), List.getElem?_replicate] at h
    split at h <;> cases h
    exact .inr rfl
theorem start_get {N : List Str} {vs : List V} {i : Nat} {v : V} (h : vs[i]? = some v) : (L2.start N vs)[i]? = some (some v) := by
  unfold L2.start
  obtain ⟨hi, _⟩ := List.getElem?_eq_some_iff.mp h
  rw [List.getElem?_append_left (by rw [List.length_map]; exact hi), List.getElem?_map, h] <;> rfl
theorem rel_start {K : PySem.W.Frag} {N : List Str} {ds : List D} {vs : List V} {H G : Hp} (hN : vs.length ≤ N.length) (sb : Sub G H) (h : DvAll K G ds vs) : Rel K (.of H) G (L2.start N vs) H G (startE N.length ds) := by
  have hl := h.length
  refine ⟨fun _ => [], ExM.refl sb, ?_, fun {i d} e => ?_, fun {i d} e => ?_, fun {i k t} e => ?_, nofun, nofun, nofun, nofun⟩
  · unfold L2.start startE
    simp only [List.length_append, List.length_map, List.length_replicate]
    omega
  · rcases startE_get e with ⟨d', q, e⟩ | e
    · cases e
      obtain ⟨v, e1, e2⟩ := h.get q
      exact ⟨v, start_get e1, e2⟩
    · cases e
  · rcases startE_get e with ⟨d', q, e⟩ | e <;> cases e
  · rcases startE_get e with ⟨d', q, e⟩ | e <;> cases e
section
variable {P : Program} {w : World} {K : PySem.W.Frag} {mg : Str → Option Value} {base : Heap}
theorem fn_d {x qual : Str} {params : Arguments} {body : List Stmt} {scope : Scope} {f : Addr} {fd : FuncData} {N ps : List Str} {k : Nat} {g : Env → Option Res} (F : FunD K x qual params body scope [] [] f fd) (S : FnScope N ps scope)
    (hbody : ∀ (cdv : Value) (A : Around) (outer : List PySem.Env) (s : Shared) (H : Hp) (E : XK), Room k (A.deeper (envOfC qual scope s.heap.objs.size f cdv)) →
      PSs (cxOf CX0 P w K mg base N qual scope f cdv A outer s H E).nox body (sD K g)) : FnOk P w K mg base CX0 (k + 1) f fd ps (spD K ps.length (bodyD N.length g)) := by
  refine F.ok S (fun vs H Q E h => ?_) (fun cdv A outer s H vs Q E hr h => ⟨sD K g, (hbody cdv A outer s H E hr).nox, ?_⟩)
  · obtain ⟨G, ds, d, _, h1, h2, _⟩ := h
    rw [h1.length, h2]
  · obtain ⟨G, ds, d, sb, hv, hl, e, q⟩ := h
    have hN : ps.length ≤ N.length := by
      have := congrArg List.length S.pre
      rw [List.length_take] at this
      omega
    have rl := rel_start (N := N) (by rw [hv.length, hl]; exact hN) sb hv
    unfold bodyD at e
    cases e1 : g (startE N.length ds) with
    | none => rw [e1] at e; cases e
    | some r =>
      rw [e1, Option.bind_some] at e
      refine ⟨.of H, G, G, startE N.length ds, r, rl, e1, ?_⟩
      cases r with
      | next env => cases e; exact fun σ' H' G' rl' _ => q .non H' G' rl'.ex.ofEx .none_
      | ret d' => cases e; exact fun v H' G' x hv => q v H' G' x.ofEx hv
      | _ => cases e
end

/-! ### calls of defs -/
def fCall (m : List D → Option D) (n : Nat) (f : Env → Option (List D)) : Env → Option D := fun env => (f env).bind fun ds => if ds.length = n then m ds else none
section
variable {X : Cx} {k : Nat} {f : Addr} {fd : FuncData} {ps : List Str} {x : Str} {p pos : Pos} {e : Expr} {es : List Expr} {fa : Env → Option (List D)} {m : List D → Option D} {n : Nat}
theorem e_call (F : FnOk X.prog X.w X.K X.mg X.base CX0 k f fd ps (spD X.K n m)) (hr : Room k X.A) (hg : Gl X x) (hm : X.mg x = some (.ref f)) (hk : PySem.W.keepIn X.K (.ref f) = true) (hb : Binds X.K fd ps [])
    (ha : PA X (e :: es) (tDs X.K fa)) (hdb : (x == ("__debug__" : Str)) = false := by decide) (he : starEach (e :: es) X.env = (false, eval e X.env) :: starEach es X.env := by rfl) (hpl : (backTo pos (starEach es X.env)).any (·.1) = false := by rfl) :
    PE X (.Call (.Name x p) (e :: es) [] pos) (tD X.K (fCall m n fa)) :=
  PE.to (pe_call F hr hg hm hk hb .nil pass0 ha hdb he hpl) fun σ H Q ⟨H0, G0, G, env, d, r, ef, q⟩ => by
    unfold fCall at ef
    cases e1 : fa env with
    | none => rw [e1] at ef; cases ef
    | some ds =>
      rw [e1, Option.bind_some] at ef
      split at ef
      · rename_i hl
        refine ⟨H0, G0, G, env, ds, r, e1, fun vs H' G' x hv => ⟨G', ds, d, x.sub, by rw [List.append_nil]; exact hv, hl, ef, fun v H2 G2 x2 hv2 => q v H2 G2 (x.trans x2) hv2⟩⟩
      · cases ef
end
end PD

/-! THE DATA LAYER 6: methods of lists, dicts of one's own. -/
namespace PD
open PySem PySem.Spec PyProof.Rows L2

theorem list_extendW (l : Addr) (items : Array Value) (n : Nat) (b : Addr) (items2 : Array Value) (n2 : Nat) (dd2 : Option Addr) (sl2 : Array (Option Value)) (hs0 : ¬(!items.isEmpty && Builtin.List.listTooLong (items.size + items2.size)) = true) (hs1 : items.size ≤ sizeLine) (hs2 : items.size + items2.size ≤ sizeLine + 1) :
    Meets (Builtin.«list.extend» ⟨[.ref l, .ref b], []⟩) (fun _ R s => s.heap.get? l = some { cls := .type "list", dict := none, data := .seq items n, slots := #[] } ∧ s.heap.get? b = some { cls := .type "list", dict := dd2, data := .seq items2 n2, slots := sl2 } ∧ R (.ok (.ret Value.none)) { s with heap := s.heap.update l (Obj.mapSeq fun x => x ++ items2), toks := s.toks }) :=
  .of_wp fun prog w A R s h => by
    obtain ⟨hp, g, d, tk, os⟩ := s; obtain ⟨hl, hb, h⟩ := h; have f1 := AutoSeq1.idx_int; have f2 := AutoSeq1.sub_tuple_tuple; have f3 := AutoSeq1.sub_list_list; have f4 := AutoSeq1.sub_tuple_list; have f5 := AutoSeq1.sub_list_tuple
    have hz' : (items ++ items2).size ≤ sizeLine + 1 := by rw [Array.size_append]; exact hs2
    wp_walk using (wpAny_updateSeq hl rfl (hz := hs1) (_hz' := hz')), AutoSeq1.wpAny_loadPart' hl, AutoSeq1.wpAny_loadPart' hb; exact ⟨_, rfl, h⟩
theorem list_extendWT (l : Addr) (items : Array Value) (n : Nat) (b : Addr) (items2 : Array Value) (n2 : Nat) (dd2 : Option Addr) (sl2 : Array (Option Value)) (hs0 : ¬(!items.isEmpty && Builtin.List.listTooLong (items.size + items2.size)) = true) (hs1 : items.size ≤ sizeLine) (hs2 : items.size + items2.size ≤ sizeLine + 1) :
    Meets (Builtin.«list.extend» ⟨[.ref l, .ref b], []⟩) (fun _ R s => s.heap.get? l = some { cls := .type "list", dict := none, data := .seq items n, slots := #[] } ∧ s.heap.get? b = some { cls := .type "tuple", dict := dd2, data := .seq items2 n2, slots := sl2 } ∧ R (.ok (.ret Value.none)) { s with heap := s.heap.update l (Obj.mapSeq fun x => x ++ items2), toks := s.toks }) :=
  .of_wp fun prog w A R s h => by
    obtain ⟨hp, g, d, tk, os⟩ := s; obtain ⟨hl, hb, h⟩ := h; have f1 := AutoSeq1.idx_int; have f2 := AutoSeq1.sub_tuple_tuple; have f3 := AutoSeq1.sub_list_list; have f4 := AutoSeq1.sub_tuple_list; have f5 := AutoSeq1.sub_list_tuple
    have hz' : (items ++ items2).size ≤ sizeLine + 1 := by rw [Array.size_append]; exact hs2
    wp_walk using (wpAny_updateSeq hl rfl (hz := hs1) (_hz' := hz')), AutoSeq1.wpAny_loadPart' hl, AutoSeq1.wpAny_loadPart' hb; exact ⟨_, rfl, h⟩
/-- the datum's items -/
def seqD : D → Option (List D)
  | .list xs => some xs
  | .tuple xs => some xs
  | _ => none
section
variable {X : Cx}
/-- l.extend(y), y a list or a tuple -/
def rExtD (K : PySem.W.Frag) : V → List V → Hp → VK → Prop := fun x vs H Q => ∃ l b xs zs, x = .ref l ∧ vs = [.ref b] ∧ H l = some (.lst xs) ∧ (SqL K H b zs ∨ SqT K H b zs) ∧ xs.length + zs.length ≤ sizeLine ∧ Q .non (upd H l (.lst (xs ++ zs)))
theorem mt_extD : MtM X "list.extend" (rExtD X.K) := by
  intro pins s σ H x vs v us Q I rx rv h
  obtain ⟨l, b, xs, zs, rfl, rfl, hH, hB, hz, q⟩ := h
  cases rx
  obtain ⟨u, rfl, ru⟩ := rv.one
  cases ru
  obtain ⟨z, its, n, r, hl, e⟩ := I.lstM hH
  have go : ∀ its2 : List Value, Vals zs its2 → (its.toArray.size + its2.toArray.size ≤ sizeLine) ∧ ¬ (!its.toArray.isEmpty && Builtin.List.listTooLong (its.toArray.size + its2.toArray.size)) = true := fun its2 r2 => by
    have hl2 := r2.length
    have hsz : its.toArray.size + its2.toArray.size ≤ sizeLine := by rw [List.size_toArray, List.size_toArray]; omega
    refine ⟨hsz, ?_⟩
    rw [notLongL hsz, Bool.and_false]
    exact Bool.false_ne_true
  have fin : ∀ its2 : List Value, Vals zs its2 → EP X pins σ Q Value.none { s with heap := s.heap.update l (Obj.mapSeq fun x => x ++ its2.toArray), toks := s.toks } := fun its2 r2 =>
    ⟨.non, _, I.lset (its' := its ++ its2) (t' := s.toks) hH e (by simp) (r.append r2) (by rw [List.length_append]; omega), rfl, q⟩
  rcases hB with hB | hB
  · obtain ⟨its2, r2, ⟨⟨cls, dd, data, sl⟩, n2, ho, hc, hdn, hd⟩, _⟩ := I.list hB
    simp only at hc hd
    subst hc hd
    obtain ⟨hsz, hlong⟩ := go its2 r2
    exact call_meets PySem.F.slot_list_extend ⟨_, e, rfl⟩ PySem.F.entry_list_extend (PySem.F.args_list_extend_2 _ _)
      (list_extendW l its.toArray n b its2.toArray n2 dd sl hlong (by rw [List.size_toArray]; omega) (by omega)) ⟨e, ho, fin its2 r2⟩
  · obtain ⟨its2, r2, ⟨⟨cls, dd, data, sl⟩, ho, hc, n2, hd⟩, _⟩ := I.tuple hB
    simp only at hc hd
    subst hc hd
    obtain ⟨hsz, hlong⟩ := go its2 r2
    exact call_meets PySem.F.slot_list_extend ⟨_, e, rfl⟩ PySem.F.entry_list_extend (PySem.F.args_list_extend_2 _ _)
      (list_extendWT l its.toArray n b its2.toArray n2 dd sl hlong (by rw [List.size_toArray]; omega) (by omega)) ⟨e, ho, fin its2 r2⟩
end

/-! ### the statements -/
def qApp (i : Nat) (f : Env → Option D) : Env → Option Res := fun env => match env[i]? with
  | some (.own (.list ds)) => (f env).bind fun d => if ds.length < sizeLine then some (.next (env.set i (.own (.list (ds ++ [d]))))) else none
  | _ => none
def qExt (i : Nat) (f : Env → Option D) : Env → Option Res := fun env => match env[i]? with
  | some (.own (.list ds)) => (f env).bind fun d => (seqD d).bind fun es => if ds.length + es.length ≤ sizeLine then some (.next (env.set i (.own (.list (ds ++ es))))) else none
  | _ => none
/-- x = l.pop() -/
def qPop (i j : Nat) : Env → Option Res := fun env => match env[j]? with
  | some (.own (.list ds)) => (ds[ds.length - 1]?).bind fun d => some (.next ((env.set j (.own (.list ds.dropLast))).set i (.dat d)))
  | _ => none
/-- d[k] = v -/
def qPut (i : Nat) (fk fv : Env → Option D) : Env → Option Res := fun env => match env[i]? with
  | some (.own (.dict kvs)) => (fv env).bind fun d => (fk env).bind fun k => (toKey k).bind fun key => if kvs.length < sizeLine then some (.next (env.set i (.own (.dict (putKV kvs key d))))) else none
  | _ => none
section
variable {X : Cx} {i : Nat} {e o : Expr} {f fk fv : Env → Option D} {apos cpos pos pos' : Pos}
theorem tyV_lst {K : PySem.W.Frag} {H : Hp} {a : Addr} {xs : List V} (h : SqL K H a xs) : tyV K "list" (.ref a) H := .inl ⟨rfl, _, h⟩
theorem s_app (ho : PE X o (tVar i)) (he : PE X e (tD X.K f)) (hbase : attributeBase o "append" X.env (eval o X.env) = eval o X.env := by rfl)
    (hfew : ((backTo cpos (starEach [e] X.env)).all (fun x => !x.1) && (backToKw cpos (keywordEach [] X.env)).all (fun x => x.1.isSome) && decide ([e].length + ([] : List Keyword).length + (if ([] : List Keyword).isEmpty then 0 else 1) < 30)) = true := by rfl)
    (hline : (apos.endLine == cpos.line) = true := by rfl) (hs : starEach [e] X.env = (false, eval e X.env) :: starEach [] X.env := by rfl) (hplain : (backTo cpos (starEach [] X.env)).any (·.1) = false := by rfl)
    (hsw : swapsWith (.Call (.Attribute o "append" apos) [e] [] cpos) none pos.line X.env = pure false := by rfl) : PS X (.Expr (.Call (.Attribute o "append" apos) [e] [] cpos) pos) (sD X.K (qApp i f)) :=
  PS.to (ps_expr (pe_bm PySem.F.plainAttrs_list PySem.F.slot_list_append PySem.F.type_list_append mt_append ho (a_cons he a_nil hs) hbase hfew hline hs hplain) hsw) fun C σ H ⟨H0, G0, G, env, r, rl, ee, p⟩ => by
    unfold qApp at ee
    split at ee
    · rename_i ds hd
      cases e1 : f env with
      | none => rw [e1] at ee; cases ee
      | some d =>
        rw [e1, Option.bind_some] at ee
        split at ee
        · rename_i hlt
          cases ee
          obtain ⟨a, k1, k2, k3, xs, k4, k5, k6⟩ := rl.own hd
          refine ⟨.ref a, k1, tyV_lst (.of k4), H0, G0, G, env, [d], rl, by simp only [fCons, fNil, e1, Option.bind_some], fun vs H' G' x hv => ?_⟩
          obtain ⟨v, r', rfl, hv1, hv2⟩ := hv.inv
          have := hv2.inv_nil
          subst this
          refine ⟨a, xs, v, rfl, rfl, x.same _ _ k4, by rw [k6.length]; exact hlt, ?_⟩
          have k6' := k6.mono x.gr
          exact p _ _ G' ((rl.next x).change hd k1 ⟨xs ++ [v], upd_same, by rw [List.length_append, k6.length]; exact hlt, k6'.append (.cons hv1 .nil)⟩) x.gr
        · cases ee
    · cases ee
theorem s_ext (ho : PE X o (tVar i)) (he : PE X e (tW X.K f)) (hbase : attributeBase o "extend" X.env (eval o X.env) = eval o X.env := by rfl)
    (hfew : ((backTo cpos (starEach [e] X.env)).all (fun x => !x.1) && (backToKw cpos (keywordEach [] X.env)).all (fun x => x.1.isSome) && decide ([e].length + ([] : List Keyword).length + (if ([] : List Keyword).isEmpty then 0 else 1) < 30)) = true := by rfl)
    (hline : (apos.endLine == cpos.line) = true := by rfl) (hs : starEach [e] X.env = (false, eval e X.env) :: starEach [] X.env := by rfl) (hplain : (backTo cpos (starEach [] X.env)).any (·.1) = false := by rfl)
    (hsw : swapsWith (.Call (.Attribute o "extend" apos) [e] [] cpos) none pos.line X.env = pure false := by rfl) : PS X (.Expr (.Call (.Attribute o "extend" apos) [e] [] cpos) pos) (sD X.K (qExt i f)) :=
  PS.to (ps_expr (pe_bm PySem.F.plainAttrs_list PySem.F.slot_list_extend PySem.F.type_list_extend mt_extD ho (a_one he hs) hbase hfew hline hs hplain) hsw) fun C σ H ⟨H0, G0, G, env, r, rl, ee, p⟩ => by
    unfold qExt at ee
    split at ee
    · rename_i ds hd
      cases e1 : f env with
      | none => rw [e1] at ee; cases ee
      | some d =>
        rw [e1, Option.bind_some] at ee
        cases e2 : seqD d with
        | none => rw [e2] at ee; cases ee
        | some es =>
          rw [e2, Option.bind_some] at ee
          split at ee
          · rename_i hlt
            cases ee
            obtain ⟨a, k1, k2, k3, xs, k4, k5, k6⟩ := rl.own hd
            refine ⟨.ref a, k1, tyV_lst (.of k4), H0, G0, G, env, d, rl, e1, fun v H' G' x hv => ?_⟩
            have k6' := k6.mono x.gr
            have fin : ∀ b ys, v = .ref b → (SqL X.K H' b ys ∨ SqT X.K H' b ys) → DvAll X.K G' es ys → rExtD X.K (.ref a) [v] H' fun _ H1 => C.nx σ H1 := fun b ys ev hs hd' => by
              subst ev
              refine ⟨a, b, xs, ys, rfl, rfl, x.same _ _ k4, hs, by rw [k6.length, hd'.length]; exact hlt, ?_⟩
              exact p _ _ G' ((rl.next x).change hd k1 ⟨xs ++ ys, upd_same, by rw [List.length_append, k6.length, hd'.length]; exact hlt, k6'.append hd'⟩) x.gr
            cases d with
            | list es' => cases e2; obtain ⟨b, ys, ev, h1, h2, h3⟩ := hv; exact fin b ys ev (.inl h1) h3
            | tuple es' => cases e2; obtain ⟨b, ys, ev, h1, h2, h3⟩ := hv.tup; exact fin b ys ev (.inr (x.sub.sqT h1)) h3
            | _ => cases e2
          · cases ee
    · cases ee
theorem DvAll.dropLast {K : PySem.W.Frag} {G : Hp} {ds : List D} {vs : List V} (h : DvAll K G ds vs) : DvAll K G ds.dropLast vs.dropLast := by
  rw [List.dropLast_eq_take, List.dropLast_eq_take, h.length]
  exact h.take _
theorem s_pop {j : Nat} {x : Str} (hN : X.N.Nodup) (hi : X.N[i]? = some x) (hx : Loc X.env.scope x) (ho : PE X o (tVar j)) (hbase : attributeBase o "pop" X.env (eval o X.env) = eval o X.env := by rfl) (hline : (apos.endLine == cpos.line) = true := by rfl)
    (hs : swapsWith (.Call (.Attribute o "pop" apos) [] [] cpos) (some (.Name x pos')) pos.line X.env = pure false := by rfl) (hf : X.fn x = true ∨ X.env.scope.names.lookup x = some .local := by first | exact .inl rfl | exact .inr rfl | assumption) :
    PS X (.Assign [.Name x pos'] (.Call (.Attribute o "pop" apos) [] [] cpos) pos) (sD X.K (qPop i j)) :=
  PS.to (ps_set hN hi hx (pe_bm0 PySem.F.plainAttrs_list PySem.F.slot_list_pop PySem.F.type_list_pop mt_pop ho hbase hline) hs hf) fun C σ H ⟨H0, G0, G, env, r, rl, ee, p⟩ => by
    unfold qPop at ee
    split at ee
    · rename_i ds hd
      cases e1 : ds[ds.length - 1]? with
      | none => rw [e1] at ee; cases ee
      | some d =>
        rw [e1, Option.bind_some] at ee
        cases ee
        obtain ⟨a, k1, k2, k3, xs, k4, k5, k6⟩ := rl.own hd
        obtain ⟨v, k7, k8⟩ := k6.get e1
        refine ⟨.ref a, k1, tyV_lst (.of k4), a, xs, v, rfl, rfl, k4, by rw [k6.length]; exact k7, ?_⟩
        exact p _ _ G ((rl.change (e := .list ds.dropLast) (o := .lst xs.dropLast) hd k1 ⟨xs.dropLast, upd_same, by rw [List.length_dropLast]; omega, k6.dropLast⟩).set k8) (.refl G)
    · cases ee
theorem putK_len {kx : List (Key × V)} {key : Key} {y : V} (h : kx.length < sizeLine) : (putK kx key y).length ≤ sizeLine := Nat.le_trans (length_putK kx key y) h
theorem s_put {k v : Expr} (hu : X.A.units + 64 < cLine) (ho : PE X o (tVar i)) (hk : PE X k (tD X.K fk)) (hv : PE X v (tD X.K fv)) (hs : swapsWith v (some (.Subscript o k pos')) pos.line X.env = pure false := by rfl) :
    PS X (.Assign [.Subscript o k pos'] v pos) (sD X.K (qPut i fk fv)) :=
  PS.to (ps_dput (by omega) ho hk hv hs) fun C σ H ⟨H0, G0, G, env, r, rl, ee, p⟩ => by
    unfold qPut at ee
    split at ee
    · rename_i kvs hd
      cases e1 : fv env with
      | none => rw [e1] at ee; cases ee
      | some dv =>
        cases e2 : fk env with
        | none => rw [e1, e2] at ee; cases ee
        | some dk =>
          rw [e1, e2, Option.bind_some, Option.bind_some] at ee
          cases e3 : toKey dk with
          | none => rw [e3] at ee; cases ee
          | some key =>
            rw [e3, Option.bind_some] at ee
            split at ee
            · rename_i hlt
              cases ee
              refine ⟨H0, G0, G, env, dv, rl, e1, fun y H1 G1 x1 hy => ?_⟩
              obtain ⟨a, k1, k2, k3, kx, k4, k5, k6⟩ := (rl.next x1).own hd
              refine ⟨.ref a, k1, H0, G0, G1, env, dk, rl.next x1, e2, fun w H2 G2 x2 hw => ?_⟩
              have ew : w = kV key := by
                have ek := keyD_of e3
                subst ek
                cases key with
                | inl i => simp only [keyD, Dv] at hw; exact hw
                | inr z => simp only [keyD, Dv] at hw; exact hw.1
              subst ew
              refine ⟨a, _, rfl, .inl ⟨kx, key, x2.same _ _ k4, rfl, by rw [k6.length]; exact hlt, rfl⟩, ?_⟩
              exact p _ _ G2 (((rl.next x1).next x2).change hd k1 ⟨putK kx key y, upd_same, putK_len (by rw [k6.length]; exact hlt), (k6.mono x2.gr).put (hy.mono x2.gr)⟩) (x1.gr.trans x2.gr)
            · cases ee
    · cases ee
/-- {}, a new dict -/
theorem f_dict {pos : Pos} : PE X (.Dict [] [] pos) (tF X.K (fC (.dict []))) := PE.to pe_dnewK fun σ H Q ⟨H0, G0, G, env, d, r, ef, q⟩ => by
  cases ef
  exact fun p np => q p _ G (.out r.sub np) np (r.sub.free np) ⟨[], upd_same, Nat.zero_le _, .nil⟩
end
end PD

/-! THE DATA LAYER 7: built-in functions. -/
namespace PD
open PySem PySem.Spec PyProof.Rows L2

def rC1 (K : PySem.W.Frag) (g : D → Option D) : List V → Hp → VK → Prop := fun xs H Q => ∃ G x dx d, xs = [x] ∧ Sub G H ∧ Sh K H G dx x ∧ g dx = some d ∧ ∀ v H' G', Ex H G H' G' → Dv K G' d v → Q v H'
def rC1F (K : PySem.W.Frag) (g : D → Option D) : List V → Hp → VK → Prop := fun xs H Q => ∃ G x dx d, xs = [x] ∧ Sub G H ∧ Sh K H G dx x ∧ g dx = some d ∧ ∀ a H' G', Ex H G H' G' → H a = none → G' a = none → Own K H' G' a d → Q (.ref a) H'
def rC2 (K : PySem.W.Frag) (g : D → D → Option D) : List V → Hp → VK → Prop := fun xs H Q => ∃ G x y dx dy d, xs = [x, y] ∧ Sub G H ∧ Dv K G dx x ∧ Dv K G dy y ∧ g dx dy = some d ∧ ∀ v H' G', Ex H G H' G' → Dv K G' d v → Q v H'
def f1 (g : D → Option D) (f : Env → Option D) : Env → Option D := fun env => (f env).bind g
section
variable {X : Cx} {e e2 : Expr} {f f' : Env → Option D} {g : D → Option D} {g2 : D → D → Option D} {x : Str} {p pos : Pos} {id T : String}
theorem c1_to {σ : L2.St} {H : Hp} {Q : VK} (h : tD X.K (f1 g f) σ H Q) : tCB (rC1 X.K g) (tW1 X.K f) σ H Q := by
  obtain ⟨H0, G0, G, env, d, r, ef, q⟩ := h
  unfold f1 at ef
  cases e1 : f env with
  | none => rw [e1] at ef; cases ef
  | some dx =>
    rw [e1, Option.bind_some] at ef
    exact ⟨H0, G0, G, env, dx, r, e1, fun v H' G' x hv => ⟨G', v, dx, d, rfl, x.sub, hv, ef, fun w H2 G2 x2 hw => q w H2 G2 (x.trans x2) hw⟩⟩
theorem c1F_to {σ : L2.St} {H : Hp} {Q : VK} (h : tF X.K (f1 g f) σ H Q) : tCB (rC1F X.K g) (tW1 X.K f) σ H Q := by
  obtain ⟨H0, G0, G, env, d, r, ef, q⟩ := h
  unfold f1 at ef
  cases e1 : f env with
  | none => rw [e1] at ef; cases ef
  | some dx =>
    rw [e1, Option.bind_some] at ef
    exact ⟨H0, G0, G, env, dx, r, e1, fun v H' G' x hv => ⟨G', v, dx, d, rfl, x.sub, hv, ef, fun a H2 G2 x2 n n' ow => q a H2 G2 (x.trans x2) (x.same.free n) n' ow⟩⟩
theorem e_b1 (hc : CallR X (.builtin id) (rC1 X.K g)) (hg : Gl X x) (hm : X.mg x = none) (hv : bootBuiltins x = some (.builtin id)) (ha : PE X e (tW X.K f)) (hn : x ≠ "__name__" := by decide) (hdb : (x == ("__debug__" : Str)) = false := by decide)
    (hs : starEach [e] X.env = (false, eval e X.env) :: starEach [] X.env := by rfl) (hpl : (backTo pos (starEach [] X.env)).any (·.1) = false := by rfl) : PE X (.Call (.Name x p) [e] [] pos) (tD X.K (f1 g f)) := PE.to (pe_callB hc hg hm hv (a_one ha hs) hn hdb hs hpl) fun _ _ _ => c1_to
theorem e_t1 (hc : CallR X (.type T) (rC1 X.K g)) (hg : Gl X x) (hm : X.mg x = none) (hv : bootBuiltins x = some (.type T)) (ha : PE X e (tW X.K f)) (hn : x ≠ "__name__" := by decide) (hdb : (x == ("__debug__" : Str)) = false := by decide)
    (hs : starEach [e] X.env = (false, eval e X.env) :: starEach [] X.env := by rfl) (hpl : (backTo pos (starEach [] X.env)).any (·.1) = false := by rfl) : PE X (.Call (.Name x p) [e] [] pos) (tD X.K (f1 g f)) := PE.to (pe_callTy hc hg hm hv (a_one ha hs) hn hdb hs hpl) fun _ _ _ => c1_to
theorem f_b1 (hc : CallR X (.builtin id) (rC1F X.K g)) (hg : Gl X x) (hm : X.mg x = none) (hv : bootBuiltins x = some (.builtin id)) (ha : PE X e (tW X.K f)) (hn : x ≠ "__name__" := by decide) (hdb : (x == ("__debug__" : Str)) = false := by decide)
    (hs : starEach [e] X.env = (false, eval e X.env) :: starEach [] X.env := by rfl) (hpl : (backTo pos (starEach [] X.env)).any (·.1) = false := by rfl) : PE X (.Call (.Name x p) [e] [] pos) (tF X.K (f1 g f)) := PE.to (pe_callB hc hg hm hv (a_one ha hs) hn hdb hs hpl) fun _ _ _ => c1F_to
theorem f_t1 (hc : CallR X (.type T) (rC1F X.K g)) (hg : Gl X x) (hm : X.mg x = none) (hv : bootBuiltins x = some (.type T)) (ha : PE X e (tW X.K f)) (hn : x ≠ "__name__" := by decide) (hdb : (x == ("__debug__" : Str)) = false := by decide)
    (hs : starEach [e] X.env = (false, eval e X.env) :: starEach [] X.env := by rfl) (hpl : (backTo pos (starEach [] X.env)).any (·.1) = false := by rfl) : PE X (.Call (.Name x p) [e] [] pos) (tF X.K (f1 g f)) := PE.to (pe_callTy hc hg hm hv (a_one ha hs) hn hdb hs hpl) fun _ _ _ => c1F_to
theorem e_b2 (hc : CallR X (.builtin id) (rC2 X.K g2)) (hg : Gl X x) (hm : X.mg x = none) (hv : bootBuiltins x = some (.builtin id)) (ha : PE X e (tD X.K f)) (hb : PE X e2 (tD X.K f')) (hn : x ≠ "__name__" := by decide) (hdb : (x == ("__debug__" : Str)) = false := by decide)
    (hs : starEach [e, e2] X.env = (false, eval e X.env) :: starEach [e2] X.env := by rfl) (hs2 : starEach [e2] X.env = (false, eval e2 X.env) :: starEach [] X.env := by rfl) (hpl : (backTo pos (starEach [e2] X.env)).any (·.1) = false := by rfl) : PE X (.Call (.Name x p) [e, e2] [] pos) (tD X.K (f2 g2 f f')) :=
  PE.to (pe_callB hc hg hm hv (a_cons ha (a_cons hb a_nil hs2) hs) hn hdb hs hpl) fun σ H Q ⟨H0, G0, G, env, d, r, ef, q⟩ => by
    unfold f2 at ef
    cases e1 : f env with
    | none => rw [e1] at ef; cases ef
    | some da =>
      cases e2' : f' env with
      | none => rw [e1, e2'] at ef; cases ef
      | some db =>
        rw [e1, e2', Option.bind_some, Option.bind_some] at ef
        refine ⟨H0, G0, G, env, [da, db], r, by simp only [fCons, fNil, e1, e2', Option.bind_some], fun vs H' G' x hv => ?_⟩
        obtain ⟨v, r', rfl, hv1, hv2⟩ := hv.inv
        obtain ⟨v2, r2, rfl, hv3, hv4⟩ := hv2.inv
        have := hv4.inv_nil
        subst this
        exact ⟨G', v, v2, da, db, d, rfl, x.sub, hv1, hv3, ef, fun w H2 G2 x2 hw => q w H2 G2 (x.trans x2) hw⟩
end

/-! ### len, tuple, list -/
def lenD : D → Option D
  | .list xs => some (.int xs.length)
  | .tuple xs => some (.int xs.length)
  | .str z => some (.int z.length)
  | _ => none
def tupD : D → Option D
  | .list xs => some (.tuple xs)
  | .tuple xs => some (.tuple xs)
  | _ => none
def lstD : D → Option D
  | .list xs => some (.list xs)
  | .tuple xs => some (.list xs)
  | .dict kvs => some (.list (kvs.map (·.1)))
  | _ => none
section
variable {X : Cx}
theorem c_len : CallR X (.builtin "len") (rC1 X.K lenD) := by
  intro pins s σ H vs us Q I rv ⟨G, x, dx, d, ex, sb, hx, e, q⟩
  subst ex
  unfold lenD at e
  split at e
  · cases e
    obtain ⟨a, xs, rfl, h1, h2, h3⟩ := hx
    refine call_len_seq pins s σ H _ us Q I rv ⟨a, xs, rfl, .inl h1, ?_⟩
    rw [h3.length]
    exact q _ _ _ (.refl sb) .int
  · cases e
    obtain ⟨a, xs, rfl, h1, h2, h3⟩ := hx.tup
    refine call_len_seq pins s σ H _ us Q I rv ⟨a, xs, rfl, .inr (sb.sqT h1), ?_⟩
    rw [h3.length]
    exact q _ _ _ (.refl sb) .int
  · cases e
    obtain ⟨rfl, hz⟩ := hx.str
    exact call_len_str pins s σ H _ us Q I rv ⟨_, rfl, hz, q _ _ _ (.refl sb) .int⟩
  · cases e
/-- tuple(l) of a list, the new object known -/
theorem call_tupleF : CallR X (.type "tuple") (fun xs H Q => ∃ p ys, xs = [.ref p] ∧ SqL X.K H p ys ∧ ∀ l o, H l = none → TupO o → Q (.ref l) (upd H l (.frz o (.tup ys)))) := by
  intro pins s σ H xs us Q I r h
  obtain ⟨p, ys, rfl, hq, q⟩ := h
  obtain ⟨u, rfl, rx⟩ := vals1 r
  cases rx
  obtain ⟨its, r', pl, hz⟩ := I.list hq
  have hlen := r'.length
  refine call_tuple_list pl.isList (fun h' kp => ?_) (by simp only [List.size_toArray] <;> omega)
  have I1 : L2.Inv X pins σ H { s with heap := h' } := I.kept (t' := s.toks) kp
  have I2 : L2.Inv X pins σ (upd H h'.objs.size (.frz { cls := .type "tuple", data := .seq its.toArray } (.tup ys))) { s with heap := h'.push { cls := .type "tuple", data := .seq its.toArray } } :=
    I1.laid (t' := s.toks) (fun b o e => Heap.get?_push_of_some _ e) (Nat.le_refl _) (show ObjOk X.prog X.w _ _ _ (.frz _ (.tup ys)) from ⟨Heap.get?_push_size _ rfl, hz, its, r', IsTup.new _ _⟩)
  exact ⟨.ref h'.objs.size, _, I2, rfl, q _ _ (I1.hok.fresh (Nat.le_refl _)) ⟨rfl, rfl⟩⟩
theorem c_tuple : CallR X (.type "tuple") (rC1 X.K tupD) := by
  intro pins s σ H vs us Q I rv ⟨G, x, dx, d, ex, sb, hx, e, q⟩
  subst ex
  unfold tupD at e
  split at e
  · cases e
    obtain ⟨a, xs, rfl, h1, h2, h3⟩ := hx
    refine call_tupleF pins s σ H _ us Q I rv ⟨a, xs, rfl, h1, fun l o nl to => ?_⟩
    obtain ⟨x2, hd⟩ := Dv.newT sb nl to h2 h3
    exact q _ _ _ x2 hd
  · cases e
    have hx0 := hx
    obtain ⟨a, xs, rfl, h1, h2, h3⟩ := hx.tup
    exact call_tupleT pins s σ H _ us Q I rv ⟨a, xs, rfl, sb.sqT h1, q _ _ _ (.refl sb) hx0⟩
  · cases e
theorem dv_keys {K : PySem.W.Frag} {G : Hp} : ∀ {kvs : List (D × D)} {kx : List (Key × V)}, DvKV K G kvs kx → DvAll K G (kvs.map (·.1)) (kx.map fun kv => kV kv.1) → DvAll K G (kvs.map (·.1)) (kx.map fun kv => kV kv.1) := fun _ h => h
/-- a dict's keys are short enough texts -/
def keysOk (kvs : List (D × D)) : Bool := kvs.all fun kv => match kv.1 with
  | .str x => decide (x.length ≤ sizeLine)
  | _ => true
theorem keys_dv {K : PySem.W.Frag} {G : Hp} : ∀ {kvs : List (D × D)} {kx : List (Key × V)}, keysOk kvs = true → DvKV K G kvs kx → DvAll K G (kvs.map (·.1)) (kx.map fun kv => kV kv.1)
  | [], kx, _, h => by rw [h.inv_nil]; exact .nil
  | (k, d) :: kvs, kx, ok, h => by
    obtain ⟨key, v, r, rfl, rfl, h1, h2⟩ := h.inv
    unfold keysOk at ok
    rw [List.all_cons, Bool.and_eq_true] at ok
    refine .cons (keyD_dv key fun x e => ?_) (keys_dv ok.2 h2)
    subst e
    exact of_decide_eq_true ok.1
def lstD' (d : D) : Option D := match d with
  | .dict kvs => if keysOk kvs = true then some (.list (kvs.map (·.1))) else none
  | d => lstD d
theorem c_list (hc : X.calm = true) : CallR X (.type "list") (rC1F X.K lstD') := by
  intro pins s σ H vs us Q I rv ⟨G, x, dx, d, ex, sb, hx, e, q⟩
  subst ex
  cases dx with
  | list ds =>
    cases e
    obtain ⟨a, xs, rfl, h1, h2, h3⟩ := hx
    exact call_list_of pins s σ H _ us Q I rv ⟨a, xs, rfl, .inl h1, fun l nl => q l _ G (.out sb nl) nl (sb.free nl) ⟨xs, upd_same, h2, h3⟩⟩
  | tuple ds =>
    cases e
    obtain ⟨a, xs, rfl, h1, h2, h3⟩ := hx.tup
    exact call_list_of pins s σ H _ us Q I rv ⟨a, xs, rfl, .inr (sb.sqT h1), fun l nl => q l _ G (.out sb nl) nl (sb.free nl) ⟨xs, upd_same, h2, h3⟩⟩
  | dict kvs =>
    have e' : (if keysOk kvs = true then some (PyData.list (kvs.map (·.1))) else none) = some d := e
    split at e'
    · rename_i hk
      cases e'
      obtain ⟨a, kx, rfl, h1, h2, h3⟩ := hx
      exact call_listD hc pins s σ H _ us Q I rv ⟨a, kx, rfl, h1, fun l nl => q l _ G (.out sb nl) nl (sb.free nl) ⟨_, upd_same, by rw [List.length_map]; exact h2, keys_dv hk h3⟩⟩
    · cases e'
  | _ => cases e

/-! ### all, int, min, max -/
def boolsD : List D → Option (List Bool)
  | [] => some []
  | .bool b :: r => (boolsD r).map (b :: ·)
  | _ :: _ => none
def allD : D → Option D
  | .list xs => (boolsD xs).map fun bs => .bool (bs.all id)
  | _ => none
theorem bools_v {K : PySem.W.Frag} {G : Hp} : ∀ {ds : List D} {vs : List V} {bs : List Bool}, boolsD ds = some bs → DvAll K G ds vs → vs = bs.map V.bl
  | [], vs, bs, e, h => by cases e; rw [h.inv_nil]; rfl
  | d :: ds, vs, bs, e, h => by
    obtain ⟨v, r, rfl, h1, h2⟩ := h.inv
    cases d with
    | bool b =>
      have e' : (boolsD ds).map (b :: ·) = some bs := e
      cases e1 : boolsD ds with
      | none => rw [e1] at e'; cases e'
      | some bs' =>
        rw [e1] at e'
        cases e'
        have hb : v = .bl b := by simpa only [Dv] using h1
        rw [hb, bools_v e1 h2]
        rfl
    | _ => cases e
theorem c_all (hc : X.calm = true) : CallR X (.builtin "all") (rC1 X.K allD) := by
  intro pins s σ H vs us Q I rv ⟨G, x, dx, d, ex, sb, hx, e, q⟩
  subst ex
  cases dx with
  | list ds =>
    have e' : (boolsD ds).map (fun bs => PyData.bool (bs.all id)) = some d := e
    cases e1 : boolsD ds with
    | none => rw [e1] at e'; cases e'
    | some bs =>
      rw [e1] at e'
      cases e'
      obtain ⟨a, xs, rfl, h1, h2, h3⟩ := hx
      rw [bools_v e1 h3] at h1
      exact cr_all hc pins s σ H _ us Q I rv ⟨a, bs, rfl, h1, q _ _ _ (.refl sb) .bool⟩
  | _ => cases e
def intD : D → Option D
  | .int i => some (.int i)
  | .bool b => some (.int (if b then 1 else 0))
  | _ => none
theorem c_int : CallR X (.type "int") (rC1 X.K intD) := by
  intro pins s σ H vs us Q I rv ⟨G, x, dx, d, ex, sb, hx, e, q⟩
  subst ex
  unfold intD at e
  split at e
  · cases e
    rw [hx.int] at rv
    exact call_int1 pins s σ H _ us Q I rv (.inl ⟨_, rfl, q _ _ _ (.refl sb) .int⟩)
  · cases e
    rw [hx.bool] at rv
    exact call_int1 pins s σ H _ us Q I rv (.inr ⟨_, rfl, q _ _ _ (.refl sb) .int⟩)
  · cases e
def min2D : D → D → Option D
  | .int i, .int j => some (.int (if j < i then j else i))
  | _, _ => none
def max2D : D → D → Option D
  | .int i, .int j => some (.int (if j > i then j else i))
  | _, _ => none
theorem c_min (hc : X.calm = true) : CallR X (.builtin "min") (rC2 X.K min2D) := by
  intro pins s σ H vs us Q I rv ⟨G, x, y, dx, dy, d, ex, sb, hx, hy, e, q⟩
  subst ex
  unfold min2D at e
  split at e
  · cases e
    simp only [Dv] at hx hy
    subst hx hy
    exact call_min2 hc pins s σ H _ us Q I rv ⟨_, _, rfl, q _ _ _ (.refl sb) .int⟩
  · cases e
theorem c_max (hc : X.calm = true) : CallR X (.builtin "max") (rC2 X.K max2D) := by
  intro pins s σ H vs us Q I rv ⟨G, x, y, dx, dy, d, ex, sb, hx, hy, e, q⟩
  subst ex
  unfold max2D at e
  split at e
  · cases e
    simp only [Dv] at hx hy
    subst hx hy
    exact call_max2 hc pins s σ H _ us Q I rv ⟨_, _, rfl, q _ _ _ (.refl sb) .int⟩
  · cases e
end

/-! ### sorted -/
mutual
theorem reads_in {h : Heap} : ∀ (d : D) (v : Value) (as : List Addr), d.plain = true → Reads h v d as → ∀ a ∈ as, a < h.objs.size
  | .none, _, _, _, r, a, ha => by cases r; cases ha
  | .bool _, _, _, _, r, a, ha => by cases r; cases ha
  | .int _, _, _, _, r, a, ha => by cases r; cases ha
  | .str _, _, _, _, r, a, ha => by cases r; cases ha
  | .list xs, _, _, p, r, a, ha => by
    cases r with
    | list h1 h2 h3 h4 =>
      rcases List.mem_cons.mp ha with e | ha
      · rw [e]; exact Heap.lt_size h1
      · exact readsAll_in xs _ _ (by simpa [PyData.plain] using p) h4 a ha
  | .tuple xs, _, _, p, r, a, ha => by
    cases r with
    | tuple h1 h2 h3 h4 => exact readsAll_in xs _ _ (by simpa [PyData.plain] using p) h4 a ha
  | .dict _, _, _, p, _, _, _ => by simp [PyData.plain] at p
theorem readsAll_in {h : Heap} : ∀ (ds : List D) (vs : List Value) (as : List Addr), PyData.plainAll ds = true → ReadsAll h vs ds as → ∀ a ∈ as, a < h.objs.size
  | [], _, _, _, r, a, ha => by cases r; cases ha
  | d :: ds, _, _, p, r, a, ha => by
    obtain ⟨p1, p2⟩ := plain_cons p
    cases r with
    | cons h1 h2 =>
      rcases List.mem_append.mp ha with ha | ha
      · exact reads_in d _ _ p1 h1 a ha
      · exact readsAll_in ds _ _ p2 h2 a ha
end
/-- may be sorted: alike, none of them None; tuples with an item, or no tuples -/
def sortOk (xs : List D) : Bool := (xs.all fun x => xs.all fun y => PySem.W.alike x y) && (xs.all fun x => x.plain && decide (x.depth ≤ 50)) &&
  ((xs.all fun x => match x with | .tuple (_ :: _) => true | _ => false) || xs.all fun x => match x with | .tuple _ => false | .none => false | _ => true)
def sortL (xs : List D) : List D := xs.mergeSort fun a b => !PySem.W.dataLt b a
def sortD (d : D) : Option D := match d with
  | .list xs => if sortOk xs = true then some (.list (sortL xs)) else none
  | .tuple xs => if sortOk xs = true then some (.list (sortL xs)) else none
  | .dict kvs => if keysOk kvs = true ∧ sortOk (kvs.map (·.1)) = true then some (.list (sortL (kvs.map (·.1)))) else none
  | _ => none
section
variable {X : Cx} {pins : List (Addr × Obj)} {σ : L2.St} {H G : Hp} {s : Shared}
/-- the pairs of data and values -/
theorem each_pairs (I : L2.Inv X pins σ H s) (sb : Sub G H) : ∀ {ds : List D} {vs : List V} {us : List Value}, (∀ d ∈ ds, d.plain = true) → DvAll X.K G ds vs → Vals vs us →
    PySem.W.EachIs (fun (u : Value) (b : D × V) => L2.RelV b.2 u ∧ Dv X.K G b.1 b.2 ∧ ∃ as, Reads s.heap u b.1 as ∧ ∀ a ∈ as, a < s.heap.objs.size) us (ds.zip vs)
  | [], _, _, _, h, r => by
    have := h.inv_nil
    subst this
    cases r
    exact .nil
  | d :: ds, _, _, p, h, r => by
    obtain ⟨v, vs, rfl, h1, h2⟩ := h.inv
    cases r with
    | cons r1 r2 =>
      have p1 := p d List.mem_cons_self
      obtain ⟨as, ra⟩ := Dp.reads I d v _ (h1.dp sb d v p1) r1
      exact .cons ⟨r1, h1, as, ra, reads_in d _ as p1 ra⟩ (each_pairs I sb (fun d hd => p d (List.mem_cons_of_mem _ hd)) h2 r2)
theorem sort_alike {ds : List D} (ok : sortOk ds = true) : PySem.W.AllAlike ds ∧ PySem.W.Sortable ds ∧ (∀ d ∈ ds, d.plain = true) ∧ ∀ d ∈ ds, d.depth ≤ 50 := by
  unfold sortOk at ok
  simp only [Bool.and_eq_true, Bool.or_eq_true, List.all_eq_true] at ok
  obtain ⟨⟨h1, h2⟩, h3⟩ := ok
  refine ⟨fun d hd d' hd' => h1 d hd d' hd', ?_, fun d hd => (h2 d hd).1, fun d hd => of_decide_eq_true (h2 d hd).2⟩
  rcases h3 with h3 | h3
  · refine .inl fun d hd => ?_
    have := h3 d hd
    cases d with
    | tuple xs => cases xs with
      | nil => cases this
      | cons x r => exact ⟨x, r, rfl⟩
    | _ => cases this
  · refine .inr fun d hd => ?_
    have := h3 d hd
    cases d with
    | tuple xs => cases this
    | none => cases this
    | _ => exact ⟨nofun, nofun⟩
theorem sort_map {ds : List D} {vs : List V} (hl : ds.length = vs.length) : ((ds.zip vs).mergeSort (PySem.W.dataLe false fun b : D × V => b.1)).map (·.1) = sortL ds := by
  unfold sortL
  rw [List.map_mergeSort (s := fun a b => !PySem.W.dataLt b a)]
  · rw [List.map_fst_zip (by omega)]
  · intro a _ b _
    rw [PySem.W.dataLe_eq]
    rfl
theorem pairs_dv {K : PySem.W.Frag} {G : Hp} {R : Value → D × V → Prop} (hR : ∀ u b, R u b → L2.RelV b.2 u ∧ Dv K G b.1 b.2) : ∀ {us : List Value} {ps : List (D × V)}, PySem.W.EachIs R us ps → Vals (ps.map (·.2)) us ∧ DvAll K G (ps.map (·.1)) (ps.map (·.2))
  | _, _, .nil => ⟨.nil, .nil⟩
  | _, _, .cons h t => by
    obtain ⟨h1, h2⟩ := pairs_dv hR t
    obtain ⟨k1, k2⟩ := hR _ _ h
    exact ⟨.cons k1 h1, .cons k2 h2⟩
open PySem.W in
theorem sort_tail {Q : VK} {E : Value → Shared → Prop} {ds : List D} {vs : List V} {us : List Value} (hu : X.A.units + 64 < cLine) (I : L2.Inv X pins σ H s) (sb : Sub G H) (ok : sortOk ds = true) (hd : DvAll X.K G ds vs) (hz : vs.length ≤ sizeLine) (rv : Vals vs us)
    (q : ∀ a H' G', Ex H G H' G' → H a = none → G' a = none → Own X.K H' G' a (.list (sortL ds)) → Q (.ref a) H') :
    wpAny (model X.prog X.w) X.A.in1 (newList us >>= fun l => holding [l] (call (.builtin "list.sort") [l] []) >>= fun _ => ret l) (fun (f : PySem.Fin) s' => ∃ v, f = PySem.Fin.done (.ret v) ∧ EP X pins σ Q v s') E s := by
  obtain ⟨h1, h2, h3, h4⟩ := sort_alike ok
  have hl := hd.length
  have hlu := rv.length
  refine wpAny_bind (wpAny_newList ?_ (by rw [← hlu]; exact hz))
  have hoL : (s.heap.push (seqObj "list" us.toArray 0)).get? s.heap.objs.size = some (seqObj "list" us.toArray 0) := Heap.get?_push_size _ rfl
  have ep := each_pairs I sb h3 hd rv
  have em : (ds.zip vs).map (fun b : D × V => b.1) = ds := List.map_fst_zip (by omega)
  have hzl : (ds.zip vs).length ≤ sizeLine := by rw [List.length_zip]; omega
  refine wpAny_bind (wpAny_holding (PySem.W.list_sort_data (s := { s with heap := s.heap.push (seqObj "list" us.toArray 0) }) (enc := fun b : D × V => b.1) (R := fun (u : Value) (b : D × V) => L2.RelV b.2 u ∧ Dv X.K G b.1 b.2) hoL (ep.mono fun u b z => ⟨z.1, z.2.1⟩)
    (ep.mono fun u b ⟨_, _, as, ra, hin⟩ => ⟨as, PyProof.Rows.Reads.keeps (fun _ _ => Heap.get?_push_of_some _) ra, fun z => absurd (hin _ z) (Nat.lt_irrefl _)⟩) (by rw [em]; exact h1) (by rw [em]; exact h2) hzl (fun b hb => ?_) fun out hlen eo => ?_))
  · have := h4 b.1 (by rw [← em]; exact List.mem_map.mpr ⟨b, hb, rfl⟩)
    show X.A.units + 1 + 1 + _ < _
    omega
  · obtain ⟨v1, v2⟩ := pairs_dv (fun _ _ z => z) eo
    rw [sort_map (by omega)] at v2
    obtain ⟨e', he'⟩ := PyProof.Rows.sortedHeap_at (vs := us) (out := out.toArray) hoL
    have hlen2 : (((ds.zip vs).mergeSort (PySem.W.dataLe false fun b : D × V => b.1)).map (·.2)).length ≤ sizeLine := by
      rw [List.length_map, List.length_mergeSort]; exact hzl
    have I2 : L2.Inv X pins σ (upd H s.heap.objs.size (.lst _)) { s with heap := PyProof.Rows.sortedHeap (s.heap.push (seqObj "list" us.toArray 0)) s.heap.objs.size us out.toArray } :=
      I.laid (t' := s.toks) (fun b u e => by
        have hb : b < s.heap.objs.size := Heap.lt_size e
        rw [PyProof.Rows.sortedHeap_old (Nat.ne_of_lt hb) (by rw [size_push']; exact Nat.lt_succ_of_lt hb)]
        exact Heap.get?_push_of_some _ e) (Nat.le_refl _) (show ObjOk X.prog X.w _ _ _ (.lst _) from ⟨hlen2, out, e', v1, he'⟩)
    have nf := I.hok.fresh (Nat.le_refl s.heap.objs.size)
    exact wpAny_pure ⟨_, rfl, .ref s.heap.objs.size, _, I2, rfl, q _ _ G (.out sb nf) nf (sb.free nf) ⟨_, upd_same, hlen2, v2⟩⟩
theorem vals_each : ∀ {xs : List V} {us : List Value}, xs.length = us.length → (∀ (j : Nat) (x : V) (u : Value), xs[j]? = some x → us[j]? = some u → L2.RelV x u) → Vals xs us
  | [], [], _, _ => .nil
  | [], _ :: _, h, _ => by simp at h
  | _ :: _, [], h, _ => by simp at h
  | x :: xs, u :: us, h, k => .cons (k 0 x u rfl rfl) (vals_each (by simpa using h) fun j y w e1 e2 => k (j + 1) y w (by simpa using e1) (by simpa using e2))
theorem c_sorted (hc : X.calm = true) (hu : X.A.units + 64 < cLine) : CallR X (.builtin "sorted") (rC1F X.K sortD) := by
  intro pins s σ H vs us Q I rv ⟨G, x, dx, d, ex, sb, hx, e, q⟩
  subst ex
  obtain ⟨u, rfl, rx⟩ := vals1 rv
  have seq : ∀ {T : String} {o : Obj} {items : Array Value} {n : Nat} {a : Addr} {xs : List V} {ds : List D}, T = "list" ∨ T = "tuple" → s.heap.get? a = some o → o.cls = .type T → o.data = .seq items n → u = .ref a → Vals xs items.toList → xs.length ≤ sizeLine → DvAll X.K G ds xs → sortOk ds = true → d = .list (sortL ds) →
      wpAny (model X.prog X.w) X.A (call (.builtin "sorted") [u]) (EP X pins σ Q) X.xe s := fun {T o items n a xs ds} hT ho hc' hd eu rv' hz hdv ok ed => by
    subst eu ed
    refine Calls.call_function_entry PyProof.Rows.kind_sorted PyProof.Rows.plain_sorted PyProof.Rows.entry_sorted (PyProof.Rows.args_sorted1 _) ?_
    unfold Builtin.«sorted»
    refine wpAny_bind (m := checkCount "sorted" 1 1 _) (wpAny_pure ?_)
    refine wpAny_bind (wpAny_collect_seq a hT ho hc' hd (fun h' hk => ?_) (by have h0 := rv'.length; have h1 : items.toList.length = items.size := Array.length_toList; omega))
    exact sort_tail hu (I.kept (t' := s.toks) hk) sb ok hdv hz rv' q
  cases dx with
  | list ds =>
    have e' : (if sortOk ds = true then some (PyData.list (sortL ds)) else none) = some d := e
    split at e'
    · rename_i ok
      cases e'
      obtain ⟨a, xs, rfl, h1, h2, h3⟩ := hx
      cases rx
      obtain ⟨its, r', ⟨o, n, ho, hc', _, hd⟩, _⟩ := I.list h1
      exact seq (.inl rfl) ho hc' hd rfl (by simpa using r') h2 h3 ok rfl
    · cases e'
  | tuple ds =>
    have e' : (if sortOk ds = true then some (PyData.list (sortL ds)) else none) = some d := e
    split at e'
    · rename_i ok
      cases e'
      obtain ⟨a, xs, rfl, h1, h2, h3⟩ := hx.tup
      cases rx
      obtain ⟨its, r', ⟨o, ho, hc', n, hd⟩, _⟩ := I.tuple (sb.sqT h1)
      exact seq (.inr rfl) ho hc' hd rfl (by simpa using r') h2 h3 ok rfl
    · cases e'
  | dict kvs =>
    have e' : (if keysOk kvs = true ∧ sortOk (kvs.map (·.1)) = true then some (PyData.list (sortL (kvs.map (·.1)))) else none) = some d := e
    split at e'
    · rename_i ok
      cases e'
      obtain ⟨a, kx, rfl, h1, h2, h3⟩ := hx
      cases rx
      obtain ⟨z, lo, vs, rel, dd⟩ := dk_rd I.hok h1
      obtain ⟨ep, hat⟩ := dd.dictAt
      refine Calls.call_function_entry PyProof.Rows.kind_sorted PyProof.Rows.plain_sorted PyProof.Rows.entry_sorted (PyProof.Rows.args_sorted1 _) ?_
      unfold Builtin.«sorted»
      refine wpAny_bind (m := checkCount "sorted" 1 1 _) (wpAny_pure ?_)
      refine wpAny_bind (PySem.W.kdu_collect (A := X.A.in1) (PySem.W.kdl_dict (knd := mixKind X.prog X.w) (kvs := vs) (ep := ep) lo) (I.ok.hd hc) hat (by rw [← rel.length]; exact z) fun h' tk acc hk hacc => ?_)
      have ks : Vals (kx.map fun kv => kV kv.1) acc.toList := by
        have hk1 := rel.keys
        refine vals_each (by have a0 : acc.toList.length = acc.size := Array.length_toList; have a1 := hacc.1; have a2 := rel.length; rw [List.length_map]; omega) fun j x u e1 e2 => ?_
        rw [List.getElem?_map] at e1
        obtain ⟨k, w', e3, e4⟩ := hacc.2 j u (by rw [← Array.getElem?_toList]; exact e2)
        have e5 : (vs.map (·.1))[j]? = some k := by rw [List.getElem?_map, e3]; rfl
        rw [← hk1, List.getElem?_map] at e5
        cases e6 : kx[j]? with
        | none => rw [e6] at e5; cases e5
        | some kv =>
          rw [e6] at e5 e1
          have e7 : kv.1 = k := Option.some.inj e5
          have e8 : kV kv.1 = x := Option.some.inj e1
          rw [← e8, e7]
          exact relV_key e4
      exact sort_tail hu (I.kept (t' := tk) hk) sb ok.2 (keys_dv ok.1 h3) (by rw [List.length_map]; exact h2) ks q
    · cases e'
  | _ => cases e
end
end PD

/-! THE DATA LAYER 8: enumerate and zip of tuples and lists; the keys of a dict; dict(pairs); d.get. -/
namespace PD
open PySem PySem.Spec PyProof.Rows L2

/-! ### enumerate(t), t a tuple -/
/-- the pairs of enumerate, each an object that is known -/
def ItE (K : PySem.W.Frag) (a : Addr) : It :=
  ⟨fun i H => ∃ (xs : List V) (x : V), SqT K H a xs ∧ xs[i]? = some x, fun i H v H' => ∃ T x o, v = .ref T ∧ H T = none ∧ TupO o ∧ H' = upd H T (.frz o (.tup [.int (i : Nat), x])) ∧ ∀ xs, SqT K H a xs → xs[i]? = some x, fun i H => ∃ xs : List V, SqT K H a xs ∧ xs.length ≤ i⟩
theorem turn_enumT {P : Program} {w : World} {K : PySem.W.Frag} {elts : List Expr} {kk : Nat} {tpos : Pos} (a e it : Addr) (items : Array Value) (hai : a ≠ it) :
    Turn P w K (.Tuple elts kk tpos) (ItE K a) [e, it] e (fun i h => (∃ old, IsEnum h e it ((i : Nat) : Int) old) ∧ h.IsTupleIter it a i ∧ e ≠ it) where
  mem := by simp
  obj := fun i h st b hb => by
    obtain ⟨⟨old, he⟩, ⟨o, ho, hc, hd⟩, _⟩ := st
    have e1 : b = e ∨ b = it := by simpa using hb
    rcases e1 with rfl | rfl
    · exact ⟨_, he, fun v q => nomatch q⟩
    · exact ⟨o, ho, fun v q => by rw [hd] at q; cases q⟩
  keep := fun i h h' st k => let ⟨⟨old, he⟩, hi, hne⟩ := st; ⟨⟨old, k e (by simp) _ he⟩, hi.at (fun o q => k it (by simp) o q), hne⟩
  item := by
    intro X hP hw hK hc i pins s σ H E I hf st hg
    subst hP hw hK
    obtain ⟨⟨old, he⟩, hit, hne⟩ := st
    obtain ⟨xs, x, hq, hx⟩ := hg
    obtain ⟨its, rv, p, hz⟩ := I.tuple hq
    obtain ⟨u, hu, ru⟩ := rv.get hx
    have hel : e < s.heap.objs.size := Heap.lt_size he
    have hil : it < s.heap.objs.size := by obtain ⟨_, q, _⟩ := hit; exact Heap.lt_size q
    have pT : s.heap.IsTuple a its.toArray := p
    have hae : a ≠ e := fun z => by
      obtain ⟨o1, h1, h2, _⟩ := pT
      rw [z] at h1
      rw [show s.heap.get? e = _ from he] at h1
      cases h1
      exact absurd (Value.type.inj h2) (by decide)
    have hlt : i < its.toArray.size := by
      have := List.getElem?_eq_some_iff.mp hu
      simpa using this.1
    refine wpAny_pyNext_enum_itemD (Draws.tuple (A := X.A.in1) (I.ok.hd hc) it a hai its.toArray) he ⟨hit, pT⟩ hlt hne (by simp [hne, hae.symm]) fun y h' tk hy ho hst' hT hsz hk => ?_
    have hyu : y = u := by
      have e2 : its.toArray[i]? = some u := by simpa using hu
      rw [e2] at hy
      exact (Option.some.inj hy).symm
    subst hyu
    refine ⟨_, rfl, wpAny_letOwnedTupleGo_enum (s := { s with heap := h', toks := tk + 1 }) ho fun h'' he' sb => ?_⟩
    have hT2 := (sb.2 s.heap.objs.size (Nat.ne_of_gt hel)).trans hT
    have new : ObjOk X.prog X.w (upd H s.heap.objs.size (.frz { cls := .type "tuple", data := .seq #[.int i tk, y] } (.tup [.int (i : Nat), x]))) h'' s.heap.objs.size (.frz { cls := .type "tuple", data := .seq #[.int i tk, y] } (.tup [.int (i : Nat), x])) :=
      ⟨hT2, by show 2 ≤ sizeLine; decide, [.int i tk, y], .cons ⟨_, rfl⟩ (.cons ru .nil), ⟨_, hT2, rfl, _, rfl⟩⟩
    have I1 : L2.Inv X pins σ (upd H s.heap.objs.size (.frz { cls := .type "tuple", data := .seq #[.int i tk, y] } (.tup [.int (i : Nat), x]))) { s with heap := h'', toks := tk + 1 } :=
      I.turnedNew (ch := [e, it]) (fun b ob hb q => (sb.2 b (fun z => hb (by simp [z]))).trans (hk b ob (fun z => hb (by simp [z])) (fun z => hb (by simp [z])) q)) hf (Nat.le_refl _) new
    refine ⟨.ref s.heap.objs.size, _, I1, rfl, ⟨_, x, _, rfl, I.hok.fresh (Nat.le_refl _), ⟨rfl, rfl⟩, rfl, fun ys hy => by rw [I.tuple_inj hy hq]; exact hx⟩, ⟨⟨y, ?_⟩, hst'.1.at (fun o q => (sb.2 it (Ne.symm hne)).trans q), hne⟩, fun b hb => ?_⟩
    · rw [show ((i + 1 : Nat) : Int) = (i : Int) + 1 by omega]; exact he'
    · have hb' : b < s.heap.objs.size := by
        have e1 : b = e ∨ b = it := by simpa using hb
        rcases e1 with rfl | rfl
        · exact hel
        · exact hil
      rw [upd_ne (Nat.ne_of_lt hb')]
      exact (hf b hb).1
  done := by
    intro X hP hw hK hc i pins s σ H E I hf st hg
    subst hP hw hK
    obtain ⟨⟨old, he⟩, hit, hne⟩ := st
    obtain ⟨xs, hq, hx⟩ := hg
    obtain ⟨its, rv, p, hz⟩ := I.tuple hq
    obtain ⟨f0, f1, f2, f3, f4, f5⟩ := hf it (by simp)
    have pT : s.heap.IsTuple a its.toArray := p
    have hnone : its.toArray[i]? = none := by have := rv.length; simp; omega
    have hT : s.TypeIs (.ref e) "enumerate" := ⟨_, he, rfl⟩
    unfold pyNext
    refine wpAny_bind (wpAny_attempt (wpAny_callSpecial?_slot (name := Str.ofString "__next__") hT F.slot_enumerate_next
      (wpAny_call_entry F.slot_enumerate_next hT F.entry_enumerate_next ?_ (F.args_enumerate_next_1 _))))
    show wpAny _ _ (field (.ref e) 2 >>= _) _ _ _
    refine wpAny_bind (wpAny_field he rfl (x := .ref it) rfl ?_)
    refine wpAny_bind (wpAny_nextOf_tuple_end (I.ok.hd hc) hit pT hnone fun h' x he' ⟨o, ho, hc'⟩ => ?_)
    refine wpAny_bind (wpAny_isInstance (T := "StopIteration") (b := true) ⟨o, ho, hc'⟩ isSubtype_stop ?_)
    exact wpAny_pure ⟨rfl, I.turned (t' := s.toks) (fun b o hb q => he' b o hb q) f0 f1 f3 f4 f5⟩
  self := fun A i s Q E st h => let ⟨⟨_, he⟩, _⟩ := st; wpAny_pyIter_enum he h

theorem meets_enumB1 {v : Value} {o : Obj} {Hh : Heap → Prop} (B : Begins v o Hh) :
    Meets (Builtin.«enumerate.__new__» ⟨[.type "enumerate", v], []⟩) (fun _ R s => Hh s.heap ∧ R (.ok (.ret (.ref (s.heap.push o).objs.size))) { s with heap := (s.heap.push o).push { cls := .type "enumerate", data := .fields #[.none, .bool false, .ref s.heap.objs.size, rawInt 0, .none, .none] } }) :=
  .of_wp fun prog w A R s ⟨h1, hq⟩ => by
    obtain ⟨hp, g, dd, tk, os⟩ := s
    have hsub := sub_enumerate
    have turn1 : ∀ {A1 : Around} {E1 : Value → Shared → Prop} {Q1 : Value → Shared → Prop}, Q1 (.ref hp.objs.size) ⟨hp.push o, g, dd, tk, os⟩ → wpAny (model prog w) A1 (pyIter v) Q1 E1 ⟨hp, g, dd, tk, os⟩ := fun z => B.iter prog w _ _ ⟨hp, g, dd, tk, os⟩ _ h1 z
    wp_walk using turn1
    refine wpAny_stack_any fun stk => wpAny_pure ?_
    split
    · rename_i cc _ _ _ _ _
      cases (cc == Value.type "enumerate") <;> (wp_walk using turn1; exact ⟨_, rfl, hq⟩)
    · wp_walk using turn1
      exact ⟨_, rfl, hq⟩
theorem call_enumT {prog : Program} {w : World} {A : Around} {E : Value → Shared → Prop} {s : Shared} {v : Value} {o : Obj} {Hh : Heap → Prop} {Q : Value → Shared → Prop} (B : Begins v o Hh) (h1 : Hh s.heap)
    (hq : ∀ h', IsEnum h' (s.heap.objs.size + 1) s.heap.objs.size 0 .none → h'.get? s.heap.objs.size = some o → (∀ b ob, s.heap.get? b = some ob → h'.get? b = some ob) → Q (.ref (s.heap.objs.size + 1)) { s with heap := h' }) :
    wpAny (model prog w) A (call (.type "enumerate") [v]) Q E s := by
  refine callType_new F.called_enumerate (by decide) (F.typeCall_enumerate_1 _) (F.newCall_enumerate_1 _) (fun obj => F.args_object_init_2 obj _) F.entry_enumerate_new (meets_enumB1 B) ⟨h1, ?_⟩
  have hz : (s.heap.push o).objs.size = s.heap.objs.size + 1 := Heap.size_push ..
  show _ ∧ _
  rw [hz]
  have he : IsEnum ((s.heap.push o).push { cls := .type "enumerate", data := .fields #[.none, .bool false, .ref s.heap.objs.size, rawInt 0, .none, .none] }) (s.heap.objs.size + 1) s.heap.objs.size 0 .none := by
    have hg := Heap.get?_push_size (s.heap.push o) (o := { cls := .type "enumerate", data := .fields #[.none, .bool false, .ref s.heap.objs.size, rawInt 0, .none, .none] }) rfl
    rw [hz] at hg; exact hg
  exact ⟨⟨_, he, rfl⟩, hq _ he (Heap.get?_push_of_some _ (Heap.get?_push_size _ B.free)) fun b ob x => Heap.get?_push_of_some _ (Heap.get?_push_of_some _ x)⟩
def enumFrom : Nat → List D → List D
  | _, [] => []
  | i, x :: r => .tuple [.int i, x] :: enumFrom (i + 1) r
theorem enumFrom_get : ∀ (xs : List D) (k i : Nat), (enumFrom k xs)[i]? = xs[i]?.map fun x => .tuple [.int (k + i : Nat), x]
  | [], k, i => by simp [enumFrom]
  | x :: xs, k, 0 => by simp [enumFrom]
  | x :: xs, k, i + 1 => by
    rw [enumFrom, List.getElem?_cons_succ, enumFrom_get xs (k + 1) i, List.getElem?_cons_succ]
    rw [show k + 1 + i = k + (i + 1) by omega]
theorem enumFrom_len : ∀ (xs : List D) (k : Nat), (enumFrom k xs).length = xs.length
  | [], k => rfl
  | x :: xs, k => by simp [enumFrom, enumFrom_len xs (k + 1)]
def fEnum (f : Env → Option D) : Env → Option (List D) := fun env => (f env).bind fun d => match d with
  | .tuple xs => some (enumFrom 0 xs)
  | _ => none
theorem two_le : 2 ≤ sizeLine := by rw [sizeLine_eq]; exact (by decide : 2 ≤ 16777216)
section
variable {X : Cx}
theorem i_enum {e : Expr} {f : Env → Option D} {p pos tpos : Pos} {elts : List Expr} {kk : Nat} (hg : Gl X "enumerate") (hm : X.mg "enumerate" = none) (ha : PE X e (tD X.K f)) (hs : starEach [e] X.env = [(false, eval e X.env)] := by rfl) :
    PI X (.Tuple elts kk tpos) (.Call (.Name "enumerate" p) [e] [] pos) (tI X.K (fEnum f)) :=
  ⟨fun pins s σ H R I ⟨H0, G0, G, env, ds, r, ef, q⟩ => by
    unfold fEnum at ef
    cases e1 : f env with
    | none => rw [e1] at ef; cases ef
    | some d =>
      rw [e1, Option.bind_some] at ef
      cases d with
      | tuple xs =>
        cases ef
        refine Call_ (ld_blt I hg hm boot_enumerate (PyProof.Rows.callWith_type1 (thn ((a_cons ha a_nil hs).run pos pins s σ H (fun vs H1 => ∃ v G1, vs = [v] ∧ Ex H G H1 G1 ∧ Dv X.K G1 (.tuple xs) v) I
          ⟨H0, G0, G, env, [.tuple xs], r, by simp only [fCons, fNil, e1, Option.bind_some], fun vs H1 G1 x1 hv => ?_⟩) fun us s1 ⟨vs, H1, I1, r1, v, G1, ev, x1, hv⟩ => ?_) hs rfl))
        · obtain ⟨v, r', rfl, h1, h2⟩ := hv.inv
          have := h2.inv_nil
          subst this
          exact ⟨v, G1, rfl, x1, h1⟩
        subst ev
        simp only [Dv] at hv
        obtain ⟨a, vs, rfl, h1, h2, h3⟩ := hv
        obtain ⟨u, rfl, ru⟩ := vals1 r1
        cases ru
        obtain ⟨its, rv, p', hz⟩ := I1.tuple (x1.sub.sqT h1)
        have pT : s1.heap.IsTuple a its.toArray := p'
        refine call_enumT (begins_tuple a its.toArray) pT fun h' he hit hk => wpAny_pyIter_enum he ?_
        have I2 : L2.Inv X pins σ H1 { s1 with heap := h' } := I1.kept (t' := s1.toks) hk
        have hai : a ≠ s1.heap.objs.size := by
          obtain ⟨o, ho, _⟩ := pT
          exact Nat.ne_of_lt (Heap.lt_size ho)
        refine ⟨s1.heap.objs.size + 1, [s1.heap.objs.size + 1, s1.heap.objs.size], _, _, H1, rfl, I2, turn_enumT a (s1.heap.objs.size + 1) s1.heap.objs.size its.toArray hai, ⟨⟨.none, he⟩, ⟨_, hit, rfl, rfl⟩, Nat.succ_ne_self _⟩, fun b hb => ?_, ?_⟩
        · have e2 : b = s1.heap.objs.size + 1 ∨ b = s1.heap.objs.size := by simpa using hb
          have hle : s1.heap.objs.size ≤ b := by rcases e2 with z | z <;> rw [z] <;> first | exact Nat.le_succ _ | exact Nat.le_refl _
          exact I1.fpOk hle (I1.hok.fresh hle)
        · refine q _ H1 G1 x1 ⟨fun H2 G2 gr sb => ?_, by rw [enumFrom_len, ← h3.length]; exact h2⟩
          have h4 := sb.sqT (h1.imp (TGh.mono gr) id)
          have h5 := h3.mono gr
          refine ⟨fun i hi => ?_, ⟨vs, h4, by rw [enumFrom_len, ← h3.length]; exact Nat.le_refl _⟩, fun i w H3 hi ⟨T, x, o, ew, hT, to, eH, hx⟩ => ?_⟩
          · rw [enumFrom_len, ← h3.length] at hi
            exact ⟨vs, vs[i], h4, by simp [hi]⟩
          · subst ew eH
            obtain ⟨d, k1, k2⟩ := h5.getV (hx vs h4)
            obtain ⟨x2, hd⟩ := Dv.newT (ds := [.int (i : Nat), d]) (xs := [.int (i : Nat), x]) sb hT to two_le (.cons .int (.cons k2 .nil))
            exact ⟨_, _, by rw [enumFrom_get, k1]; simp, x2, hd⟩
      | _ => cases ef⟩
end
end PD

/-! THE DATA LAYER 9: zip, the keys of a dict, dict(pairs), d.get. -/
namespace PD
open PySem PySem.Spec PyProof.Rows L2

def zipD : List D → List D → List D
  | x :: xs, y :: ys => .tuple [x, y] :: zipD xs ys
  | _, _ => []
theorem zipD_get : ∀ (xs ys : List D) (i : Nat) (x y : D), xs[i]? = some x → ys[i]? = some y → (zipD xs ys)[i]? = some (.tuple [x, y])
  | [], _, i, x, y, h, _ => by simp at h
  | _ :: _, [], i, x, y, _, h => by simp at h
  | a :: xs, b :: ys, 0, x, y, h, k => by
    have e1 : a = x := Option.some.inj h
    have e2 : b = y := Option.some.inj k
    subst e1 e2
    rfl
  | a :: xs, b :: ys, i + 1, x, y, h, k => zipD_get xs ys i x y h k
theorem zipD_len : ∀ (xs ys : List D), (zipD xs ys).length = min xs.length ys.length
  | [], _ => by simp [zipD]
  | _ :: _, [] => by simp [zipD]
  | a :: xs, b :: ys => by simp [zipD, zipD_len xs ys]

/-- the pairs of zip, each an object that is known -/
def ItZL (K : PySem.W.Frag) (a b : Addr) : It :=
  ⟨fun i H => ∃ (xs ys : List V) (x y : V), SqL K H a xs ∧ SqL K H b ys ∧ xs[i]? = some x ∧ ys[i]? = some y,
    fun i H v H' => ∃ T x y o, v = .ref T ∧ H T = none ∧ TupO o ∧ H' = upd H T (.frz o (.tup [x, y])) ∧ (∀ xs, SqL K H a xs → xs[i]? = some x) ∧ ∀ ys, SqL K H b ys → ys[i]? = some y,
    fun i H => ∃ xs ys : List V, SqL K H a xs ∧ SqL K H b ys ∧ (xs.length ≤ i ∨ ys.length ≤ i)⟩
theorem turn_zipL {P : Program} {w : World} {K : PySem.W.Frag} {elts : List Expr} {kk : Nat} {tpos : Pos} {a b z TI TO i1 i2 : Addr} (Dz : ZipApart z TI TO i1 i2 a b) :
    Turn P w K (.Tuple elts kk tpos) (ItZL K a b) [z, TI, TO, i1, i2] z (fun i h => IsZip h z TI TO .none ∧ IsPair h TI (.ref i1) (.ref i2) ∧ (∃ x y, IsPair h TO x y) ∧ h.IsListIter i1 a i ∧ h.IsListIter i2 b i) where
  mem := by simp
  obj := fun i h st c hcm => by
    obtain ⟨hz, hTI, ⟨x, y, hTO⟩, ⟨o1, e1, _, d1⟩, ⟨o2, e2, _, d2⟩⟩ := st
    have e0 : c = z ∨ c = TI ∨ c = TO ∨ c = i1 ∨ c = i2 := by simpa using hcm
    rcases e0 with rfl | rfl | rfl | rfl | rfl
    · exact ⟨_, hz, fun v q => nomatch q⟩
    · exact ⟨_, hTI, fun v q => nomatch q⟩
    · exact ⟨_, hTO, fun v q => nomatch q⟩
    · exact ⟨o1, e1, fun v q => by rw [d1] at q; cases q⟩
    · exact ⟨o2, e2, fun v q => by rw [d2] at q; cases q⟩
  keep := fun i h h' st k => by
    obtain ⟨hz, hTI, ⟨x, y, hTO⟩, k1, k2⟩ := st
    exact ⟨k z (by simp) _ hz, k TI (by simp) _ hTI, ⟨x, y, k TO (by simp) _ hTO⟩, k1.at (fun o q => k i1 (by simp) o q), k2.at (fun o q => k i2 (by simp) o q)⟩
  item := by
    intro X hP hw hK hc i pins s σ H E I hf st hg
    subst hP hw hK
    obtain ⟨hz, hTI, ⟨x0, y0, hTO⟩, k1, k2⟩ := st
    obtain ⟨xs, ys, x, y, hqx, hqy, hx, hy⟩ := hg
    obtain ⟨its, rv, p, _⟩ := I.list hqx
    obtain ⟨its2, rv2, p2, _⟩ := I.list hqy
    obtain ⟨u, hu, ru⟩ := rv.get hx
    obtain ⟨u2, hu2, ru2⟩ := rv2.get hy
    have hzl : z < s.heap.objs.size := Heap.lt_size hz
    refine wpAny_pyNext_zip_item Dz hz hTI hTO k1 k2 p.isList p2.isList (x := u) (y := u2) (by simpa using hu) (by simpa using hu2) fun h' z' TO' h1' h2' hT hsz hk => ?_
    refine ⟨_, rfl, wpAny_letOwnedTupleGo_zip (s := { s with heap := h' }) z' fun h'' z'' sb => ?_⟩
    have hT2 := (sb.2 s.heap.objs.size (Nat.ne_of_gt hzl)).trans hT
    have new : ObjOk X.prog X.w (upd H s.heap.objs.size (.frz { cls := .type "tuple", data := .seq #[u, u2] } (.tup [x, y]))) h'' s.heap.objs.size (.frz { cls := .type "tuple", data := .seq #[u, u2] } (.tup [x, y])) :=
      ⟨hT2, by show 2 ≤ sizeLine; exact two_le, [u, u2], .cons ru (.cons ru2 .nil), ⟨_, hT2, rfl, _, rfl⟩⟩
    have I1 : L2.Inv X pins σ (upd H s.heap.objs.size (.frz { cls := .type "tuple", data := .seq #[u, u2] } (.tup [x, y]))) { s with heap := h'' } :=
      I.turnedNew (t' := s.toks) (ch := [z, TI, TO, i1, i2]) (fun c o hb q => (sb.2 c (fun e => hb (by simp [e]))).trans (hk c o (fun e => hb (by simp [e])) (fun e => hb (by simp [e])) (fun e => hb (by simp [e])) (fun e => hb (by simp [e])) q)) hf (Nat.le_refl _) new
    refine ⟨.ref s.heap.objs.size, _, I1, rfl, ⟨_, x, y, _, rfl, I.hok.fresh (Nat.le_refl _), ⟨rfl, rfl⟩, rfl, fun l hl => by rw [I.list_inj hl hqx]; exact hx, fun l hl => by rw [I.list_inj hl hqy]; exact hy⟩, ⟨z'', ?_, ⟨u, u2, ?_⟩, ?_, ?_⟩, fun c hcm => ?_⟩
    · exact (sb.2 _ Dz.TIz).trans (hk _ _ Dz.TIz Dz.TITO Dz.TIi1 Dz.TIi2 hTI)
    · exact (sb.2 _ Dz.TOz).trans TO'
    · exact h1'.at (fun o q => (sb.2 _ Dz.i1z).trans q)
    · exact h2'.at (fun o q => (sb.2 _ Dz.i2z).trans q)
    · have hlt : c < s.heap.objs.size := by
        have e0 : c = z ∨ c = TI ∨ c = TO ∨ c = i1 ∨ c = i2 := by simpa using hcm
        rcases e0 with rfl | rfl | rfl | rfl | rfl
        · exact hzl
        · exact Heap.lt_size hTI
        · exact Heap.lt_size hTO
        · obtain ⟨_, e1, _⟩ := k1; exact Heap.lt_size e1
        · obtain ⟨_, e2, _⟩ := k2; exact Heap.lt_size e2
      rw [upd_ne (Nat.ne_of_lt hlt)]
      exact (hf c hcm).1
  done := by
    intro X hP hw hK hc i pins s σ H E I hf st hg
    subst hP hw hK
    obtain ⟨hz, hTI, ⟨x0, y0, hTO⟩, k1, k2⟩ := st
    obtain ⟨xs, ys, hqx, hqy, hend⟩ := hg
    obtain ⟨its, rv, p, _⟩ := I.list hqx
    obtain ⟨its2, rv2, p2, _⟩ := I.list hqy
    have l1 := rv.length
    have l2 := rv2.length
    have he : its.toArray[i]? = none ∨ its2.toArray[i]? = none := hend.imp (fun q => by simp; omega) fun q => by simp; omega
    exact wpAny_pyNext_zip_end (I.ok.hd hc) Dz hz hTI hTO k1 k2 p.isList p2.isList he fun h' hk => ⟨rfl, I.turnedL (t' := s.toks) (ch := [z, TI, TO, i1, i2]) (fun c o hb q =>
      hk c o (fun e => hb (by simp [e])) (fun e => hb (by simp [e])) (fun e => hb (by simp [e])) (fun e => hb (by simp [e])) q) hf⟩
  self := fun A i s Q E st h => wpAny_pyIter_zip st.1 h

/-- the pairs of zip, each an object that is known -/
def ItZT (K : PySem.W.Frag) (a b : Addr) : It :=
  ⟨fun i H => ∃ (xs ys : List V) (x y : V), SqT K H a xs ∧ SqT K H b ys ∧ xs[i]? = some x ∧ ys[i]? = some y,
    fun i H v H' => ∃ T x y o, v = .ref T ∧ H T = none ∧ TupO o ∧ H' = upd H T (.frz o (.tup [x, y])) ∧ (∀ xs, SqT K H a xs → xs[i]? = some x) ∧ ∀ ys, SqT K H b ys → ys[i]? = some y,
    fun i H => ∃ xs ys : List V, SqT K H a xs ∧ SqT K H b ys ∧ (xs.length ≤ i ∨ ys.length ≤ i)⟩
theorem turn_zipT {P : Program} {w : World} {K : PySem.W.Frag} {elts : List Expr} {kk : Nat} {tpos : Pos} {a b z TI TO i1 i2 : Addr} (Dz : ZipApart z TI TO i1 i2 a b) :
    Turn P w K (.Tuple elts kk tpos) (ItZT K a b) [z, TI, TO, i1, i2] z (fun i h => IsZip h z TI TO .none ∧ IsPair h TI (.ref i1) (.ref i2) ∧ (∃ x y, IsPair h TO x y) ∧ h.IsTupleIter i1 a i ∧ h.IsTupleIter i2 b i) where
  mem := by simp
  obj := fun i h st c hcm => by
    obtain ⟨hz, hTI, ⟨x, y, hTO⟩, ⟨o1, e1, _, d1⟩, ⟨o2, e2, _, d2⟩⟩ := st
    have e0 : c = z ∨ c = TI ∨ c = TO ∨ c = i1 ∨ c = i2 := by simpa using hcm
    rcases e0 with rfl | rfl | rfl | rfl | rfl
    · exact ⟨_, hz, fun v q => nomatch q⟩
    · exact ⟨_, hTI, fun v q => nomatch q⟩
    · exact ⟨_, hTO, fun v q => nomatch q⟩
    · exact ⟨o1, e1, fun v q => by rw [d1] at q; cases q⟩
    · exact ⟨o2, e2, fun v q => by rw [d2] at q; cases q⟩
  keep := fun i h h' st k => by
    obtain ⟨hz, hTI, ⟨x, y, hTO⟩, k1, k2⟩ := st
    exact ⟨k z (by simp) _ hz, k TI (by simp) _ hTI, ⟨x, y, k TO (by simp) _ hTO⟩, k1.at (fun o q => k i1 (by simp) o q), k2.at (fun o q => k i2 (by simp) o q)⟩
  item := by
    intro X hP hw hK hc i pins s σ H E I hf st hg
    subst hP hw hK
    obtain ⟨hz, hTI, ⟨x0, y0, hTO⟩, k1, k2⟩ := st
    obtain ⟨xs, ys, x, y, hqx, hqy, hx, hy⟩ := hg
    obtain ⟨its, rv, p, _⟩ := I.tuple hqx
    obtain ⟨its2, rv2, p2, _⟩ := I.tuple hqy
    obtain ⟨u, hu, ru⟩ := rv.get hx
    obtain ⟨u2, hu2, ru2⟩ := rv2.get hy
    have hzl : z < s.heap.objs.size := Heap.lt_size hz
    refine RZ.pyNext_zipT_item Dz hz hTI hTO k1 k2 p p2 (x := u) (y := u2) (by simpa using hu) (by simpa using hu2) fun h' z' TO' h1' h2' hT hsz hk => ?_
    refine ⟨_, rfl, wpAny_letOwnedTupleGo_zip (s := { s with heap := h' }) z' fun h'' z'' sb => ?_⟩
    have hT2 := (sb.2 s.heap.objs.size (Nat.ne_of_gt hzl)).trans hT
    have new : ObjOk X.prog X.w (upd H s.heap.objs.size (.frz { cls := .type "tuple", data := .seq #[u, u2] } (.tup [x, y]))) h'' s.heap.objs.size (.frz { cls := .type "tuple", data := .seq #[u, u2] } (.tup [x, y])) :=
      ⟨hT2, by show 2 ≤ sizeLine; exact two_le, [u, u2], .cons ru (.cons ru2 .nil), ⟨_, hT2, rfl, _, rfl⟩⟩
    have I1 : L2.Inv X pins σ (upd H s.heap.objs.size (.frz { cls := .type "tuple", data := .seq #[u, u2] } (.tup [x, y]))) { s with heap := h'' } :=
      I.turnedNew (t' := s.toks) (ch := [z, TI, TO, i1, i2]) (fun c o hb q => (sb.2 c (fun e => hb (by simp [e]))).trans (hk c o (fun e => hb (by simp [e])) (fun e => hb (by simp [e])) (fun e => hb (by simp [e])) (fun e => hb (by simp [e])) q)) hf (Nat.le_refl _) new
    refine ⟨.ref s.heap.objs.size, _, I1, rfl, ⟨_, x, y, _, rfl, I.hok.fresh (Nat.le_refl _), ⟨rfl, rfl⟩, rfl, fun l hl => by rw [I.tuple_inj hl hqx]; exact hx, fun l hl => by rw [I.tuple_inj hl hqy]; exact hy⟩, ⟨z'', ?_, ⟨u, u2, ?_⟩, ?_, ?_⟩, fun c hcm => ?_⟩
    · exact (sb.2 _ Dz.TIz).trans (hk _ _ Dz.TIz Dz.TITO Dz.TIi1 Dz.TIi2 hTI)
    · exact (sb.2 _ Dz.TOz).trans TO'
    · exact h1'.at (fun o q => (sb.2 _ Dz.i1z).trans q)
    · exact h2'.at (fun o q => (sb.2 _ Dz.i2z).trans q)
    · have hlt : c < s.heap.objs.size := by
        have e0 : c = z ∨ c = TI ∨ c = TO ∨ c = i1 ∨ c = i2 := by simpa using hcm
        rcases e0 with rfl | rfl | rfl | rfl | rfl
        · exact hzl
        · exact Heap.lt_size hTI
        · exact Heap.lt_size hTO
        · obtain ⟨_, e1, _⟩ := k1; exact Heap.lt_size e1
        · obtain ⟨_, e2, _⟩ := k2; exact Heap.lt_size e2
      rw [upd_ne (Nat.ne_of_lt hlt)]
      exact (hf c hcm).1
  done := by
    intro X hP hw hK hc i pins s σ H E I hf st hg
    subst hP hw hK
    obtain ⟨hz, hTI, ⟨x0, y0, hTO⟩, k1, k2⟩ := st
    obtain ⟨xs, ys, hqx, hqy, hend⟩ := hg
    obtain ⟨its, rv, p, _⟩ := I.tuple hqx
    obtain ⟨its2, rv2, p2, _⟩ := I.tuple hqy
    have l1 := rv.length
    have l2 := rv2.length
    have he : its.toArray[i]? = none ∨ its2.toArray[i]? = none := hend.imp (fun q => by simp; omega) fun q => by simp; omega
    exact RZ.pyNext_zipT_end (I.ok.hd hc) Dz hz hTI hTO k1 k2 p p2 he fun h' hk => ⟨rfl, I.turnedL (t' := s.toks) (ch := [z, TI, TO, i1, i2]) (fun c o hb q =>
      hk c o (fun e => hb (by simp [e])) (fun e => hb (by simp [e])) (fun e => hb (by simp [e])) (fun e => hb (by simp [e])) q) hf⟩
  self := fun A i s Q E st h => wpAny_pyIter_zip st.1 h
def fZip (f g : Env → Option D) : Env → Option (List D) := fun env => (f env).bind fun d => (g env).bind fun e => match d, e with
  | .tuple xs, .tuple ys => some (zipD xs ys)
  | .list xs, .list ys => some (zipD xs ys)
  | _, _ => none
section
variable {X : Cx}
theorem i_zip {e e2 : Expr} {f g : Env → Option D} {p pos tpos : Pos} {elts : List Expr} {kk : Nat} (hg : Gl X "zip") (hm : X.mg "zip" = none) (ha : PE X e (tD X.K f)) (hb : PE X e2 (tD X.K g))
    (hs : starEach [e, e2] X.env = (false, eval e X.env) :: starEach [e2] X.env := by rfl) (hs2 : starEach [e2] X.env = (false, eval e2 X.env) :: starEach [] X.env := by rfl) (hpl : (backTo pos (starEach [e2] X.env)).any (·.1) = false := by rfl) :
    PI X (.Tuple elts kk tpos) (.Call (.Name "zip" p) [e, e2] [] pos) (tI X.K (fZip f g)) :=
  ⟨fun pins s σ H R I ⟨H0, G0, G, env, ds, r, ef, q⟩ => by
    unfold fZip at ef
    cases e1 : f env with
    | none => rw [e1] at ef; cases ef
    | some da =>
      cases e2' : g env with
      | none => rw [e1, e2'] at ef; cases ef
      | some db =>
        rw [e1, e2', Option.bind_some, Option.bind_some] at ef
        refine Call_ (ld_blt I hg hm PyProof.Rows.boot_zip (PyProof.Rows.callWith_type1 (thn ((a_cons ha (a_cons hb a_nil hs2) hs).run pos pins s σ H (fun vs H1 => ∃ v v2 G1, vs = [v, v2] ∧ Ex H G H1 G1 ∧ Dv X.K G1 da v ∧ Dv X.K G1 db v2) I
          ⟨H0, G0, G, env, [da, db], r, by simp only [fCons, fNil, e1, e2', Option.bind_some], fun vs H1 G1 x1 hv => ?_⟩) fun us s1 ⟨vs, H1, I1, r1, v, v2, G1, ev, x1, hv, hv2⟩ => ?_) hs hpl))
        · obtain ⟨v, r', rfl, h1, h2⟩ := hv.inv
          obtain ⟨v2, r2, rfl, h3, h4⟩ := h2.inv
          have := h4.inv_nil
          subst this
          exact ⟨v, v2, G1, rfl, x1, h1, h3⟩
        subst ev
        cases r1 with
        | cons ra rr =>
        cases rr with
        | cons rb rr =>
        cases rr
        have fresh5 : ∀ c, c ∈ [s1.heap.objs.size + 4, s1.heap.objs.size + 2, s1.heap.objs.size + 3, s1.heap.objs.size, s1.heap.objs.size + 1] → FpOk X pins H1 c := fun c hcm => by
          have e0 : c = s1.heap.objs.size + 4 ∨ c = s1.heap.objs.size + 2 ∨ c = s1.heap.objs.size + 3 ∨ c = s1.heap.objs.size ∨ c = s1.heap.objs.size + 1 := by simpa using hcm
          have hle : s1.heap.objs.size ≤ c := by
            rcases e0 with z | z | z | z | z <;> rw [z] <;> first | exact Nat.le_refl _ | exact Nat.le_add_right _ _
          exact I1.fpOk hle (I1.hok.fresh hle)
        have fin : ∀ (xs ys : List D) (vs ws : List V), DvAll X.K G1 xs vs → DvAll X.K G1 ys ws → vs.length ≤ sizeLine → (zipD xs ys).length ≤ sizeLine := fun xs ys vs ws h1 h2 hz => by
          rw [zipD_len, ← h1.length]; exact Nat.le_trans (Nat.min_le_left _ _) hz
        have fnd : ∀ {xs ys : List D} {vs ws : List V} {H2 G2 : Hp} (i : Nat) (T : Addr) (o : Obj) (x y : V), DvAll X.K G2 xs vs → DvAll X.K G2 ys ws → Sub G2 H2 → vs[i]? = some x → ws[i]? = some y → H2 T = none → TupO o →
            ∃ d G', (zipD xs ys)[i]? = some d ∧ Ex H2 G2 (upd H2 T (.frz o (.tup [x, y]))) G' ∧ Dv X.K G' d (.ref T) := fun {xs ys vs ws H2 G2} i T o x y h1 h2 sb hx hy hT to => by
          obtain ⟨d1, k1, k2⟩ := h1.getV hx
          obtain ⟨d2, k3, k4⟩ := h2.getV hy
          obtain ⟨x2, hd⟩ := Dv.newT (ds := [d1, d2]) (xs := [x, y]) sb hT to two_le (.cons k2 (.cons k4 .nil))
          exact ⟨_, _, zipD_get _ _ _ _ _ k1 k3, x2, hd⟩
        have bnd : ∀ {xs ys : List D} {vs ws : List V} {i : Nat}, DvAll X.K G1 xs vs → DvAll X.K G1 ys ws → i < (zipD xs ys).length → i < vs.length ∧ i < ws.length := fun {xs ys vs ws i} h1 h2 hi => by
          rw [zipD_len, ← h1.length, ← h2.length] at hi
          omega
        have stp : ∀ {xs ys : List D} {vs ws : List V}, DvAll X.K G1 xs vs → DvAll X.K G1 ys ws → vs.length ≤ (zipD xs ys).length ∨ ws.length ≤ (zipD xs ys).length := fun {xs ys vs ws} h1 h2 => by
          rw [zipD_len, ← h1.length, ← h2.length]
          omega
        cases da with
        | tuple xs =>
          cases db with
          | tuple ys =>
            cases ef
            simp only [Dv] at hv hv2
            obtain ⟨a, vs, rfl, h1, h2, h3⟩ := hv
            obtain ⟨b, ws, rfl, k1, k2, k3⟩ := hv2
            cases ra
            cases rb
            obtain ⟨its, rv, p1, _⟩ := I1.tuple (x1.sub.sqT h1)
            obtain ⟨its2, rv2, p2, _⟩ := I1.tuple (x1.sub.sqT k1)
            obtain ⟨o1, ho1, _⟩ := id p1
            obtain ⟨o2, ho2, _⟩ := id p2
            refine RZ.call_zipT (show s1.heap.IsTuple a its.toArray from p1) (show s1.heap.IsTuple b its2.toArray from p2) fun h' hz hTI hTO m1 m2 hsz hk => wpAny_pyIter_zip hz ?_
            have I2 : L2.Inv X pins σ H1 { s1 with heap := h' } := I1.kept (t' := s1.toks) hk
            refine ⟨s1.heap.objs.size + 4, [s1.heap.objs.size + 4, s1.heap.objs.size + 2, s1.heap.objs.size + 3, s1.heap.objs.size, s1.heap.objs.size + 1], _, _, H1, rfl, I2, turn_zipT (PySem.W.ktu_apart s1.heap.objs.size a b (Heap.lt_size ho1) (Heap.lt_size ho2)), ⟨hz, hTI, ⟨_, _, hTO⟩, m1, m2⟩, fresh5, q _ H1 G1 x1 ⟨fun H2 G2 gr sb => ?_, fin _ _ _ _ h3 k3 h2⟩⟩
            have h4 := sb.sqT (h1.imp (TGh.mono gr) id)
            have k4 := sb.sqT (k1.imp (TGh.mono gr) id)
            refine ⟨fun i hi => ?_, ⟨vs, ws, h4, k4, stp h3 k3⟩, fun i w H3 hi ⟨T, x, y, o, ew, hT, to, eH, hx, hy⟩ => ?_⟩
            · obtain ⟨b1, b2⟩ := bnd h3 k3 hi
              exact ⟨vs, ws, vs[i], ws[i], h4, k4, by simp [b1], by simp [b2]⟩
            · subst ew eH
              exact fnd i T o x y (h3.mono gr) (k3.mono gr) sb (hx vs h4) (hy ws k4) hT to
          | _ => cases ef
        | list xs =>
          cases db with
          | list ys =>
            cases ef
            simp only [Dv] at hv hv2
            obtain ⟨a, vs, rfl, h1, h2, h3⟩ := hv
            obtain ⟨b, ws, rfl, k1, k2, k3⟩ := hv2
            cases ra
            cases rb
            obtain ⟨its, rv, p1, _⟩ := I1.list (x1.sub.sq h1)
            obtain ⟨its2, rv2, p2, _⟩ := I1.list (x1.sub.sq k1)
            refine call_zip_2 p1.isList p2.isList fun h' hz hTI hTO m1 m2 hsz hk => wpAny_pyIter_zip hz ?_
            have I2 : L2.Inv X pins σ H1 { s1 with heap := h' } := I1.kept (t' := s1.toks) hk
            refine ⟨s1.heap.objs.size + 4, [s1.heap.objs.size + 4, s1.heap.objs.size + 2, s1.heap.objs.size + 3, s1.heap.objs.size, s1.heap.objs.size + 1], _, _, H1, rfl, I2, turn_zipL (PySem.W.ktu_apart s1.heap.objs.size a b p1.lt p2.lt), ⟨hz, hTI, ⟨_, _, hTO⟩, m1, m2⟩, fresh5, q _ H1 G1 x1 ⟨fun H2 G2 gr sb => ?_, fin _ _ _ _ h3 k3 h2⟩⟩
            have h4 := sb.sq (h1.imp (LG.mono gr) id)
            have k4 := sb.sq (k1.imp (LG.mono gr) id)
            refine ⟨fun i hi => ?_, ⟨vs, ws, h4, k4, stp h3 k3⟩, fun i w H3 hi ⟨T, x, y, o, ew, hT, to, eH, hx, hy⟩ => ?_⟩
            · obtain ⟨b1, b2⟩ := bnd h3 k3 hi
              exact ⟨vs, ws, vs[i], ws[i], h4, k4, by simp [b1], by simp [b2]⟩
            · subst ew eH
              exact fnd i T o x y (h3.mono gr) (k3.mono gr) sb (hx vs h4) (hy ws k4) hT to
          | _ => cases ef
        | _ => cases ef⟩

/-! ### the keys of a dict -/
/-- what a dict hands out -/
def fKeys (f : Env → Option D) : Env → Option (List D) := fun env => (f env).bind fun d => match d with
  | .dict kvs => if keysOk kvs = true then some (kvs.map (·.1)) else none
  | _ => none
theorem i_keys {tg e : Expr} {f : Env → Option D} (h : PE X e (tD X.K f)) : PI X tg e (tI X.K (fKeys f)) := PI_to (pi_keys h) fun σ H R ⟨H0, G0, G, env, ds, r, ef, q⟩ => by
  unfold fKeys at ef
  cases e1 : f env with
  | none => rw [e1] at ef; cases ef
  | some d =>
    rw [e1, Option.bind_some] at ef
    cases d with
    | dict kvs =>
      have ef' : (if keysOk kvs = true then some (kvs.map (·.1)) else none) = some ds := ef
      split at ef'
      · rename_i ok
        cases ef'
        refine ⟨H0, G0, G, env, _, r, e1, fun v H1 G1 x1 hv => ?_⟩
        simp only [Dv] at hv
        obtain ⟨a, kx, rfl, ⟨o, h1⟩, h2, h3⟩ := hv
        refine ⟨a, o, rfl, .inl ⟨kx, x1.sub _ _ h1, q _ H1 G1 x1 ⟨fun H2 G2 gr sb => ?_, by rw [List.length_map, ← h3.length]; exact h2⟩⟩⟩
        have hl := h3.length
        have h4 := sb _ _ (gr _ _ h1)
        refine ⟨fun i hi => ⟨h4, by rw [hl]; rw [List.length_map] at hi; exact hi⟩, ⟨h4, by rw [List.length_map, hl]; exact Nat.le_refl _⟩, fun i x H3 hi ⟨eH, k, v, hk, ex⟩ => ?_⟩
        subst eH ex
        have hkd := keys_dv ok (h3.mono gr)
        obtain ⟨d, k1, k2⟩ := hkd.getV (i := i) (v := kV k) (by rw [List.getElem?_map, hk]; rfl)
        exact ⟨d, G2, k1, .refl sb, k2⟩
      · cases ef'
    | _ => cases ef

/-! ### dict(pairs) -/
def pairsD : List D → Option (List (Key × D))
  | [] => some []
  | .tuple [k, v] :: r => (toKey k).bind fun key => (pairsD r).map fun l => (key, v) :: l
  | _ => none
def mergeD (kvs : List (D × D)) (more : List (Key × D)) : List (D × D) := more.foldl (fun acc kv => putKV acc kv.1 kv.2) kvs
def dictD (d : D) : Option D := match d with
  | .list xs => (pairsD xs).map fun l => .dict (mergeD [] l)
  | .tuple xs => (pairsD xs).map fun l => .dict (mergeD [] l)
  | _ => none
theorem pairs_at {K : PySem.W.Frag} {G H : Hp} (sb : Sub G H) : ∀ {ds : List D} {l : List (Key × D)} {vs : List V}, pairsD ds = some l → DvAll K G ds vs →
    ∃ (ps : List Addr) (kx : List (Key × V)), vs = ps.map V.ref ∧ Paired (fun p kv => SqT K H p [kV kv.1, kv.2]) ps kx ∧ ∀ {kvs : List (D × D)} {ky : List (Key × V)}, DvKV K G kvs ky → DvKV K G (mergeD kvs l) (mergeK ky kx)
  | [], l, vs, e, h => by
    cases e
    rw [h.inv_nil]
    exact ⟨[], [], rfl, .nil, fun h => h⟩
  | d :: ds, l, vs, e, h => by
    obtain ⟨v, r, rfl, h1, h2⟩ := h.inv
    unfold pairsD at e
    split at e
    · rename_i e0; cases e0
    · rename_i k v' r' e0
      cases e0
      cases e1 : toKey k with
      | none => rw [e1] at e; cases e
      | some key =>
        rw [e1, Option.bind_some] at e
        cases e2 : pairsD ds with
        | none => rw [e2] at e; cases e
        | some l' =>
          rw [e2] at e
          cases e
          obtain ⟨ps, kx, rfl, hp, hm⟩ := pairs_at sb e2 h2
          simp only [Dv] at h1
          obtain ⟨a, xs, rfl, k1, k2, k3⟩ := h1
          obtain ⟨u, r1, rfl, m1, m2⟩ := k3.inv
          obtain ⟨u2, r2, rfl, m3, m4⟩ := m2.inv
          have := m4.inv_nil
          subst this
          have eu : u = kV key := by
            have ek := keyD_of e1
            subst ek
            cases key with
            | inl i => simp only [keyD, Dv] at m1; exact m1
            | inr z => simp only [keyD, Dv] at m1; exact m1.1
          subst eu
          exact ⟨a :: ps, (key, u2) :: kx, rfl, .cons (sb.sqT k1) hp, fun h => hm (h.put m3)⟩
    · cases e
theorem pairs_values {pins : List (Addr × Obj)} {σ : L2.St} {H : Hp} {s : Shared} (I : L2.Inv X pins σ H s) : ∀ {ps : List Addr} {kx : List (Key × V)}, Paired (fun p kv => SqT X.K H p [kV kv.1, kv.2]) ps kx →
    ∃ prs : List (Key × Value), KV kx prs ∧ ∃ us : List Value, us.length = prs.length ∧ prs.length = ps.length ∧ ∀ (j : Nat) (u v : Value), (us.zip (prs.map (·.2)))[j]? = some (u, v) → ∃ (b : Addr) (k : Key), ps[j]? = some b ∧ prs[j]? = some (k, v) ∧ IsTup s.heap b #[u, v] ∧ keyIs k u = true
  | _, _, .nil => ⟨[], .nil, [], rfl, rfl, fun j u v e => by simp at e⟩
  | _, _, .cons (a := p) (b := kv) h t => by
    obtain ⟨prs, rl, us, l1, l2, hp⟩ := pairs_values I t
    obtain ⟨its, rv, ht, _⟩ := I.tuple h
    obtain ⟨u, y, ei, ru, ry⟩ := vals2 rv
    subst ei
    refine ⟨(kv.1, y) :: prs, .cons ⟨rfl, ry⟩ rl, u :: us, by simp [l1], by simp [l2], fun j u' v' e => ?_⟩
    cases j with
    | zero =>
      simp at e
      obtain ⟨rfl, rfl⟩ := e
      exact ⟨p, kv.1, rfl, rfl, ht, kV_is (P := X.prog) (w := X.w) ru⟩
    | succ j =>
      obtain ⟨b, k, k1, k2, k3, k4⟩ := hp j u' v' (by simpa using e)
      exact ⟨b, k, by simpa using k1, by simpa using k2, k3, k4⟩
theorem lift_dict {pins : List (Addr × Obj)} {σ : L2.St} {H G : Hp} {s : Shared} {T : String} {a : Addr} {items : Array Value} {ps : List Addr} {kx : List (Key × V)} {Q : VK} (hcalm : X.calm = true) (I : L2.Inv X pins σ H s) (hT : T = "list" ∨ T = "tuple")
    (ho : PlainSeq T s.heap a items) (hi : items.toList = ps.map Value.ref) (hp : Paired (fun p kv => SqT X.K H p [kV kv.1, kv.2]) ps kx) (hz : ps.length ≤ sizeLine) (q : ∀ p, H p = none → Q (.ref p) (upd H p (.dK (mergeK [] kx)))) :
    wpAny (model X.prog X.w) X.A (call (.type "dict") [.ref a]) (EP X pins σ Q) X.xe s := by
  obtain ⟨prs, rl, us, l1, l2, hat⟩ := pairs_values I hp
  have hlen : (mergeK [] kx).length ≤ sizeLine := by
    refine Nat.le_trans (length_mergeK kx []) ?_
    rw [List.length_nil, Nat.zero_add, rl.length, l2]
    exact hz
  have hsz : (us.zip (prs.map (·.2))).length = ps.length := by rw [List.length_zip, List.length_map]; omega
  have hpi : PairItems s.heap items (fun j => (ps[j]?).getD 0) (us.zip (prs.map (·.2))) := by
    have hs : items.size = ps.length := by rw [← Array.length_toList, hi, List.length_map]
    refine ⟨by rw [hs, hsz], fun j k v e => ?_⟩
    obtain ⟨b, key, k1, k2, k3, k4⟩ := hat j k v e
    show items[j]? = some (.ref ((ps[j]?).getD 0)) ∧ _
    rw [k1]
    refine ⟨?_, .inl (by show s.heap.IsTuple ((ps[j]?).getD 0) _; rw [k1]; exact k3)⟩
    rw [← Array.getElem?_toList, hi, List.getElem?_map, k1]; rfl
  have hhave : PairsHave (mixKind X.prog X.w) (us.zip (prs.map (·.2))).length (PairRel (us.zip (prs.map (·.2)))) prs := by
    refine ⟨by rw [hsz, l2], fun i key v e => ?_⟩
    obtain ⟨b, k, k1, k2, k3, k4⟩ := hat i key v e
    exact ⟨k, k2, k4⟩
  have fin : ∀ h' tk, h'.DictOf (mixKind X.prog X.w) s.heap.objs.size (merged [] prs) → (∀ b o, b ∉ ([] : List Addr) → s.heap.get? b = some o → h'.get? b = some o) → EP X pins σ Q (.ref s.heap.objs.size) { s with heap := h', toks := tk } := fun h' tk hd hk => by
    have hmod : (s.heap.objs.size == sysModules) = false := beq_eq_false_iff_ne.mpr (Nat.ne_of_gt I.big)
    exact ⟨.ref s.heap.objs.size, upd H s.heap.objs.size (.dK (mergeK [] kx)), I.laid (t' := tk) (fun b o e => hk b o (by simp) e) (Nat.le_refl _) (show ObjOk X.prog X.w _ _ _ (.dK (mergeK [] kx)) from ⟨hlen, hmod, merged [] prs, KV.merge rl .nil, hd⟩), rfl, q _ (I.hok.fresh (Nat.le_refl _))⟩
  rcases hT with rfl | rfl
  · exact PySem.call_dict_pairs (PairArg.list a items _ _) (I.ok.hd hcalm) ⟨ho, hpi⟩ hhave (by rw [hsz]; exact hz) fin
  · exact PySem.call_dict_pairs (PairArg.tuple a items _ _) (I.ok.hd hcalm) ⟨ho, hpi⟩ hhave (by rw [hsz]; exact hz) fin
end
end PD

/-! THE DATA LAYER 10: dict(pairs), d.get; list + list, times. -/
namespace PD
open PySem PySem.Spec PyProof.Rows L2
section
variable {X : Cx} {pins : List (Addr × Obj)} {σ : L2.St} {H G : Hp} {s : Shared}
/-- a tuple of ours is a plain one -/
theorem tup_at (I : L2.Inv X pins σ H s) (sb : Sub G H) {a : Addr} {xs : List V} (h : TGh G a xs ∨ TK X.K a xs) : ∃ its : List Value, Vals xs its ∧ PlainSeq "tuple" s.heap a its.toArray := by
  rcases h with ⟨o, hg, to⟩ | ⟨o, its, n, hk, to, hd, _, r⟩
  · obtain ⟨ho, z, its, r, ⟨o', ho', _, n, hd⟩⟩ := I.hok a _ (sb _ _ hg)
    rw [ho] at ho'
    cases ho'
    exact ⟨its, r, o, n, ho, to.1, to.2, hd⟩
  · exact ⟨its.toList, r, o, n, I.kIn a o hk, to.1, to.2, by simpa using hd⟩
theorem c_dict (hc : X.calm = true) : CallR X (.type "dict") (rC1F X.K dictD) := by
  intro pins s σ H vs us Q I rv ⟨G, x, dx, d, ex, sb, hx, e, q⟩
  subst ex
  obtain ⟨u, rfl, rx⟩ := vals1 rv
  have fin : ∀ {T : String} {a : Addr} {items : Array Value} {xs : List D} {ws : List V} {its : List Value}, T = "list" ∨ T = "tuple" → (pairsD xs).map (fun l => PyData.dict (mergeD [] l)) = some d → DvAll X.K G xs ws → Vals ws its → PlainSeq T s.heap a its.toArray → ws.length ≤ sizeLine →
      wpAny (model X.prog X.w) X.A (call (.type "dict") [.ref a]) (EP X pins σ Q) X.xe s := fun {T a items xs ws its} hT e hd rw' hp hz => by
    cases e1 : pairsD xs with
    | none => rw [e1] at e; cases e
    | some l =>
      rw [e1] at e
      cases e
      obtain ⟨ps, kx, rfl, hpp, hm⟩ := pairs_at sb e1 hd
      rw [List.length_map] at hz
      have hl : kx.length = ps.length := by rw [Paired.length hpp]
      refine lift_dict (G := G) hc I hT hp (by rw [refs_at rw']) hpp hz fun p np => q p _ G (.out sb np) np (sb.free np) ⟨_, upd_same, ?_, hm .nil⟩
      refine Nat.le_trans (length_mergeK kx []) ?_
      rw [List.length_nil, Nat.zero_add, hl]
      exact hz
  cases dx with
  | list xs =>
    obtain ⟨a, ws, rfl, h1, h2, h3⟩ := hx
    cases rx
    obtain ⟨its, r', ⟨o, n, ho, hcl, hdn, hd⟩, _⟩ := I.list h1
    exact fin (items := its.toArray) (.inl rfl) e h3 r' ⟨o, n, ho, hcl, hdn, hd⟩ h2
  | tuple xs =>
    obtain ⟨a, ws, rfl, h1, h2, h3⟩ := hx.tup
    cases rx
    obtain ⟨its, r', hp⟩ := tup_at I sb h1
    exact fin (items := its.toArray) (.inr rfl) e h3 r' hp h2
  | _ => cases e
end
/-! ### d.get -/
def getD2 (d k : D) (e : D) : Option D := match d with
  | .dict kvs => (toKey k).map fun key => (getKV kvs key).getD e
  | _ => none
def fGet2 (f g h : Env → Option D) : Env → Option D := fun env => (f env).bind fun d => (g env).bind fun k => (h env).bind fun e => getD2 d k e
section
variable {X : Cx} {o e e2 : Expr} {apos cpos pos : Pos} {f g h : Env → Option D}
theorem sh_dict_is {K : PySem.W.Frag} {H G : Hp} {kvs : List (D × D)} {v : V} (h : Sh K H G (.dict kvs) v) : ∃ a kx, v = .ref a ∧ Rd H a (.dK kx) ∧ kx.length ≤ sizeLine ∧ DvKV K G kvs kx := h
theorem e_get2 (hu : X.A.units + 1 < cLine) (ho : PE X o (tW X.K f)) (he : PE X e (tD X.K g)) (hf : PE X e2 (tD X.K h)) (m : M2 X o "get" apos e e2 cpos) : PE X (.Call (.Attribute o "get" apos) [e, e2] [] cpos) (tD X.K (fGet2 f g h)) :=
  PE.to (pe_dget2 hu ho he hf m) fun σ H Q ⟨H0, G0, G, env, d, r, ef, q⟩ => by
    unfold fGet2 at ef
    cases e1 : f env with
    | none => rw [e1] at ef; cases ef
    | some dd =>
      cases e2 : g env with
      | none => rw [e1, e2] at ef; cases ef
      | some dk =>
        cases e3 : h env with
        | none => rw [e1, e2, e3] at ef; cases ef
        | some de =>
          rw [e1, e2, e3, Option.bind_some, Option.bind_some, Option.bind_some] at ef
          cases dd with
          | dict kvs =>
            have ef' : (toKey dk).map (fun key => (getKV kvs key).getD de) = some d := ef
            cases e4 : toKey dk with
            | none => rw [e4] at ef'; cases ef'
            | some key =>
              rw [e4] at ef'
              cases ef'
              refine ⟨H0, G0, G, env, _, r, e1, fun v H1 G1 x1 hv => ?_⟩
              obtain ⟨a, kx, rfl, h1, h2, h3⟩ := sh_dict_is hv
              refine ⟨a, rfl, .inl ⟨kx, h1⟩, H0, G0, G1, env, _, r.next x1, e2, fun w H2 G2 x2 hw => ⟨H0, G0, G2, env, _, (r.next x1).next x2, e3, fun z H3 G3 x3 hz => ?_⟩⟩
              have ew : w = kV key := by
                have ek := keyD_of e4
                subst ek
                cases key with
                | inl i => simp only [keyD, Dv] at hw; exact hw
                | inr z => simp only [keyD, Dv] at hw; exact hw.1
              subst ew
              have x23 := x2.trans x3
              refine ⟨valV kx key, .inl ⟨kx, key, x23.same.rd h1, rfl, rfl⟩, q _ H3 G3 (x1.trans x23) ?_⟩
              have hm := (h3.mono x23.gr).get key
              cases e5 : getKV kvs key with
              | none =>
                show Dv X.K G3 ((getKV kvs key).getD de) _
                rw [hm.2 e5, e5]; exact hz
              | some dv =>
                obtain ⟨v', e6, hv'⟩ := hm.1 dv e5
                show Dv X.K G3 ((getKV kvs key).getD de) _
                rw [e6, e5]; exact hv'
          | _ => cases ef

/-! ### list + list: a new list -/
def rD2F (K : PySem.W.Frag) (g : D → D → Option D) : R2 := fun x y H Q => ∃ G dx dy d, Sub G H ∧ Sh K H G dx x ∧ Sh K H G dy y ∧ g dx dy = some d ∧ ∀ a H' G', Ex H G H' G' → H a = none → G' a = none → Own K H' G' a d → Q (.ref a) H'
theorem f_op {op : Operator} {gg : D → D → Option D} (hop : OpR X (binaryOp op) (rD2F X.K gg)) (ha : PE X o (tW X.K f)) (hb : PE X e (tW X.K g)) : PE X (.BinOp o op e pos) (tF X.K (f2 gg f g)) :=
  PE.to (pe_op hop ha hb) fun σ H Q ⟨H0, G0, G, env, d, r, ef, q⟩ => by
    unfold f2 at ef
    cases e1 : f env with
    | none => rw [e1] at ef; cases ef
    | some dx =>
      cases e2 : g env with
      | none => rw [e1, e2] at ef; cases ef
      | some dy =>
        rw [e1, e2] at ef
        refine ⟨H0, G0, G, env, dx, r, e1, fun x H1 G1 x1 hx => ⟨H0, G0, G1, env, dy, r.next x1, e2, fun y H2 G2 x2 hy => ?_⟩⟩
        exact ⟨G2, dx, dy, d, x2.sub, hx.ex x2, hy, ef, fun a H' G' x3 n n' ow => q a H' G' (x1.trans (x2.trans x3)) ((x1.trans x2).same.free n) n' ow⟩
def catD (d e : D) : Option D := match d, e with
  | .list xs, .list ys => if xs.length + ys.length ≤ sizeLine then some (.list (xs ++ ys)) else none
  | _, _ => none
theorem o_catL : OpR X (binaryOp .Add) (rD2F X.K catD) := by
  intro pins s σ H x y v u Q I rx ry ⟨G, dx, dy, d, sb, hx, hy, e, q⟩
  unfold catD at e
  split at e
  · rename_i xs ys
    split at e
    · rename_i hl
      cases e
      obtain ⟨a, vs, rfl, h1, h2, h3⟩ := hx
      obtain ⟨b, ws, rfl, k1, k2, k3⟩ := hy
      cases rx
      cases ry
      obtain ⟨its, r1, ⟨⟨c1, dd1, dt1, sl1⟩, n1, ho1, hc1, hn1, hd1⟩, _⟩ := I.list h1
      obtain ⟨its2, r2, ⟨⟨c2, dd2, dt2, sl2⟩, n2, ho2, hc2, hn2, hd2⟩, _⟩ := I.list k1
      simp only at hc1 hd1 hc2 hd2
      subst hc1 hd1 hc2 hd2
      have hz : its.toArray.size + its2.toArray.size ≤ sizeLine := by rw [List.size_toArray, List.size_toArray, ← r1.length, ← r2.length, h3.length, k3.length]; exact hl
      refine concat_meets ⟨_, ho1, rfl⟩ ⟨_, ho2, rfl⟩ noFill_list_add seq_list_add PySem.F.slot_list_add PySem.F.entry_list_add (PySem.F.args_list_add_2 _ _) (list_addW a b its.toArray its2.toArray n1 n2 dd1 dd2 sl1 sl2 hz) ⟨ho1, ho2, ?_⟩
      have eq : its.toArray ++ its2.toArray = (its ++ its2).toArray := by simp
      rw [eq]
      have nf := I.hok.fresh (Nat.le_refl s.heap.objs.size)
      have hlen : (vs ++ ws).length ≤ sizeLine := by rw [List.length_append, h3.length, k3.length]; exact hl
      refine ⟨.ref s.heap.objs.size, _, I.laid (t' := s.toks) (o := .lst (vs ++ ws)) (fun b ob z => Heap.get?_push_of_some _ z) (Nat.le_refl _) ?_, rfl, q _ _ G (.out sb nf) nf (sb.free nf) ⟨_, upd_same, hlen, h3.append k3⟩⟩
      exact ⟨hlen, _, 0, r1.append r2, Heap.get?_push_size _ rfl⟩
    · cases e
  · cases e
/-! ### times: numbers; a tuple none, once, some times -/
def timesD (d e : D) : Option D := match d, e with
  | .int i, .int j => mulD (.int i) (.int j)
  | .tuple xs, .int k => if 0 ≤ k ∧ k ≤ 1000 ∧ xs.length ≤ 1000 ∧ 0 < xs.length then some (.tuple (List.replicate k.toNat xs).flatten) else none
  | _, _ => none
theorem tup_mul1 (l : Addr) (items : Array Value) (n : Nat) (dd : Option Addr) (sl : Array (Option Value)) (u : Tok) :
    Meets (Builtin.«tuple.__mul__» ⟨[.ref l, .int 1 u], []⟩) (fun _ R s => s.heap.get? l = some { cls := .type "tuple", dict := dd, data := .seq items n, slots := sl } ∧ R (.ok (.ret (Value.ref l))) s) :=
  .of_wp fun prog w A R s hq => by
    obtain ⟨hp, g, d, tk, os⟩ := s
    obtain ⟨hl, hq⟩ := hq
    have f1 := AutoSeq1.idx_int
    have c1 : (items.isEmpty || (1 : Int) == 1) = true := by simp
    wp_walk using wpAny_loadPart' hl
    repeat (first
      | (refine wpAny_ite_true (decide_eq_true (by rw [c1])) ?_; wp_walk using wpAny_loadPart' hl))
    exact ⟨_, rfl, hq⟩
theorem tup_mul0 (l : Addr) (items : Array Value) (n : Nat) (dd : Option Addr) (sl : Array (Option Value)) (u : Tok) (hne : items.isEmpty = false) :
    Meets (Builtin.«tuple.__mul__» ⟨[.ref l, .int 0 u], []⟩) (fun _ R s => s.heap.get? l = some { cls := .type "tuple", dict := dd, data := .seq items n, slots := sl } ∧ R (.ok (.ret (Value.ref s.heap.objs.size))) { s with heap := s.heap.push { cls := .type "tuple", data := .seq #[] }, toks := s.toks }) :=
  .of_wp fun prog w A R s hq => by
    obtain ⟨hp, g, d, tk, os⟩ := s
    obtain ⟨hl, hq⟩ := hq
    have f1 := AutoSeq1.idx_int
    have c1 : (items.isEmpty || (0 : Int) == 1) = false := by rw [hne]; rfl
    wp_walk using wpAny_loadPart' hl
    exact ⟨_, rfl, hq⟩
theorem o_mul : OpR X (binaryOp .Mult) (rD2 X.K timesD) := by
  intro pins s σ H x y v u Q I rx ry ⟨G, dx, dy, d, sb, hx, hy, e, q⟩
  unfold timesD at e
  split at e
  · rename_i i j
    unfold mulD at e
    dsimp only at e
    split at e
    · rename_i hc
      cases e; rw [hx.int] at rx; rw [hy.int] at ry
      exact op_mul pins s σ H _ _ v u Q I rx ry ⟨_, _, rfl, rfl, hc, q _ _ _ (.refl sb) .int⟩
    · cases e
  · rename_i xs k
    split at e
    · rename_i hk
      obtain ⟨k0, k1, z1, z0⟩ := hk
      cases e
      have hx0 := hx
      rw [hy.int] at ry
      obtain ⟨t, rfl⟩ := ry
      obtain ⟨l, vs, rfl, h1, h2, h3⟩ := hx.tup
      cases rx
      obtain ⟨its, r, ⟨cls, dd, data, sl⟩, n, ho, hc, hdn, hd⟩ := tup_at I sb h1
      simp only at hc hd
      subst hc hd
      have hle : its.length = xs.length := by rw [← r.length, h3.length]
      have hie : its.toArray.isEmpty = false := by
        cases its with
        | nil => simp at hle; omega
        | cons a b => rfl
      refine wpAny_binaryOp_repeat_ref (T := "tuple") (U := "int") (by decide) ⟨_, ho, rfl⟩ (fun s' => typeIs_int s' k t) noFill_tuple_mul F.fills_int_mul F.slot_int_rmul repeat_tuple F.slot_int_index.lookup
        (call_meets F.slot_int_rmul (typeIs_int s k t) F.entry_int_rmul (F.args_int_rmul_2 _ _) (int_rmul_tuple k t l its.toArray n dd sl) ⟨ho, rfl, ⟨_, ho, rfl⟩, ?_⟩)
      have nf := I.hok.fresh (Nat.le_refl s.heap.objs.size)
      by_cases e1 : k = 1
      · subst e1
        refine call_meets F.slot_tuple_mul ⟨_, ho, rfl⟩ F.entry_tuple_mul (F.args_tuple_mul_2 _ _) (tup_mul1 l its.toArray n dd sl t) ⟨ho, ?_⟩
        refine ⟨.ref l, H, I, rfl, q _ _ _ (.refl sb) ?_⟩
        have ef : (List.replicate (1 : Int).toNat xs).flatten = xs := by
          show (List.replicate 1 xs).flatten = xs
          simp
        rw [ef]; exact hx0
      by_cases e0 : k = 0
      · subst e0
        refine call_meets F.slot_tuple_mul ⟨_, ho, rfl⟩ F.entry_tuple_mul (F.args_tuple_mul_2 _ _) (tup_mul0 l its.toArray n dd sl t hie) ⟨ho, ?_⟩
        have to : TupO { cls := .type "tuple", data := .seq #[] } := ⟨rfl, rfl⟩
        obtain ⟨x2, hdv⟩ := Dv.newT (K := X.K) (ds := []) (xs := []) sb nf to (Nat.zero_le _) .nil
        refine ⟨.ref s.heap.objs.size, _, I.laid (t' := s.toks) (o := .frz { cls := .type "tuple", data := .seq #[] } (.tup [])) (fun b ob z => Heap.get?_push_of_some _ z) (Nat.le_refl _) ?_, rfl, q _ _ _ x2 hdv⟩
        exact ⟨Heap.get?_push_size _ rfl, Nat.zero_le _, [], .nil, ⟨_, Heap.get?_push_size _ rfl, rfl, _, rfl⟩⟩
      have hsz0 : its.toArray.size = xs.length := by rw [List.size_toArray, hle]
      have hm : ((its.toArray.size : Nat) : Int) * k ≤ 1000000 := by
        rw [hsz0]
        have a1 : ((xs.length : Nat) : Int) * k ≤ 1000 * k := Int.mul_le_mul_of_nonneg_right (by omega) (by omega)
        omega
      have hb : k.toNat * xs.length ≤ 1000000 := by
        have a1 : k.toNat * xs.length ≤ 1000 * 1000 := Nat.mul_le_mul (by omega) z1
        omega
      have c0 : (decide (k < -(2 ^ 63)) || decide (k ≥ 2 ^ 63)) = false := by rw [Bool.or_eq_false_iff]; exact ⟨decide_eq_false (by omega), decide_eq_false (by omega)⟩
      have c1 : (its.toArray.isEmpty || k == 1) = false := by rw [hie, Bool.false_or]; exact beq_eq_false_iff_ne.mpr e1
      have c2 : (decide (k ≤ 0) || its.toArray.isEmpty) = false := by rw [hie, Bool.or_false]; exact decide_eq_false (by omega)
      have c4 : Builtin.Tuple.tupleTooMany (((its.toArray.size : Nat) : Int) * k) = false := by
        unfold Builtin.Tuple.tupleTooMany
        rw [sizeLine_eq]; exact decide_eq_false (by omega)
      have fl : (List.replicate k.toNat its).flatten.length ≤ sizeLine := by rw [PyProof.Rows.lm_len_rep_flat, hle, sizeLine_eq]; omega
      refine call_meets F.slot_tuple_mul ⟨_, ho, rfl⟩ F.entry_tuple_mul (F.args_tuple_mul_2 _ _) (tuple_mulW l its.toArray n dd sl k t c0 c1 c2 (by omega) c4 (by rw [size_rep, List.size_toArray]; exact fl)) ⟨ho, ?_⟩
      rw [size_rep]
      have to : TupO { cls := .type "tuple", data := .seq (List.replicate k.toNat its).flatten.toArray } := ⟨rfl, rfl⟩
      have zl : (List.replicate k.toNat vs).flatten.length ≤ sizeLine := by rw [PyProof.Rows.lm_len_rep_flat, h3.length, sizeLine_eq]; omega
      obtain ⟨x2, hdv⟩ := Dv.newT (K := X.K) sb nf to zl (h3.flatRep k.toNat)
      refine ⟨.ref s.heap.objs.size, _, I.laid (t' := s.toks) (o := .frz { cls := .type "tuple", data := .seq (List.replicate k.toNat its).flatten.toArray } (.tup (List.replicate k.toNat vs).flatten)) (fun b ob z => Heap.get?_push_of_some _ z) (Nat.le_refl _) ?_, rfl, q _ _ _ x2 hdv⟩
      exact ⟨Heap.get?_push_size _ rfl, zl, _, r.rep k.toNat, ⟨_, Heap.get?_push_size _ rfl, rfl, _, rfl⟩⟩
    · cases e
  · cases e
end
end PD

/-! THE DATA LAYER 11: name = [..] of a comprehension. -/
namespace PD
open PySem PySem.Spec PyProof.Rows L2
section
variable {X : Cx} {i : Nat} {y : Str} {py : Pos} {elt tg iter : Expr} {ifs : List Expr} {scope : Scope} {own : List (Str × Nat)} {pos spos : Pos} {fi : Env → Option (List D)} {t : D → Env → Option Env} {tt : Env → Option Bool} {te : Env → Option D}
/-- a new list, frozen without a lock -/
theorem tF_list {f : Env → Option D} {K : PySem.W.Frag} {σ : L2.St} {H : Hp} {Q : VK} (hf : ∀ env d, f env = some d → ∃ ds, d = .list ds) (h : tD K f σ H Q) : tF K f σ H Q := by
  obtain ⟨H0, G0, G, env, d, r, ef, q⟩ := h
  refine ⟨H0, G0, G, env, d, r, ef, fun a H' G' x n g ow => ?_⟩
  obtain ⟨ds, rfl⟩ := hf env d ef
  obtain ⟨xs, h1, h2, h3⟩ := ow
  have gr : Gr G' (upd G' a (.lst xs)) := fun b u hb => by rw [upd_ne (fun e => by subst e; rw [g] at hb; cases hb)]; exact hb
  refine q (.ref a) H' (upd G' a (.lst xs)) ⟨x.same, x.gr.trans gr, fun b w hb => ?_, fun b hb => ?_⟩ (.lst upd_same h2 (h3.mono gr))
  · by_cases e : b = a
    · subst e; rw [upd_same] at hb; cases hb; exact h1
    · rw [upd_ne e] at hb; exact x.sub b w hb
  · rw [upd_ne (fun e => by subst e; exact hb n)]; exact x.old b hb
theorem fLc_list {vs : List Nat} {env : Env} {d : D} (h : fLc fi vs t tt te env = some d) : ∃ ds, d = .list ds := by
  unfold fLc at h
  cases e1 : fi env with
  | none => rw [e1] at h; cases h
  | some ds =>
    rw [e1, Option.bind_some] at h
    cases e2 : compL t tt te (wipeE env vs) ds with
    | none => rw [e2] at h; cases h
    | some out => rw [e2] at h; cases h; exact ⟨out, rfl⟩
theorem s_ownLc (hc : X.calm = true) (hN : X.N.Nodup) (hy : X.N[i]? = some y) (hyl : X.env.scope.names.lookup y = some .local)
    (hsw : swapsWith (.ListComp elt [⟨tg, iter, ifs, 0⟩] scope pos) (some (.Name y py)) spos.line X.env = pure true) (hi : PI X tg iter (tIh X.K fi)) (ok : BlkOk X.N X.env.scope scope own)
    (hg : ∀ (s : Shared) (H : Hp) (C : Addr) (cl : List (Str × Addr)) (fp : List Addr), PG (X.blk s H scope (compEnvC scope cl C X.env) fp) tg (gD X.K (own.map (·.2)) t)) (ht : ∀ (s : Shared) (H : Hp) (C : Addr) (cl : List (Str × Addr)) (fp : List Addr), PTs (X.blk s H scope (compEnvC scope cl C X.env) fp) ifs (tT X.K tt))
    (he : ∀ (s : Shared) (H : Hp) (C : Addr) (cl : List (Str × Addr)) (fp : List Addr), PE (X.blk s H scope (compEnvC scope cl C X.env) fp) elt (tD X.K te)) (hs : ∀ x, foldedSetIterable iter X.env x = pure x := by intro _; rfl) :
    PS X (.Assign [.Name y py] (.ListComp elt [⟨tg, iter, ifs, 0⟩] scope pos) spos) (sD X.K (qOwn i (fLc fi (own.map (·.2)) t tt te))) :=
  PS.to (ps_setLc hc hN hy hyl hsw hi ok hg ht he hs) fun C σ H q => lc_to (own_to q)
theorem s_setLc (hc : X.calm = true) (hN : X.N.Nodup) (hy : X.N[i]? = some y) (hyl : X.env.scope.names.lookup y = some .local)
    (hsw : swapsWith (.ListComp elt [⟨tg, iter, ifs, 0⟩] scope pos) (some (.Name y py)) spos.line X.env = pure true) (hi : PI X tg iter (tIh X.K fi)) (ok : BlkOk X.N X.env.scope scope own)
    (hg : ∀ (s : Shared) (H : Hp) (C : Addr) (cl : List (Str × Addr)) (fp : List Addr), PG (X.blk s H scope (compEnvC scope cl C X.env) fp) tg (gD X.K (own.map (·.2)) t)) (ht : ∀ (s : Shared) (H : Hp) (C : Addr) (cl : List (Str × Addr)) (fp : List Addr), PTs (X.blk s H scope (compEnvC scope cl C X.env) fp) ifs (tT X.K tt))
    (he : ∀ (s : Shared) (H : Hp) (C : Addr) (cl : List (Str × Addr)) (fp : List Addr), PE (X.blk s H scope (compEnvC scope cl C X.env) fp) elt (tD X.K te)) (hs : ∀ x, foldedSetIterable iter X.env x = pure x := by intro _; rfl) :
    PS X (.Assign [.Name y py] (.ListComp elt [⟨tg, iter, ifs, 0⟩] scope pos) spos) (sD X.K (qSet i (fLc fi (own.map (·.2)) t tt te))) :=
  PS.to (ps_setLc hc hN hy hyl hsw hi ok hg ht he hs) fun C σ H q => lc_to (tF_list (fun env d h => fLc_list h) (set_to q))
end
end PD

/-! THE DATA LAYER 12: minus; small things. -/
namespace PD
open PySem PySem.Spec PyProof.Rows L2
theorem _root_.L2.Room.units1 {k : Nat} {A : Around} (r : Room k A) : A.units + 1 < cLine := by have := r.un; omega
def negD : D → Option D
  | .int i => some (.int (-i))
  | _ => none
theorem e_neg {X : Cx} {a : Expr} {f : Env → Option D} {pos : Pos} (h : PE X a (tW X.K f)) : PE X (.UnaryOp .USub a pos) (tD X.K (f1 negD f)) :=
  PE.to (pe_un un_neg h) fun σ H Q ⟨H0, G0, G, env, d, r, ef, q⟩ => by
    unfold f1 at ef
    cases e1 : f env with
    | none => rw [e1] at ef; cases ef
    | some dx =>
      rw [e1, Option.bind_some] at ef
      cases dx with
      | int i => cases ef; exact ⟨H0, G0, G, env, _, r, e1, fun v H' G' x hv => ⟨i, hv.int, q _ H' G' x .int⟩⟩
      | _ => cases ef
theorem fn_dm {P : Program} {w : World} {K : PySem.W.Frag} {mg : Str → Option Value} {base : Heap} {x qual : Str} {params : Arguments} {body : List Stmt} {scope : Scope} {f : Addr} {fd : FuncData} {N ps : List Str} {k n : Nat} {m : List D → Option D} (g : Env → Option Res) (hn : n = ps.length) (hm : m = bodyD N.length g) (F : FunD K x qual params body scope [] [] f fd) (S : FnScope N ps scope)
    (hbody : ∀ (cdv : Value) (A : Around) (outer : List PySem.Env) (s : Shared) (H : Hp) (E : XK), Room k (A.deeper (envOfC qual scope s.heap.objs.size f cdv)) →
      PSs (cxOf CX0 P w K mg base N qual scope f cdv A outer s H E).nox body (sD K g)) : FnOk P w K mg base CX0 (k + 1) f fd ps (spD K n m) := by
  subst hn hm
  exact fn_d F S hbody
/-- a module's constant -/
theorem e_gint {X : Cx} {x : Str} {i : Int} {pos : Pos} (hg : Gl X x) (h : ∃ t, X.mg x = some (.int i t)) (hd : (x == ("__debug__" : Str)) = false := by decide) : PE X (.Name x pos) (tD X.K (fC (.int i))) := by
  obtain ⟨t, e⟩ := h
  exact e_const (pe_glob (v := .int i) hg e ⟨t, rfl⟩ hd) fun _ => .int
theorem e_gstr {X : Cx} {x z : Str} {pos : Pos} (hg : Gl X x) (h : ∃ t, X.mg x = some (.str z t)) (hz : z.length ≤ sizeLine := by decide +kernel) (hd : (x == ("__debug__" : Str)) = false := by decide) : PE X (.Name x pos) (tD X.K (fC (.str z))) := by
  obtain ⟨t, e⟩ := h
  exact e_const (pe_glob (v := .str z) hg e ⟨t, rfl⟩ hd) fun _ => .str hz
/-- t[::-1] of a tuple, l[::-1] of a list: a datum -/
def revD : D → Option D
  | .tuple xs => some (.tuple xs.reverse)
  | .list xs => some (.list xs.reverse)
  | _ => none
end PD

/-! THE DATA LAYER 13: t[::-1]. -/
namespace PD
open PySem PySem.Spec PyProof.Rows L2
section
variable {prog : Program} {w : World} {A : Around} {E : Value → Shared → Prop} {s : Shared}
theorem places_rev (n : Nat) : Builtin.Slice.slicePlaces ((n : Int) - 1) (-1) (-1) = n := by
  unfold Builtin.Slice.slicePlaces
  rw [if_neg (by decide)]
  by_cases h : (n : Int) - 1 > -1
  · rw [if_pos h, show (-(-1) : Int) = 1 by decide, Int.ediv_one]
    omega
  · rw [if_neg h]
    omega
theorem sliceApplied_rev {sl : Addr} {vs : Value} {n : Nat} {Q : Int × Int × Nat → Shared → Prop} (hs : s.heap.IsSliceOf sl .none .none vs) (ps : IsPart vs (some (-1))) (h : Q ((n : Int) - 1, -1, n) s) :
    wpAny (model prog w) A (Builtin.Slice.sliceApplied (.ref sl) (pure (n : Int))) Q E s := by
  obtain ⟨os, hos, hcs, hds⟩ := id hs
  unfold Builtin.Slice.sliceApplied Builtin.Slice.sliceFields
  refine wpAny_bind (wpAny_bind (wpAny_field hos hds (x := .none) rfl (wpAny_bind (wpAny_field hos hds (x := .none) rfl (wpAny_bind (wpAny_field hos hds (x := vs) rfl (wpAny_pure ?_)))))))
  refine wpAny_bind (HT.slicePart_ ps ?_)
  show wpAny _ _ (if ((-1 : Int) == 0) = true then _ else _) _ _ s
  rw [if_neg (by decide)]
  refine wpAny_bind (HT.slicePart_ .none (wpAny_bind (HT.slicePart_ .none (wpAny_bind (wpAny_pure ?_)))))
  have e : Builtin.Slice.sliceAdjust none none (-1) (n : Int) = ((n : Int) - 1, -1) := rfl
  show wpAny _ _ (match Builtin.Slice.sliceAdjust none none (-1) (n : Int) with | (lo, hi) => pure (lo, (-1 : Int), Builtin.Slice.slicePlaces lo hi (-1))) _ _ s
  rw [e]
  show wpAny _ _ (pure (((n : Int) - 1), (-1 : Int), Builtin.Slice.slicePlaces ((n : Int) - 1) (-1) (-1))) _ _ s
  rw [places_rev]
  exact wpAny_pure h
theorem pick_rev (xs : Array Value) : ((List.range xs.size).filterMap fun (m : Nat) => xs[(((xs.size : Int) - 1) + (m : Int) * (-1)).toNat]?).toArray = xs.toList.reverse.toArray := by
  have e : (List.range xs.size).filterMap (fun (m : Nat) => xs[(((xs.size : Int) - 1) + (m : Int) * (-1)).toNat]?) = (List.range xs.size).filterMap ((fun i => xs[i]?) ∘ fun k => xs.size - 1 - k) := by
    refine congrArg (fun g => List.filterMap g (List.range xs.size)) (funext fun m => ?_)
    show _ = xs[xs.size - 1 - m]?
    have : (((xs.size : Int) - 1) + (m : Int) * (-1)).toNat = xs.size - 1 - m := by omega
    rw [this]
  rw [e, ← List.filterMap_map, PySem.W.krv_range, List.filterMap_reverse, PySem.W.krv_all]
theorem getItem_tuple_rev {t sl : Addr} {items : Array Value} {vs : Value} {Q : Value → Shared → Prop} (ht : IsTup s.heap t items) (hs : s.heap.IsSliceOf sl .none .none vs) (ps : IsPart vs (some (-1)))
    (h : Q (.ref s.heap.objs.size) { s with heap := s.heap.push { cls := .type "tuple", data := .seq items.toList.reverse.toArray } }) (hsz : items.size ≤ sizeLine) : wpAny (model prog w) A (getItem (.ref t) (.ref sl)) Q E s := by
  have htake : sizeOk (.seq items.toList.reverse.toArray) := by
    show items.toList.reverse.toArray.size ≤ sizeLine
    rw [List.size_toArray, List.length_reverse, Array.length_toList]; exact hsz
  obtain ⟨os, hos, hcs, hds⟩ := id hs
  have hTs : s.TypeIs (.ref sl) "slice" := ⟨os, hos, hcs⟩
  unfold getItem
  try with_reducible refine wpAny_holding ?_
  first | refine wpAny_bind (wpAny_pure ?_) | skip
  refine wpAny_bind (wpAny_sequenceKey ht.typeIs (by decide) ?_)
  refine wpAny_bind (wpAny_callSpecial?_slot (name := Str.ofString "__getitem__") ht.typeIs PyProof.Rows.slot_tuple_getitem (wpAny_call_entry PyProof.Rows.slot_tuple_getitem ht.typeIs entry_tuple_getitem ?_ (args_tuple_getitem _ _)))
  show wpAny _ _ (Builtin.Tuple.tupleItemsOf (.ref t) >>= _) _ _ s
  refine wpAny_bind (tupleItemsOf_ ht ?_)
  refine wpAny_bind (wpAny_typeOf hTs ?_)
  rw [if_pos (by decide)]
  refine wpAny_bind (sliceApplied_rev hs ps ?_)
  have hno : ¬ ((((items.size : Int) - 1) == 0 && (-1 : Int) == 1 && items.size == items.size) = true) := by
    rw [show ((-1 : Int) == 1) = false by decide, Bool.and_false, Bool.false_and]; exact Bool.false_ne_true
  show wpAny _ _ (if (((items.size : Int) - 1) == 0 && (-1 : Int) == 1 && items.size == items.size) = true then _ else _) _ _ s
  rw [if_neg hno, pick_rev]
  first
    | exact wpAny_bind (m := Builtin.Tuple.tupleExact _) (wpAny_newObj_type (wpAny_pure ⟨_, rfl, wpAny_pure h⟩) htake)
    | exact wpAny_bind (wpAny_bind (m := Builtin.Tuple.tupleExact _) (wpAny_newObj_type (wpAny_pure ⟨_, rfl, wpAny_pure h⟩) htake))
end
section
variable {X : Cx} {e : Expr} {f : Env → Option D} {k : Nat} {p1 p2 p3 pos : Pos}
theorem e_rev (he : PE X e (tW X.K f)) : PE X (.Subscript e (.Slice none none (some (.UnaryOp .USub (.Constant (.int 1) k p1) p2)) p3) pos) (tD X.K (f1 revD f)) := by
  refine ⟨fun pins s σ H Q I ⟨H0, G0, G, env, d, r, ef, q⟩ => ?_⟩
  unfold f1 at ef
  cases e1 : f env with
  | none => rw [e1] at ef; cases ef
  | some dx =>
    rw [e1, Option.bind_some] at ef
    refine Subscript_ (thn (he.run pins s σ H (fun v H1 => ∃ G1, Ex H G H1 G1 ∧ Sh X.K H1 G1 dx v) I ⟨H0, G0, G, env, dx, r, e1, fun v H1 G1 x1 hv => ⟨G1, x1, hv⟩⟩) fun v s1 ⟨x, H1, I1, r1, G1, x1, hv⟩ => ?_)
    have hst : PO X (some (.UnaryOp .USub (.Constant (.int 1) k p1) p2)) (tPart (tUn (rU fun i => .int (-i)) (tC (.int 1)))) := po_some (pe_un un_neg pe_int)
    refine wpAny_Slice (thn (po_none.run pins s1 σ H1 (fun o H2 => o = none ∧ H2 = H1) I1 ⟨rfl, rfl⟩) fun vl s2 ⟨l, H2, I2, pl, el, e2⟩ => ?_)
    subst el e2
    refine thn (po_none.run pins s2 σ H2 (fun o H3 => o = none ∧ H3 = H2) I2 ⟨rfl, rfl⟩) fun vu s3 ⟨u, H3, I3, pu, eu, e3⟩ => ?_
    subst eu e3
    refine thn (hst.run pins s3 σ H3 (fun o H4 => o = some (-1) ∧ H4 = H3) I3 ⟨1, rfl, -1, rfl, rfl, rfl⟩) fun vs s4 ⟨o, H4, I4, ps, eo, e4⟩ => ?_
    subst eo e4
    have I5 : L2.Inv X pins σ H4 { s4 with heap := s4.heap.push { cls := .type "slice", data := .fields #[vl, vu, vs] } } := I4.kept (t' := s4.toks) fun b ob z => Heap.get?_push_of_some _ z
    cases dx with
    | list ds =>
      cases ef
      obtain ⟨a, xs, rfl, h1, h2, h3⟩ := hv
      cases r1
      obtain ⟨its, rr, ht, hz⟩ := I5.list h1
      have hlen := rr.length
      show wpAny (model X.prog X.w) X.A (subscriptTail e (.Slice none none (some (.UnaryOp .USub (.Constant (.int 1) k p1) p2)) p3) (.ref a) (.ref s4.heap.objs.size)) (EP X pins σ Q) X.xe { s4 with heap := s4.heap.push { cls := .type "slice", data := .fields #[vl, vu, vs] } }
      refine tail_any (ops := [.ref a, .ref s4.heap.objs.size]) ht.isList.typeIs (PySem.slot_list_getitem.lookup) ?_ (by with_unfolding_all rfl)
      refine wpAny_getItem_list_slice ht.isList (Heap.IsSliceOf.new _ vl vu vs) pl pu ps (by decide) ?_ (by rw [List.size_toArray]; omega)
      rw [PySem.W.krv_pick]
      have nf := I5.hok.fresh (Nat.le_refl _)
      have x2 := Ex.frz (o := .lst xs.reverse) x1.sub nf
      refine ⟨.ref _, _, I5.laid (t' := s4.toks) (o := .lst xs.reverse) (fun b ob z => Heap.get?_push_of_some _ z) (Nat.le_refl _) ?_, rfl, q _ _ _ (x1.trans x2) (.lst upd_same (by rw [List.length_reverse]; exact h2) (h3.reverse.mono x2.gr))⟩
      exact ⟨by rw [List.length_reverse]; exact h2, _, 0, rr.reverse, Heap.get?_push_size _ rfl⟩
    | tuple ds =>
      cases ef
      obtain ⟨a, xs, rfl, h1, h2, h3⟩ := hv.tup
      cases r1
      obtain ⟨its, rr, ht, hz⟩ := I5.tuple (x1.sub.sqT h1)
      have hlen := rr.length
      have nl : vl = .none := by cases pl; rfl
      have nu : vu = .none := by cases pu; rfl
      subst nl nu
      show wpAny (model X.prog X.w) X.A (subscriptTail e (.Slice none none (some (.UnaryOp .USub (.Constant (.int 1) k p1) p2)) p3) (.ref a) (.ref s4.heap.objs.size)) (EP X pins σ Q) X.xe { s4 with heap := s4.heap.push { cls := .type "slice", data := .fields #[.none, .none, vs] } }
      refine tail_any (ops := [.ref a, .ref s4.heap.objs.size]) ht.typeIs (PyProof.Rows.slot_tuple_getitem.lookup) ?_ (by with_unfolding_all rfl)
      refine getItem_tuple_rev ht (Heap.IsSliceOf.new _ .none .none vs) ps ?_ (by rw [List.size_toArray]; omega)
      have nf := I5.hok.fresh (Nat.le_refl _)
      have to : TupO { cls := .type "tuple", data := .seq its.toArray.toList.reverse.toArray } := ⟨rfl, rfl⟩
      have zl : xs.reverse.length ≤ sizeLine := by rw [List.length_reverse]; exact h2
      obtain ⟨x2, hd⟩ := Dv.newT (K := X.K) x1.sub nf to zl h3.reverse
      refine ⟨.ref _, _, I5.laid (t' := s4.toks) (o := .frz { cls := .type "tuple", data := .seq its.toArray.toList.reverse.toArray } (.tup xs.reverse)) (fun b ob z => Heap.get?_push_of_some _ z) (Nat.le_refl _) ?_, rfl, q _ _ _ (x1.trans x2) hd⟩
      exact ⟨Heap.get?_push_size _ rfl, zl, _, by simpa using rr.reverse, ⟨_, Heap.get?_push_size _ rfl, rfl, _, rfl⟩⟩
    | _ => cases ef
end
end PD

namespace PD
open PySem PySem.Spec PyProof.Rows L2
def c_RING : D := .int 1000
-- slots: 0 part, 1 face
def g_make_of : Env → Option Res := (qRet (fGet2 (f1 dictD (f2 ixD (fV 0) (fC (.int 2)))) (fV 1) (fC (.int 0))))
def m_make_of : List D → Option D := bodyD 2 g_make_of
-- slots: 0 part, 1 want
def g_gives : Env → Option Res := (qRet (fChain leD leD (f2 ixD (fV 1) (fC (.int 1))) (fCall m_make_of 2 (fCons (fV 0) (fCons (f2 ixD (fV 1) (fC (.int 0))) fNil))) (f2 ixD (fV 1) (fC (.int 2)))))
def m_gives : List D → Option D := bodyD 2 g_gives
-- slots: 0 parts, 1 name, 2 want, 3 part
def ct_givers_for_0 : Env → Option Bool := (fAndB (fB (f2 neD (f2 ixD (fV 3) (fC (.int 0))) (fV 1))) (fB (fCall m_gives 2 (fCons (fV 3) (fCons (fV 2) fNil)))))
def g_givers_for : Env → Option Res := (qRet (fLc (fIt (fV 0)) [3] (sN 3) ct_givers_for_0 (fV 3)))
def m_givers_for : List D → Option D := bodyD 4 g_givers_for
-- slots: 0 parts, 1 part, 2 want
def ct_lacks_0 : Env → Option Bool := (fAndB (fB (f2 ixD (fV 2) (fC (.int 3)))) (fB (f2 eqD (f1 lenD (fCall m_givers_for 3 (fCons (fV 0) (fCons (f2 ixD (fV 1) (fC (.int 0))) (fCons (fV 2) fNil))))) (fC (.int 0)))))
def ce_lacks_1 : Env → Option D := (f2 ixD (fV 2) (fC (.int 0)))
def g_lacks : Env → Option Res := (qRet (fLc (fIt (f2 ixD (fV 1) (fC (.int 3)))) [2] (sN 2) ct_lacks_0 ce_lacks_1))
def m_lacks : List D → Option D := bodyD 3 g_lacks
-- slots: 0 house, 1 parts, 2 left, 3 part
def ct_standing_parts_0 : Env → Option Bool := (fB (f2 eqD (f1 lenD (fCall m_lacks 2 (fCons (fV 1) (fCons (fV 3) fNil)))) (fC (.int 0))))
def lc_standing_parts_1 : Env → Option Bool := (fB (f2 ltD (f1 lenD (fV 2)) (f1 lenD (fV 1))))
def lb_standing_parts_2 : Env → Option Res := (qSeq (qSet 1 (fV 2))
    (qSet 2 (fLc (fIt (fV 1)) [3] (sN 3) ct_standing_parts_0 (fV 3))))
def g_standing_parts : Env → Option Res := (qSeq (qSet 1 (f1 lstD' (fV 0)))
    (qSeq (qSet 2 (fLc (fIt (fV 1)) [3] (sN 3) ct_standing_parts_0 (fV 3)))
    (qSeq (whileS lc_standing_parts_1 lb_standing_parts_2 100000)
    (qRet (fV 1)))))
def m_standing_parts : List D → Option D := bodyD 4 g_standing_parts
-- slots: 0 house, 1 part
def ce_standing_0 : Env → Option D := (f2 ixD (fV 1) (fC (.int 0)))
def g_standing : Env → Option Res := (qRet (f1 tupD (fLc (fIt (fCall m_standing_parts 1 (fCons (fV 0) fNil))) [1] (sN 1) fYes ce_standing_0)))
def m_standing : List D → Option D := bodyD 2 g_standing
-- slots: 0 house, 1 parts, 2 found, 3 part, 4 face
def ce_lacking_0 : Env → Option D := (fTup (fCons (f2 ixD (fV 3) (fC (.int 0))) (fCons (fV 4) fNil)))
def lb_lacking_1 : Env → Option Res := (qIf (fB (f2 notInD (fV 3) (fV 1))) (qExt 2 (fLc (fIt (fCall m_lacks 2 (fCons (fV 1) (fCons (fV 3) fNil)))) [4] (sN 4) fYes ce_lacking_0)) qNil)
def g_lacking : Env → Option Res := (qSeq (qSet 1 (fCall m_standing_parts 1 (fCons (fV 0) fNil)))
    (qSeq (qOwn 2 (fLst fNil))
    (qSeq (qFor (fIt (fV 0)) (sN 3) lb_lacking_1)
    (qRet (f1 tupD (f1 sortD (fW 2)))))))
def m_lacking : List D → Option D := bodyD 5 g_lacking
-- slots: 0 parts, 1 name, 2 want, 3 best, 4 part
def lb_giver_among_0 : Env → Option Res := (qIf (fOrB (fB (f2 isND (fV 3) (fC .none))) (fB (f2 gtD (fCall m_make_of 2 (fCons (fV 4) (fCons (f2 ixD (fV 2) (fC (.int 0))) fNil))) (fCall m_make_of 2 (fCons (fV 3) (fCons (f2 ixD (fV 2) (fC (.int 0))) fNil)))))) (qSet 3 (fV 4)) qNil)
def g_giver_among : Env → Option Res := (qSeq (qSet 3 (fC .none))
    (qSeq (qFor (fIt (fCall m_givers_for 3 (fCons (fV 0) (fCons (fV 1) (fCons (fV 2) fNil))))) (sN 4) lb_giver_among_0)
    (qSeq (qIf (fB (f2 isND (fV 3) (fC .none))) (qRet (fC .none)) qNil)
    (qRet (f2 ixD (fV 3) (fC (.int 0)))))))
def m_giver_among : List D → Option D := bodyD 5 g_giver_among
-- slots: 0 house, 1 name, 2 face, 3 part, 4 want
def ct_giver_0 : Env → Option Bool := (fB (f2 eqD (f2 ixD (fV 3) (fC (.int 0))) (fV 1)))
def ct_giver_1 : Env → Option Bool := (fB (f2 eqD (f2 ixD (fV 4) (fC (.int 0))) (fV 2)))
def g_giver : Env → Option Res := (qSeq (qSet 3 (f2 ixD (fLc (fIt (fV 0)) [3] (sN 3) ct_giver_0 (fV 3)) (fC (.int 0))))
    (qSeq (qSet 4 (f2 ixD (fLc (fIt (f2 ixD (fV 3) (fC (.int 3)))) [4] (sN 4) ct_giver_1 (fV 4)) (fC (.int 0))))
    (qRet (fCall m_giver_among 3 (fCons (fCall m_standing_parts 1 (fCons (fV 0) fNil)) (fCons (fV 1) (fCons (fV 4) fNil)))))))
def m_giver : List D → Option D := bodyD 5 g_giver
-- slots: 0 house, 1 parts, 2 found, 3 part, 4 some, 5 want, 6 one
def ce_givers_0 : Env → Option D := (fCall m_giver_among 3 (fCons (fV 1) (fCons (f2 ixD (fV 3) (fC (.int 0))) (fCons (fV 5) fNil))))
def ct_givers_1 : Env → Option Bool := (fB (f2 notND (fV 6) (fC .none)))
def lb_givers_2 : Env → Option Res := (qSeq (qSet 4 (fLc (fIt (f2 ixD (fV 3) (fC (.int 3)))) [5] (sN 5) fYes ce_givers_0))
    (qPut 2 (f2 ixD (fV 3) (fC (.int 0))) (fLc (fIt (fV 4)) [6] (sN 6) ct_givers_1 (fV 6))))
def g_givers : Env → Option Res := (qSeq (qSet 1 (fCall m_standing_parts 1 (fCons (fV 0) fNil)))
    (qSeq (qOwn 2 (fC (.dict [])))
    (qSeq (qFor (fIt (fV 1)) (sN 3) lb_givers_2)
    (qRetOwn 2))))
def m_givers : List D → Option D := bodyD 7 g_givers
-- slots: 0 house, 1 book, 2 found, 3 turn, 4 ready, 5 name, 6 one
def ce_order_0 : Env → Option D := (f2 inD (fV 6) (fW 2))
def ct_order_1 : Env → Option Bool := (fAndB (fB (f2 notInD (fV 5) (fW 2))) (fB (f1 allD (fLc (fIt (f2 ixD (fV 1) (fV 5))) [6] (sN 6) fYes ce_order_0))))
def lb_order_2 : Env → Option Res := (qSeq (qSet 4 (fLc (fKeys (fV 1)) [5] (sN 5) ct_order_1 (fV 5)))
    (qIf (fB (f2 gtD (f1 lenD (fV 4)) (fC (.int 0)))) (qApp 2 (f2 ixD (fV 4) (fC (.int 0)))) qNil))
def g_order : Env → Option Res := (qSeq (qSet 1 (fCall m_givers 1 (fCons (fV 0) fNil)))
    (qSeq (qOwn 2 (fLst fNil))
    (qSeq (qFor (fIt (f1 lstD' (fV 1))) (sN 3) lb_order_2)
    (qRet (f1 tupD (fW 2))))))
def m_order : List D → Option D := bodyD 7 g_order
-- slots: 0 house, 1 begun, 2 name
def ct_stuck_0 : Env → Option Bool := (fB (f2 notInD (fV 2) (fV 1)))
def g_stuck : Env → Option Res := (qSeq (qSet 1 (fCall m_order 1 (fCons (fV 0) fNil)))
    (qRet (f1 tupD (fLc (fKeys (fCall m_givers 1 (fCons (fV 0) fNil))) [2] (sN 2) ct_stuck_0 (fV 2)))))
def m_stuck : List D → Option D := bodyD 3 g_stuck
-- slots: 0 house, 1 name, 2 book, 3 found, 4 todo, 5 one
def lc_leans_0 : Env → Option Bool := (fB (f2 gtD (f1 lenD (fW 4)) (fC (.int 0))))
def lb_leans_1 : Env → Option Res := (qSeq (qPop 5 4)
    (qIf (fB (f2 notInD (fV 5) (fW 3))) (qSeq (qApp 3 (fV 5))
    (qExt 4 (f2 ixD (fV 2) (fV 5)))) qNil))
def g_leans : Env → Option Res := (qSeq (qSet 2 (fCall m_givers 1 (fCons (fV 0) fNil)))
    (qSeq (qOwn 3 (fLst fNil))
    (qSeq (qOwn 4 (f1 lstD' (f2 ixD (fV 2) (fV 1))))
    (qSeq (whileS lc_leans_0 lb_leans_1 100000)
    (qRet (f1 tupD (f1 sortD (fW 3))))))))
def m_leans : List D → Option D := bodyD 6 g_leans
-- slots: 0 house, 1 hook, 2 book, 3 found, 4 place, 5 name, 6 at, 7 row, 8 part, 9 deed, 10 rank
def ce_chain_0 : Env → Option D := (fTup (fCons (f2 ixD (fV 8) (fC (.int 0))) (fCons (fV 8) fNil)))
def lb_chain_1 : Env → Option Res := (qIf (fB (f2 eqD (f2 ixD (fV 7) (fC (.int 0))) (fV 1))) (qApp 3 (fTup (fCons (f2 ixD (fV 7) (fC (.int 1))) (fCons (fV 4) (fCons (fV 6) (fCons (fV 5) (fCons (f2 ixD (fV 7) (fC (.int 2))) fNil))))))) qNil)
def lb_chain_2 : Env → Option Res := (qFor (fEnum (f2 ixD (f2 ixD (fV 2) (fV 5)) (fC (.int 4)))) (sTup (sCons (sN 6) (sCons (sN 7) sNil))) lb_chain_1)
def ce_chain_3 : Env → Option D := (fTup (fCons (fV 5) (fCons (fV 10) (fCons (fV 9) fNil))))
def g_chain : Env → Option Res := (qSeq (qSet 2 (f1 dictD (fLc (fIt (fV 0)) [8] (sN 8) fYes ce_chain_0)))
    (qSeq (qOwn 3 (fLst fNil))
    (qSeq (qFor (fEnum (fCall m_order 1 (fCons (fV 0) fNil))) (sTup (sCons (sN 4) (sCons (sN 5) sNil))) lb_chain_2)
    (qRet (f1 tupD (fLc (fIt (f1 sortD (fW 3))) [10, 4, 6, 5, 9] (sTup (sCons (sN 10) (sCons (sN 4) (sCons (sN 6) (sCons (sN 5) (sCons (sN 9) sNil)))))) fYes ce_chain_3))))))
def m_chain : List D → Option D := bodyD 11 g_chain
-- slots: 0 house, 1 hook, 2 worth, 3 name, 4 rank, 5 deed, 6 word
def lb_pulled_0 : Env → Option Res := (qSeq (qSet 6 (f2 ixD (fV 5) (fC (.int 0))))
    (qSeq (qIf (fB (f2 eqD (fV 6) (fC (.str "stop")))) (qRet (fTup (fCons (fV 2) (fCons (fC .none) fNil)))) qNil)
    (qSeq (qIf (fAndB (fB (f2 eqD (fV 6) (fC (.str "fail")))) (fB (f2 geD (fV 2) (f2 ixD (fV 5) (fC (.int 1)))))) (qRet (fTup (fCons (fV 2) (fCons (fV 3) fNil)))) qNil)
    (qIf (fB (f2 eqD (fV 6) (fC (.str "plus")))) (qSet 2 (f2 modD (f2 addD (fV 2) (f2 ixD (fV 5) (fC (.int 1)))) (fC c_RING))) (qIf (fB (f2 eqD (fV 6) (fC (.str "times")))) (qSet 2 (f2 modD (f2 timesD (fV 2) (f2 ixD (fV 5) (fC (.int 1)))) (fC c_RING))) (qIf (fB (f2 eqD (fV 6) (fC (.str "set")))) (qSet 2 (f2 ixD (fV 5) (fC (.int 1)))) qNil))))))
def g_pulled : Env → Option Res := (qSeq (qFor (fIt (fCall m_chain 2 (fCons (fV 0) (fCons (fV 1) fNil)))) (sTup (sCons (sN 3) (sCons (sN 4) (sCons (sN 5) sNil)))) lb_pulled_0)
    (qRet (fTup (fCons (fV 2) (fCons (fC .none) fNil)))))
def m_pulled : List D → Option D := bodyD 7 g_pulled
-- slots: 0 house, 1 name, 2 left, 3 part, 4 one
def ct_lost_0 : Env → Option Bool := (fB (f2 neD (f2 ixD (fV 3) (fC (.int 0))) (fV 1)))
def ct_lost_1 : Env → Option Bool := (fAndB (fB (f2 neD (fV 4) (fV 1))) (fB (f2 notInD (fV 4) (fV 2))))
def g_lost : Env → Option Res := (qSeq (qSet 2 (fCall m_order 1 (fCons (f1 tupD (fLc (fIt (fV 0)) [3] (sN 3) ct_lost_0 (fV 3))) fNil)))
    (qRet (f1 tupD (f1 sortD (fLc (fIt (fCall m_order 1 (fCons (fV 0) fNil))) [4] (sN 4) ct_lost_1 (fV 4))))))
def m_lost : List D → Option D := bodyD 5 g_lost
-- slots: 0 _law_script, 1 _law_k
def g__law_cell_at : Env → Option Res := (qSeq (qIf (fB (f2 ltD (fV 1) (f1 lenD (fV 0)))) (qRet (f2 ixD (fV 0) (fV 1))) qNil)
    (qRet (fC (.int 0))))
def m__law_cell_at : List D → Option D := bodyD 2 g__law_cell_at
-- slots: 0 _law_script, 1 _law_k, 2 _law_drawn_here
def g__law_mixed : Env → Option Res := (qSeq (qSet 2 (f2 modD (f2 timesD (f2 addD (f2 addD (fCall m__law_cell_at 2 (fCons (fV 0) (fCons (fV 1) fNil))) (f2 timesD (fC (.int 7919)) (fV 1))) (fC (.int 1))) (fC (.int 48271))) (fC (.int 2147483647))))
    (qRet (f2 modD (f2 addD (f2 addD (f2 timesD (fV 2) (fV 2)) (f2 timesD (fC (.int 7)) (fV 2))) (fV 1)) (fC (.int 2147483629)))))
def m__law_mixed : List D → Option D := bodyD 3 g__law_mixed
-- slots: 0 _law_number, 1 _law_k, 2 _law_drawn_here
def g__law_drawn : Env → Option Res := (qSeq (qSet 2 (f2 modD (f2 timesD (f2 addD (f2 addD (fV 0) (f2 timesD (fC (.int 104729)) (fV 1))) (fC (.int 17))) (fC (.int 69621))) (fC (.int 2147483647))))
    (qRet (f2 modD (f2 addD (f2 addD (f2 timesD (fV 2) (fV 2)) (f2 timesD (fC (.int 3)) (fV 2))) (fV 1)) (fC (.int 2147483629)))))
def m__law_drawn : List D → Option D := bodyD 3 g__law_drawn
-- slots: 0 _law_number, 1 _law_name, 2 _law_faces, 3 _law_wants, 4 _law_hooks, 5 _law_k, 6 _law_face, 7 _law_drawn_here, 8 _law_low, 9 _law_want, 10 _law_words, 11 _law_word, 12 _law_deed, 13 _law_hook
def lb__law_part_0 : Env → Option Res := (qSeq (qSet 7 (f2 fdivD (fCall m__law_drawn 2 (fCons (fV 0) (fCons (fV 5) fNil))) (fC (.int 4))))
    (qSeq (qIf (fB (f2 eqD (f2 modD (fV 7) (fC (.int 3))) (fC (.int 0)))) (qSet 2 (f2 addD (fV 2) (fTup (fCons (fTup (fCons (fV 6) (fCons (f2 addD (fC (.int 1)) (f2 modD (f2 fdivD (fV 7) (fC (.int 4))) (fC (.int 4)))) fNil))) fNil)))) qNil)
    (qIf (fB (f2 eqD (f2 modD (fV 7) (fC (.int 4))) (fC (.int 1)))) (qSeq (qSet 8 (f2 addD (fC (.int 1)) (f2 modD (f2 fdivD (fV 7) (fC (.int 4))) (fC (.int 3)))))
    (qSeq (qSet 9 (fTup (fCons (fV 6) (fCons (fV 8) (fCons (f2 min2D (fC (.int 9)) (f2 addD (fV 8) (f2 modD (f2 fdivD (fV 7) (fC (.int 16))) (fC (.int 4))))) (fCons (f2 gtD (f2 modD (f2 fdivD (fV 7) (fC (.int 64))) (fC (.int 3))) (fC (.int 0))) fNil))))))
    (qSet 3 (f2 addD (fV 3) (fTup (fCons (fV 9) fNil)))))) qNil)))
def lb__law_part_1 : Env → Option Res := (qSeq (qSet 7 (f2 fdivD (fCall m__law_drawn 2 (fCons (fV 0) (fCons (f2 addD (fC (.int 10)) (fV 5)) fNil))) (fC (.int 4))))
    (qSeq (qSet 10 (fTup (fCons (fC (.str "plus")) (fCons (fC (.str "times")) (fCons (fC (.str "set")) (fCons (fC (.str "stop")) (fCons (fC (.str "fail")) (fCons (fC (.str "plus")) fNil))))))))
    (qSeq (qSet 11 (f2 ixD (fV 10) (f2 modD (fV 7) (fC (.int 6)))))
    (qSeq (qSet 12 (f2 addD (fTup (fCons (fV 11) fNil)) (f2 timesD (fTup (fCons (f2 modD (f2 fdivD (fV 7) (fC (.int 8))) (f2 ixD (fTup (fCons (fC (.int 1000)) (fCons (fC (.int 5)) fNil))) (f2 modD (f2 fdivD (fV 7) (fC (.int 8192))) (fC (.int 2))))) fNil)) (f1 intD (f2 neD (fV 11) (fC (.str "stop")))))))
    (qSeq (qSet 13 (f2 ixD (fTup (fCons (fC (.str "go")) (fCons (fC (.str "end")) fNil))) (f2 modD (f2 fdivD (fV 7) (fC (.int 16384))) (fC (.int 2)))))
    (qSet 4 (f2 addD (fV 4) (fTup (fCons (fTup (fCons (fV 13) (fCons (f2 ixD (fTup (fCons (fC (.int 0)) (fCons (f1 negD (fC (.int 1))) (fCons (fC (.int 5)) (fCons (f1 negD (fC (.int 9))) fNil))))) (f2 modD (f2 fdivD (fV 7) (fC (.int 32768))) (fC (.int 4)))) (fCons (fV 12) fNil)))) fNil)))))))))
def g__law_part : Env → Option Res := (qSeq (qSet 2 (fTup fNil))
    (qSeq (qSet 3 (fTup fNil))
    (qSeq (qSet 4 (fTup fNil))
    (qSeq (qFor (fEnum (fTup (fCons (fC (.str "f")) (fCons (fC (.str "g")) (fCons (fC (.str "h")) fNil))))) (sTup (sCons (sN 5) (sCons (sN 6) sNil))) lb__law_part_0)
    (qSeq (qFor (fR1 (f2 modD (fV 0) (fC (.int 4)))) (sN 5) lb__law_part_1)
    (qRet (fTup (fCons (fV 1) (fCons (f2 addD (fC (.int 1)) (f2 modD (f2 fdivD (fV 0) (fC (.int 4))) (fC (.int 4)))) (fCons (fV 2) (fCons (fSl (fV 3) (partD (f2 modD (f2 fdivD (fV 0) (fC (.int 64))) (fC (.int 2)))) noPart) (fCons (fV 4) fNil))))))))))))
def m__law_part : List D → Option D := bodyD 14 g__law_part
-- slots: 0 _law_number, 1 _law_found, 2 _law_k, 3 _law_name, 4 _law_drawn_here
def lb__law_house_0 : Env → Option Res := (qSeq (qSet 4 (f2 fdivD (fCall m__law_drawn 2 (fCons (fV 0) (fCons (f2 addD (fC (.int 20)) (fV 2)) fNil))) (fC (.int 4))))
    (qIf (fB (f2 gtD (f2 modD (fV 4) (fC (.int 8))) (f2 modD (fV 0) (fC (.int 4))))) (qSet 1 (f2 addD (fV 1) (fTup (fCons (fCall m__law_part 2 (fCons (f2 fdivD (fV 4) (fC (.int 8))) (fCons (fV 3) fNil))) fNil)))) qNil))
def g__law_house : Env → Option Res := (qSeq (qSet 1 (fTup fNil))
    (qSeq (qFor (fEnum (fTup (fCons (fC (.str "a")) (fCons (fC (.str "b")) (fCons (fC (.str "c")) (fCons (fC (.str "d")) (fCons (fC (.str "e")) (fCons (fC (.str "log")) fNil)))))))) (sTup (sCons (sN 2) (sCons (sN 3) sNil))) lb__law_house_0)
    (qRet (fV 1))))
def m__law_house : List D → Option D := bodyD 5 g__law_house
-- slots: 0 _law_part_here, 1 _law_want, 2 _law_face, 3 _law_make
def ct__law_give_0 : Env → Option Bool := (fAndB (fB (f2 eqD (fV 2) (f2 ixD (fV 1) (fC (.int 0))))) (fB (fChain leD leD (f2 ixD (fV 1) (fC (.int 1))) (fV 3) (f2 ixD (fV 1) (fC (.int 2))))))
def g__law_give : Env → Option Res := (qRet (f2 neD (fLc (fIt (f2 ixD (fV 0) (fC (.int 2)))) [2, 3] (sTup (sCons (sN 2) (sCons (sN 3) sNil))) ct__law_give_0 (fV 3)) (fLst fNil)))
def m__law_give : List D → Option D := bodyD 4 g__law_give
-- slots: 0 _law_house_here, 1 _law_parts, 2 _law_turn, 3 _law_kept, 4 _law_part_here, 5 _law_good, 6 _law_want, 7 _law_others, 8 _law_one
def ct__law_stand_0 : Env → Option Bool := (fAndB (fB (f2 neD (f2 ixD (fV 8) (fC (.int 0))) (f2 ixD (fV 4) (fC (.int 0))))) (fB (fCall m__law_give 2 (fCons (fV 8) (fCons (fV 6) fNil)))))
def lb__law_stand_1 : Env → Option Res := (qSeq (qSet 7 (fLc (fIt (fV 1)) [8] (sN 8) ct__law_stand_0 (fV 8)))
    (qSet 5 (fAndV (fV 5) (fOrV (f2 neD (fV 7) (fLst fNil)) (fNotV (f2 ixD (fV 6) (fC (.int 3))))))))
def lb__law_stand_2 : Env → Option Res := (qSeq (qSet 5 (fC (.bool true)))
    (qSeq (qFor (fIt (f2 ixD (fV 4) (fC (.int 3)))) (sN 6) lb__law_stand_1)
    (qIf (fB (fV 5)) (qApp 3 (fV 4)) qNil)))
def lb__law_stand_3 : Env → Option Res := (qSeq (qOwn 3 (fLst fNil))
    (qSeq (qFor (fIt (fV 1)) (sN 4) lb__law_stand_2)
    (qAlias 1 3)))
def g__law_stand : Env → Option Res := (qSeq (qSet 1 (f1 lstD' (fV 0)))
    (qSeq (qFor (fR1 (fC (.int 7))) (sN 2) lb__law_stand_3)
    (qRet (fV 1))))
def m__law_stand : List D → Option D := bodyD 9 g__law_stand
-- slots: 0 _law_parts, 1 _law_name, 2 _law_want, 3 _law_some, 4 _law_part_here
def ct__law_giver_0 : Env → Option Bool := (fAndB (fB (f2 neD (f2 ixD (fV 4) (fC (.int 0))) (fV 1))) (fB (fCall m__law_give 2 (fCons (fV 4) (fCons (fV 2) fNil)))))
def ce__law_giver_1 : Env → Option D := (fTup (fCons (f2 subD (fC (.int 0)) (f2 ixD (f1 dictD (f2 ixD (fV 4) (fC (.int 2)))) (f2 ixD (fV 2) (fC (.int 0))))) (fCons (f2 ixD (fV 4) (fC (.int 0))) fNil)))
def g__law_giver : Env → Option Res := (qSeq (qSet 3 (fLc (fIt (fV 0)) [4] (sN 4) ct__law_giver_0 ce__law_giver_1))
    (qRet (f2 ixD (f2 ixD (f2 catD (f1 sortD (fV 3)) (fLst (fCons (fTup (fCons (fC (.int 0)) (fCons (fC .none) fNil))) fNil))) (fC (.int 0))) (fC (.int 1)))))
def m__law_giver : List D → Option D := bodyD 5 g__law_giver
-- slots: 0 _law_house_here, 1 _law_parts, 2 _law_found, 3 _law_part_here, 4 _law_some, 5 _law_want, 6 _law_name
def ce__law_givers_0 : Env → Option D := (fCall m__law_giver 3 (fCons (fV 1) (fCons (f2 ixD (fV 3) (fC (.int 0))) (fCons (fV 5) fNil))))
def ct__law_givers_1 : Env → Option Bool := (fB (f2 notND (fV 6) (fC .none)))
def lb__law_givers_2 : Env → Option Res := (qSeq (qSet 4 (fLc (fIt (f2 ixD (fV 3) (fC (.int 3)))) [5] (sN 5) fYes ce__law_givers_0))
    (qPut 2 (f2 ixD (fV 3) (fC (.int 0))) (fLc (fIt (fV 4)) [6] (sN 6) ct__law_givers_1 (fV 6))))
def g__law_givers : Env → Option Res := (qSeq (qSet 1 (fCall m__law_stand 1 (fCons (fV 0) fNil)))
    (qSeq (qOwn 2 (fC (.dict [])))
    (qSeq (qFor (fIt (fV 1)) (sN 3) lb__law_givers_2)
    (qRetOwn 2))))
def m__law_givers : List D → Option D := bodyD 7 g__law_givers
-- slots: 0 _law_house_here, 1 _law_book, 2 _law_found, 3 _law_left, 4 _law_ready, 5 _law_name, 6 _law_one
def ct__law_order_0 : Env → Option Bool := (fB (f2 notInD (fV 6) (fW 2)))
def ct__law_order_1 : Env → Option Bool := (fB (f2 eqD (fLc (fIt (f2 ixD (fV 1) (fV 5))) [6] (sN 6) ct__law_order_0 (fV 6)) (fLst fNil)))
def ct__law_order_2 : Env → Option Bool := (fB (f2 neD (fV 5) (f2 ixD (fV 4) (fC (.int 0)))))
def lc__law_order_3 : Env → Option Bool := (fB (f2 neD (fV 3) (fLst fNil)))
def lb__law_order_4 : Env → Option Res := (qSeq (qSet 4 (fLc (fIt (fV 3)) [5] (sN 5) ct__law_order_1 (fV 5)))
    (qSeq (qIf (fB (f2 eqD (fV 4) (fLst fNil))) qBrk qNil)
    (qSeq (qApp 2 (f2 ixD (fV 4) (fC (.int 0))))
    (qSet 3 (fLc (fIt (fV 3)) [5] (sN 5) ct__law_order_2 (fV 5))))))
def g__law_order : Env → Option Res := (qSeq (qSet 1 (fCall m__law_givers 1 (fCons (fV 0) fNil)))
    (qSeq (qOwn 2 (fLst fNil))
    (qSeq (qSet 3 (f1 sortD (fV 1)))
    (qSeq (whileS lc__law_order_3 lb__law_order_4 100000)
    (qRet (f1 tupD (fW 2)))))))
def m__law_order : List D → Option D := bodyD 7 g__law_order
end PD

/-! THE DATA LAYER 15: dict displays. -/
namespace PD
open PySem PySem.Spec PyProof.Rows L2
def fPairs : List ((Env → Option D) × (Env → Option D)) → Env → Option (List (Key × D))
  | [], _ => some []
  | (k, v) :: r, env => (k env).bind fun dk => (v env).bind fun dv => (toKey dk).bind fun key => (fPairs r env).bind fun l => some ((key, dv) :: l)
def fDisp (prs : List ((Env → Option D) × (Env → Option D))) : Env → Option D := fun env => (fPairs prs env).map fun l => .dict (mergeD [] l)
theorem pairs_to {K : PySem.W.Frag} {H0 : Bs} {G0 : Hp} {σ : L2.St} {env : Env} : ∀ (prs : List ((Env → Option D) × (Env → Option D))) (H G : Hp) (l : List (Key × D)) (Q : List (V × V) → Hp → Prop), Rel K H0 G0 σ H G env → fPairs prs env = some l →
    (∀ (kx : List (Key × V)) (H' G' : Hp), Ex H G H' G' → kx.length = l.length → (∀ {kvs : List (D × D)} {ky : List (Key × V)}, DvKV K G' kvs ky → DvKV K G' (mergeD kvs l) (mergeK ky kx)) → Q (kx.map fun kv => (kV kv.1, kv.2)) H') → tPairs (prs.map fun p => (tD K p.1, tD K p.2)) σ H Q
  | [], H, G, l, Q, r, e, q => by
    cases e
    exact q [] H G (.refl r.sub) rfl fun h => h
  | (k, v) :: prs, H, G, l, Q, r, e, q => by
    have e' : (k env).bind (fun dk => (v env).bind fun dv => (toKey dk).bind fun key => (fPairs prs env).bind fun l => some ((key, dv) :: l)) = some l := e
    cases e1 : k env with
    | none => rw [e1] at e'; cases e'
    | some dk =>
      cases e2 : v env with
      | none => rw [e1, e2] at e'; cases e'
      | some dv =>
        rw [e1, e2, Option.bind_some, Option.bind_some] at e'
        cases e3 : toKey dk with
        | none => rw [e3] at e'; cases e'
        | some key =>
          rw [e3, Option.bind_some] at e'
          cases e4 : fPairs prs env with
          | none => rw [e4] at e'; cases e'
          | some l' =>
            rw [e4] at e'
            cases e'
            refine ⟨H0, G0, G, env, dk, r, e1, fun x H1 G1 x1 hx => ⟨H0, G0, G1, env, dv, r.next x1, e2, fun y H2 G2 x2 hy => ?_⟩⟩
            have ex : x = kV key := by
              have ek := keyD_of e3
              subst ek
              cases key with
              | inl i => simp only [keyD, Dv] at hx; exact hx
              | inr z => simp only [keyD, Dv] at hx; exact hx.1
            subst ex
            refine pairs_to prs H2 G2 l' _ ((r.next x1).next x2) e4 fun kx H' G' x3 hl hm => ?_
            exact q ((key, y) :: kx) H' G' (x1.trans (x2.trans x3)) (by simp [hl]) fun h => hm (h.put (hy.mono x3.gr))
section
variable {X : Cx} {pos : Pos} {keys : List (Option Expr)} {values : List Expr} {prs : List ((Env → Option D) × (Env → Option D))}
theorem f_disp (h : PPs X pos keys values (prs.map fun p => (tD X.K p.1, tD X.K p.2))) (hall : keys.all (·.isSome) = true := by rfl) (hl : keys.length = values.length := by rfl) (h0 : keys ≠ [] := by exact List.cons_ne_nil _ _) (h15 : keys.length ≤ 15 := by decide) (hp : prs.length ≤ 15 := by decide) : PE X (.Dict keys values pos) (tF X.K (fDisp prs)) :=
  PE.to (pe_disp h hall hl h0 h15) fun σ H Q ⟨H0, G0, G, env, d, r, ef, q⟩ => by
    unfold fDisp at ef
    cases e1 : fPairs prs env with
    | none => rw [e1] at ef; cases ef
    | some l =>
      rw [e1] at ef
      cases ef
      intro p np
      have x0 := Ex.out (o := .dK []) r.sub np
      have hlen : ∀ (prs : List ((Env → Option D) × (Env → Option D))) (l : List (Key × D)), fPairs prs env = some l → l.length = prs.length := fun prs => by
        induction prs with
        | nil => intro l e; cases e; rfl
        | cons pr prs ih =>
          intro l e
          obtain ⟨k, v⟩ := pr
          have e' : (k env).bind (fun dk => (v env).bind fun dv => (toKey dk).bind fun key => (fPairs prs env).bind fun l => some ((key, dv) :: l)) = some l := e
          cases a1 : k env with
          | none => rw [a1] at e'; cases e'
          | some dk =>
            cases a2 : v env with
            | none => rw [a1, a2] at e'; cases e'
            | some dv =>
              cases a3 : toKey dk with
              | none => rw [a1, a2, Option.bind_some, Option.bind_some, a3] at e'; cases e'
              | some key =>
                cases a4 : fPairs prs env with
                | none => rw [a1, a2, Option.bind_some, Option.bind_some, a3, Option.bind_some, a4] at e'; cases e'
                | some l' =>
                  rw [a1, a2, Option.bind_some, Option.bind_some, a3, Option.bind_some, a4] at e'
                  cases e'
                  rw [List.length_cons, List.length_cons, ih l' a4]
      have hl2 := hlen prs l e1
      refine pairs_to prs _ G l _ (r.next x0) e1 fun kx H' G' x1 hk hm => ?_
      have hD : H' p = some (.dK []) := x1.same _ _ upd_same
      have gp : G' p = none := by rw [x1.old p (by rw [upd_same]; exact nofun)]; exact r.sub.free np
      refine ⟨hD, kx, rfl, by omega, q p _ G' ⟨fun b u e => ?_, x1.gr, fun b u e => ?_, fun b hb => ?_⟩ np gp ⟨mergeK [] kx, upd_same, ?_, hm .nil⟩⟩
      · have nb : b ≠ p := fun z => by subst z; rw [np] at e; cases e
        rw [upd_ne nb]
        exact x1.same b u (by rw [upd_ne nb]; exact e)
      · have nb : b ≠ p := fun z => by subst z; rw [gp] at e; cases e
        rw [upd_ne nb]; exact x1.sub b u e
      · have nb : b ≠ p := fun z => by subst z; exact hb np
        exact x1.old b (by rw [upd_ne nb]; exact hb)
      · refine Nat.le_trans (length_mergeK kx []) ?_
        rw [List.length_nil, Nat.zero_add, sizeLine_eq]; omega
end
end PD

/-! THE DATA LAYER 16: methods that only look; max of a list. -/
namespace PD
open PySem PySem.Spec PyProof.Rows L2
/-- the builtin type of a datum that has methods -/
def tyD : D → String
  | .list _ => "list"
  | .tuple _ => "tuple"
  | .str _ => "str"
  | .dict _ => "dict"
  | _ => ""
section
variable {X : Cx} {pins : List (Addr × Obj)} {σ : L2.St} {H G : Hp} {s : Shared}
theorem ty_at (I : L2.Inv X pins σ H s) (sb : Sub G H) : ∀ {d : D} {x : V} {v : Value} {T : String}, Sh X.K H G d x → RelV x v → tyD d = T → T ≠ "" → s.TypeIs v T ∧ ∀ a, v = .ref a → ∃ ob, s.heap.get? a = some ob ∧ ob.dict = none
  | .none, _, _, _, _, _, e, n => absurd e.symm n
  | .bool _, _, _, _, _, _, e, n => absurd e.symm n
  | .int _, _, _, _, _, _, e, n => absurd e.symm n
  | .str z, x, v, T, h, r, e, _ => by
    subst e
    rw [h.str.1] at r
    exact tyV_is (T := "str") I r rfl
  | .list ds, x, v, T, h, r, e, _ => by
    subst e
    obtain ⟨a, xs, rfl, h1, _, _⟩ := h
    exact tyV_is (T := "list") I r (.inl ⟨rfl, _, h1⟩)
  | .tuple ds, x, v, T, h, r, e, _ => by
    subst e
    obtain ⟨a, xs, rfl, h1, _, _⟩ := h.tup
    cases r
    obtain ⟨its, _, o, n, ho, hc, hd, _⟩ := tup_at I sb h1
    exact ⟨⟨o, ho, hc⟩, fun b e => by cases e; exact ⟨o, ho, hd⟩⟩
  | .dict kvs, x, v, T, h, r, e, _ => by
    subst e
    obtain ⟨a, kx, rfl, h1, _, _⟩ := sh_dict_is h
    cases r
    obtain ⟨h2, h3, _⟩ := isD_at I (a := a) (.inl ⟨kx, h1⟩)
    exact ⟨h2, h3⟩
end
/-- a method of one argument that only looks -/
def rM1 (K : PySem.W.Frag) (g : D → D → Option D) : V → List V → Hp → VK → Prop := fun x ys H Q => ∃ G y dx dy d, ys = [y] ∧ Sub G H ∧ Sh K H G dx x ∧ Sh K H G dy y ∧ g dx dy = some d ∧ ∀ v H' G', Ex H G H' G' → Dv K G' d v → Q v H'
def rM0 (K : PySem.W.Frag) (g : D → Option D) : V → List V → Hp → VK → Prop := fun x ys H Q => ∃ G dx d, ys = [] ∧ Sub G H ∧ Sh K H G dx x ∧ g dx = some d ∧ ∀ v H' G', Ex H G H' G' → Dv K G' d v → Q v H'
section
variable {X : Cx} {o e : Expr} {f h : Env → Option D} {g : D → D → Option D} {g0 : D → Option D} {apos cpos : Pos} {name : Str} {T id : String}
theorem e_m1 (pa : PlainAttrs T) (slot : PySem.Slot T name id) (hty : typeOf (.builtin id) = pure (.type "method_descriptor")) (hm : MtR X id (rM1 X.K g)) (hT : ∀ dx dy d, g dx dy = some d → tyD dx = T) (hn : T ≠ "") (ho : PE X o (tW X.K f)) (he : PE X e (tW X.K h))
    (hbase : attributeBase o name X.env (eval o X.env) = eval o X.env := by rfl)
    (hfew : ((backTo cpos (starEach [e] X.env)).all (fun x => !x.1) && (backToKw cpos (keywordEach [] X.env)).all (fun x => x.1.isSome)
      && decide (([e] : List Expr).length + ([] : List Keyword).length + (if ([] : List Keyword).isEmpty then 0 else 1) < 30)) = true := by rfl)
    (hline : (apos.endLine == cpos.line) = true := by rfl) (hs : starEach [e] X.env = (false, eval e X.env) :: starEach [] X.env := by rfl) (hplain : (backTo cpos (starEach [] X.env)).any (·.1) = false := by rfl) :
    PE X (.Call (.Attribute o name apos) [e] [] cpos) (tD X.K (f2 g f h)) := by
  refine ⟨fun pins s σ H Q I ⟨H0, G0, G, env, d, r, ef, q⟩ => ?_⟩
  unfold f2 at ef
  cases e1 : f env with
  | none => rw [e1] at ef; cases ef
  | some dx =>
    cases e2 : h env with
    | none => rw [e1, e2] at ef; cases ef
    | some dy =>
      rw [e1, e2, Option.bind_some, Option.bind_some] at ef
      refine wpAny_Call_method_late hbase hfew hline rfl (thn (ho.run pins s σ H (fun x H1 => ∃ G1, Ex H G H1 G1 ∧ Sh X.K H1 G1 dx x) I ⟨H0, G0, G, env, dx, r, e1, fun v H1 G1 x1 hv => ⟨G1, x1, hv⟩⟩) fun v s1 ⟨x, H1, I1, r1, G1, x1, hx⟩ => ?_)
      obtain ⟨h1, h2⟩ := ty_at I1 x1.sub hx r1 (hT _ _ _ ef) hn
      refine ⟨T, id, pa, slot, hty, h1, h2, ?_⟩
      have hA := (a_one he hs).run cpos pins s1 σ H1 (fun ys H2 => ∃ y G2, ys = [y] ∧ Ex H1 G1 H2 G2 ∧ Sh X.K H2 G2 dy y) I1 ⟨H0, G0, G1, env, dy, r.next x1, e2, fun y H2 G2 x2 hy => ⟨y, G2, rfl, x2, hy⟩⟩
      rw [hs] at hA ⊢
      refine Calls.callWith_builtin (by show (false || (backTo cpos (starEach [] X.env)).any (·.1)) = false; rw [hplain] <;> rfl) (Calls.evalArgs_plain ?_)
      exact thn hA fun us s2 ⟨vs, H2, I2, r2, y, G2, ey, x2, hy⟩ => hm pins s2 σ H2 x vs v us Q I2 r1 r2 ⟨G2, y, dx, dy, d, ey, x2.sub, hx.ex x2, hy, ef, fun w H' G' x3 hw => q w H' G' (x1.trans (x2.trans x3)) hw⟩
theorem e_m0 (pa : PlainAttrs T) (slot : PySem.Slot T name id) (hty : typeOf (.builtin id) = pure (.type "method_descriptor")) (hm : MtR X id (rM0 X.K g0)) (hT : ∀ dx d, g0 dx = some d → tyD dx = T) (hn : T ≠ "") (ho : PE X o (tW X.K f))
    (hbase : attributeBase o name X.env (eval o X.env) = eval o X.env := by rfl) (hline : (apos.endLine == cpos.line) = true := by rfl) :
    PE X (.Call (.Attribute o name apos) [] [] cpos) (tD X.K (f1 g0 f)) := by
  refine ⟨fun pins s σ H Q I ⟨H0, G0, G, env, d, r, ef, q⟩ => ?_⟩
  unfold f1 at ef
  cases e1 : f env with
  | none => rw [e1] at ef; cases ef
  | some dx =>
    rw [e1, Option.bind_some] at ef
    refine wpAny_Call_method0_late hbase hline (thn (ho.run pins s σ H (fun x H1 => ∃ G1, Ex H G H1 G1 ∧ Sh X.K H1 G1 dx x) I ⟨H0, G0, G, env, dx, r, e1, fun v H1 G1 x1 hv => ⟨G1, x1, hv⟩⟩) fun v s1 ⟨x, H1, I1, r1, G1, x1, hx⟩ => ?_)
    obtain ⟨h1, h2⟩ := ty_at I1 x1.sub hx r1 (hT _ _ ef) hn
    exact ⟨T, id, pa, slot, hty, h1, h2, Calls.callWith_builtin rfl (PySem.evalArgs_none (hm pins s1 σ H1 x [] v [] Q I1 r1 .nil ⟨G1, dx, d, rfl, x1.sub, hx, ef, fun w H' G' x3 hw => q w H' G' (x1.trans x3) hw⟩))⟩
end
/-! ### count, index -/
def countD : D → D → Option D
  | .list xs, d => if (PyData.plainAll xs && d.plain && decide (min (PyData.depthAll xs) d.depth ≤ 50)) = true then some (.int ((xs.countP fun y => PyData.eqv y d : Nat) : Int)) else none
  | _, _ => none
theorem countD_ty : ∀ dx dy d, countD dx dy = some d → tyD dx = "list"
  | .list _, _, _, _ => rfl
  | .none, _, _, h => by cases h
  | .bool _, _, _, h => by cases h
  | .int _, _, _, h => by cases h
  | .str _, _, _, h => by cases h
  | .tuple _, _, _, h => by cases h
  | .dict _, _, _, h => by cases h
def strsD : List D → Option (List Str)
  | [] => some []
  | .str x :: r => (strsD r).map (x :: ·)
  | _ => none
theorem strs_v {K : PySem.W.Frag} {G : Hp} : ∀ {ds : List D} {vs : List V} {xs : List Str}, strsD ds = some xs → DvAll K G ds vs → vs = xs.map V.str
  | [], vs, xs, e, h => by cases e; rw [h.inv_nil]; rfl
  | .str x :: ds, vs, xs, e, h => by
    obtain ⟨v, r, rfl, h1, h2⟩ := h.inv
    have e' : (strsD ds).map (x :: ·) = some xs := e
    cases q : strsD ds with
    | none => rw [q] at e'; cases e'
    | some ys =>
      rw [q] at e'
      cases e'
      simp only [Dv] at h1
      rw [h1.1, strs_v q h2]; rfl
  | .none :: _, _, _, e, _ => by cases e
  | .bool _ :: _, _, _, e, _ => by cases e
  | .int _ :: _, _, _, e, _ => by cases e
  | .list _ :: _, _, _, e, _ => by cases e
  | .tuple _ :: _, _, _, e, _ => by cases e
  | .dict _ :: _, _, _, e, _ => by cases e
def indexS (ds : List D) (z : Str) : Option D := (strsD ds).bind fun xs => if z ∈ xs then some (.int ((xs.idxOf z : Nat) : Int)) else none
def indexLD : D → D → Option D
  | .list ds, .str z => indexS ds z
  | _, _ => none
def indexTD : D → D → Option D
  | .tuple ds, .str z => indexS ds z
  | _, _ => none
theorem indexLD_ty {dx dy d : D} (h : indexLD dx dy = some d) : tyD dx = "list" := by
  unfold indexLD at h
  split at h
  · rfl
  · cases h
theorem indexTD_ty {dx dy d : D} (h : indexTD dx dy = some d) : tyD dx = "tuple" := by
  unfold indexTD at h
  split at h
  · rfl
  · cases h
theorem indexS_some {ds : List D} {z : Str} {d : D} (h : indexS ds z = some d) : ∃ xs, strsD ds = some xs ∧ xs[xs.idxOf z]? = some z ∧ (∀ m, m < xs.idxOf z → xs[m]? ≠ some z) ∧ d = .int ((xs.idxOf z : Nat) : Int) := by
  unfold indexS at h
  cases e : strsD ds with
  | none => rw [e] at h; cases h
  | some xs =>
    rw [e, Option.bind_some] at h
    split at h
    · rename_i hm
      cases h
      refine ⟨xs, rfl, by rw [List.getElem?_eq_getElem (List.idxOf_lt_length_of_mem hm)]; exact congrArg some (List.getElem_idxOf _), fun m hm' e2 => ?_, rfl⟩
      obtain ⟨hl, e3⟩ := List.getElem?_eq_some_iff.mp e2
      have := List.not_of_lt_findIdx (p := fun x => x == z) (xs := xs) hm'
      rw [e3] at this
      simp at this
    · cases h
section
variable {X : Cx}
theorem mt_countD (hu : X.A.units + 64 < cLine) : MtR X "list.count" (rM1 X.K countD) := by
  intro pins s σ H x ys v us Q I rx rs ⟨G, y, dx, dy, d, ey, sb, hx, hy, e, q⟩
  subst ey
  obtain ⟨u, rfl, ru⟩ := rs.one
  cases dx with
  | list ds =>
    have e' : (if (PyData.plainAll ds && dy.plain && decide (min (PyData.depthAll ds) dy.depth ≤ 50)) = true then some (PyData.int ((ds.countP fun y => PyData.eqv y dy : Nat) : Int)) else none) = some d := e
    split at e'
    · rename_i hok
      cases e'
      rw [Bool.and_eq_true, Bool.and_eq_true, decide_eq_true_eq] at hok
      obtain ⟨⟨p1, p2⟩, p3⟩ := hok
      obtain ⟨as, r1⟩ := Dp.reads I (.list ds) x v (hx.dp sb (by simpa [PyData.plain] using p1)) rx
      obtain ⟨bs, r2⟩ := Dp.reads I dy y u (hy.dp sb p2) ru
      cases r1 with
      | list h1 h2 h3 h4 => exact SeqAt.count_list_data ⟨_, h1, h2, _, h3⟩ h4 r2 p1 p2 (by omega) ⟨.int _, H, I.tok _, ⟨_, rfl⟩, q _ _ _ (.refl sb) .int⟩
    · cases e'
  | _ => cases e
theorem mt_indexLD : MtR X "list.index" (rM1 X.K indexLD) := by
  intro pins s σ H x ys v us Q I rx rs ⟨G, y, dx, dy, d, ey, sb, hx, hy, e, q⟩
  subst ey
  unfold indexLD at e
  split at e
  · rename_i ds z
    obtain ⟨xs, e1, e2, e3, rfl⟩ := indexS_some e
    obtain ⟨a, vs, rfl, h1, h2, h3⟩ := hx
    obtain ⟨rfl, _⟩ := hy.str
    have ev := strs_v e1 h3
    subst ev
    refine mt_index pins s σ H _ _ v us Q I rx rs ⟨a, _, _, xs.idxOf z, .str z, rfl, rfl, h1, rfl, ?_, ?_, ?_, ?_, q _ _ _ (.refl sb) .int⟩
    · rw [List.all_eq_true]
      intro w hw
      obtain ⟨t, _, rfl⟩ := List.mem_map.mp hw
      rfl
    · rw [List.getElem?_map, e2]; rfl
    · show (z == z) = true
      simp
    · intro m z' hm hz
      rw [List.getElem?_map] at hz
      cases q2 : xs[m]? with
      | none => rw [q2] at hz; cases hz
      | some t =>
        rw [q2] at hz
        cases hz
        show (t == z) = false
        have := e3 m hm
        rw [q2] at this
        simp at this
        simpa using this
  · cases e
theorem mt_indexTD : MtR X "tuple.index" (rM1 X.K indexTD) := by
  intro pins s σ H x ys v us Q I rx rs ⟨G, y, dx, dy, d, ey, sb, hx, hy, e, q⟩
  subst ey
  unfold indexTD at e
  split at e
  · rename_i ds z
    obtain ⟨xs, e1, e2, e3, rfl⟩ := indexS_some e
    obtain ⟨a, vs, rfl, h1, h2, h3⟩ := hx.tup
    obtain ⟨rfl, _⟩ := hy.str
    have ev := strs_v e1 h3
    subst ev
    exact mt_tup_index pins s σ H _ _ v us Q I rx rs ⟨a, xs, z, xs.idxOf z, rfl, rfl, sb.sqT h1, e2, e3, q _ _ _ (.refl sb) .int⟩
  · cases e
end
/-! ### max of a list of numbers -/
def intsD : List D → Option (List Int)
  | [] => some []
  | .int x :: r => (intsD r).map (x :: ·)
  | _ => none
theorem ints_are : ∀ {ds : List D} {xs : List Int}, intsD ds = some xs → ds = xs.map .int
  | [], xs, e => by cases e; rfl
  | .int x :: ds, xs, e => by
    have e' : (intsD ds).map (x :: ·) = some xs := e
    cases q : intsD ds with
    | none => rw [q] at e'; cases e'
    | some ys =>
      rw [q] at e'
      cases e'
      rw [ints_are q]; rfl
  | .none :: _, _, e => by cases e
  | .bool _ :: _, _, e => by cases e
  | .str _ :: _, _, e => by cases e
  | .list _ :: _, _, e => by cases e
  | .tuple _ :: _, _, e => by cases e
  | .dict _ :: _, _, e => by cases e
def maxLD : D → Option D
  | .list ds => (intsD ds).bind fun xs => match xs with
    | n :: ns => some (.int (ns.foldl max n))
    | [] => none
  | _ => none
section
variable {X : Cx}
theorem c_maxL (hc : X.calm = true) (hu : X.A.units + 64 < cLine) : CallR X (.builtin "max") (rC1 X.K maxLD) := by
  intro pins s σ H vs us Q I rv ⟨G, x, dx, d, ex, sb, hx, e, q⟩
  subst ex
  obtain ⟨u, rfl, rx⟩ := vals1 rv
  cases dx with
  | list ds =>
    have e' : ((intsD ds).bind fun xs => match xs with | n :: ns => some (PyData.int (ns.foldl max n)) | [] => none) = some d := e
    cases q1 : intsD ds with
    | none => rw [q1] at e'; cases e'
    | some xs =>
      rw [q1, Option.bind_some] at e'
      cases xs with
      | nil => cases e'
      | cons n ns =>
        cases e'
        have ed := ints_are q1
        subst ed
        have hp : (PyData.list ((n :: ns).map .int)).plain = true := by
          rw [PyData.plain]
          have : ∀ l : List Int, PyData.plainAll (l.map .int) = true := fun l => by
            induction l with
            | nil => rfl
            | cons a l ih => rw [List.map_cons, PyData.plainAll, ih]; rfl
          exact this _
        obtain ⟨as, r1⟩ := Dp.reads I _ x u (hx.dp sb hp) rx
        cases r1 with
        | list h1 h2 h3 h4 =>
          refine PySem.W.max_list_data (x := .int n) (xs := ns.map .int) (I.ok.hd hc) ⟨_, h1, h2, _, h3⟩ h4 ?_ ?_ fun i v h' tk bs _ hr hk => ?_
          · exact ⟨PySem.W.AllAlike.of (enc := PyData.int) (bs := n :: ns) fun _ _ => rfl, fun y hy => by
              have hy : y ∈ (n :: ns).map PyData.int := hy
              obtain ⟨k, _, rfl⟩ := List.mem_map.mp hy
              exact nofun⟩
          · have := PySem.W.depth_ints (n :: ns)
            rw [List.map_cons] at this
            rw [this]; omega
          · rw [PySem.W.maxD_ints] at hr
            cases hr
            exact ⟨.int _, H, I.kept (t' := tk) hk, ⟨_, rfl⟩, q _ _ _ (.refl sb) .int⟩
  | _ => cases e
end
end PD

namespace PD
open PySem PySem.Spec PyProof.Rows L2
-- slots: 0 _law_house_here, 1 _law_hook, 2 _law_found, 3 _law_rank, 4 _law_name, 5 _law_part_here, 6 _law_row
def ct__law_chain_0 : Env → Option Bool := (fB (f2 eqD (f2 ixD (fV 5) (fC (.int 0))) (fV 4)))
def ct__law_chain_1 : Env → Option Bool := (fAndB (fB (f2 eqD (f2 ixD (fV 6) (fC (.int 0))) (fV 1))) (fB (f2 eqD (f2 ixD (fV 6) (fC (.int 1))) (fV 3))))
def ce__law_chain_2 : Env → Option D := (fTup (fCons (fV 4) (fCons (fV 3) (fCons (f2 ixD (fV 6) (fC (.int 2))) fNil))))
def lb__law_chain_3 : Env → Option Res := (qSeq (qSet 5 (f2 ixD (fLc (fIt (fV 0)) [5] (sN 5) ct__law_chain_0 (fV 5)) (fC (.int 0))))
    (qSet 2 (f2 catD (fV 2) (fLc (fIt (f2 ixD (fV 5) (fC (.int 4)))) [6] (sN 6) ct__law_chain_1 ce__law_chain_2))))
def lb__law_chain_4 : Env → Option Res := (qFor (fIt (fCall m__law_order 1 (fCons (fV 0) fNil))) (sN 4) lb__law_chain_3)
def g__law_chain : Env → Option Res := (qSeq (qSet 2 (fLst fNil))
    (qSeq (qFor (fR2 (f1 negD (fC (.int 9))) (fC (.int 10))) (sN 3) lb__law_chain_4)
    (qRet (fV 2))))
def m__law_chain : List D → Option D := bodyD 7 g__law_chain
-- slots: 0 _law_house_here, 1 _law_hook, 2 _law_worth, 3 _law_name, 4 _law_rank, 5 _law_deed, 6 _law_some
def lb__law_pulled_0 : Env → Option Res := (qSeq (qIf (fB (f2 eqD (f2 ixD (fV 5) (fC (.int 0))) (fC (.str "stop")))) qBrk qNil)
    (qSeq (qIf (fAndB (fB (f2 eqD (f2 ixD (fV 5) (fC (.int 0))) (fC (.str "fail")))) (fB (f2 geD (fV 2) (f2 ixD (fV 5) (fC (.int 1)))))) (qRet (fTup (fCons (fV 2) (fCons (fV 3) fNil)))) qNil)
    (qSeq (qSet 6 (fDisp [((fC (.str "plus")), (f2 addD (fV 2) (f2 ixD (fV 5) (fC (.int 1))))), ((fC (.str "times")), (f2 timesD (fV 2) (f2 ixD (fV 5) (fC (.int 1))))), ((fC (.str "set")), (f2 ixD (fV 5) (fC (.int 1)))), ((fC (.str "fail")), (fV 2))]))
    (qSet 2 (f2 modD (f2 ixD (fV 6) (f2 ixD (fV 5) (fC (.int 0)))) (fC (.int 1000)))))))
def g__law_pulled : Env → Option Res := (qSeq (qFor (fIt (fCall m__law_chain 2 (fCons (fV 0) (fCons (fV 1) fNil)))) (sTup (sCons (sN 3) (sCons (sN 4) (sCons (sN 5) sNil)))) lb__law_pulled_0)
    (qRet (fTup (fCons (fV 2) (fCons (fC .none) fNil)))))
def m__law_pulled : List D → Option D := bodyD 7 g__law_pulled
-- slots: 0 house, 1 name, 2 book, 3 names, 4 way, 5 one
def ct_ring_0 : Env → Option Bool := (fB (f2 inD (fV 5) (fV 3)))
def lc_ring_1 : Env → Option Bool := (fB (f2 eqD (f2 countD (fW 4) (f2 ixD (fW 4) (f1 negD (fC (.int 1))))) (fC (.int 1))))
def lb_ring_2 : Env → Option Res := (qApp 4 (f2 ixD (fLc (fIt (f2 ixD (fV 2) (f2 ixD (fW 4) (f1 negD (fC (.int 1)))))) [5] (sN 5) ct_ring_0 (fV 5)) (fC (.int 0))))
def g_ring : Env → Option Res := (qSeq (qSet 2 (fCall m_givers 1 (fCons (fV 0) fNil)))
    (qSeq (qSet 3 (fCall m_stuck 1 (fCons (fV 0) fNil)))
    (qSeq (qOwn 4 (fLst (fCons (fV 1) fNil)))
    (qSeq (whileS lc_ring_1 lb_ring_2 100000)
    (qRet (f1 tupD (fSl (fW 4) (partD (f2 indexLD (fW 4) (f2 ixD (fW 4) (f1 negD (fC (.int 1)))))) (partD (f1 negD (fC (.int 1)))))))))))
def m_ring : List D → Option D := bodyD 6 g_ring
end PD

/-! THE DATA LAYER 20: hosts. What their attributes hold, and the statements that change them. -/
namespace PD
open PySem PySem.Spec PyProof.Rows L2

/-! ### the attributes by name -/
theorem nPF : ¬ (("parts" : Str) = "faulty") := by decide +kernel
theorem nPR : ¬ (("parts" : Str) = "running") := by decide +kernel
theorem nPW : ¬ (("parts" : Str) = "rows") := by decide +kernel
theorem nFR : ¬ (("faulty" : Str) = "running") := by decide +kernel
theorem nFW : ¬ (("faulty" : Str) = "rows") := by decide +kernel
theorem nRW : ¬ (("running" : Str) = "rows") := by decide +kernel
theorem hFs_eq (pa fa ra : Addr) (v : V) : hFs pa fa ra v = [(("parts" : Str), V.ref pa), (("faulty" : Str), V.ref fa), (("running" : Str), v), (("rows" : Str), V.ref ra)] := by
  unfold hFs
  rw [show putF "parts" (V.ref pa) [] = [(("parts" : Str), V.ref pa)] from rfl]
  simp only [putF, if_neg nPF, if_neg nPR, if_neg nPW, if_neg nFR, if_neg nFW, if_neg nRW]
theorem hFs_parts (pa fa ra : Addr) (v : V) : (hFs pa fa ra v).lookup ("parts" : Str) = some (.ref pa) := by
  unfold hFs
  rw [lookup_putF, if_neg nPW, lookup_putF, if_neg nPR, lookup_putF, if_neg nPF, lookup_putF, if_pos rfl]
theorem hFs_faulty (pa fa ra : Addr) (v : V) : (hFs pa fa ra v).lookup ("faulty" : Str) = some (.ref fa) := by
  unfold hFs
  rw [lookup_putF, if_neg nFW, lookup_putF, if_neg nFR, lookup_putF, if_pos rfl]
theorem hFs_running (pa fa ra : Addr) (v : V) : (hFs pa fa ra v).lookup ("running" : Str) = some v := by
  unfold hFs
  rw [lookup_putF, if_neg nRW, lookup_putF, if_pos rfl]
theorem hFs_rows (pa fa ra : Addr) (v : V) : (hFs pa fa ra v).lookup ("rows" : Str) = some (.ref ra) := by
  unfold hFs
  rw [lookup_putF, if_pos rfl]
theorem hFs_put (pa fa ra : Addr) (v w : V) : putF "running" w (hFs pa fa ra v) = hFs pa fa ra w := by
  rw [hFs_eq, hFs_eq]
  simp only [putF, if_neg nPR, if_neg nFR, if_pos]
def hNo (m : Str) : Bool := !decide (m = "parts") && !decide (m = "faulty") && !decide (m = "running") && !decide (m = "rows")
theorem hFs_no {m : Str} (h : hNo m = true) (pa fa ra : Addr) (v : V) : (hFs pa fa ra v).lookup m = none := by
  unfold hNo at h
  simp only [Bool.and_eq_true, Bool.not_eq_true', decide_eq_false_iff_not] at h
  obtain ⟨⟨⟨h1, h2⟩, h3⟩, h4⟩ := h
  unfold hFs
  rw [lookup_putF, if_neg h4, lookup_putF, if_neg h3, lookup_putF, if_neg h2, lookup_putF, if_neg h1] <;> rfl
/-- what of the text the class must have -/
structure HTxt (K : PySem.W.Frag) (C : Addr) : Prop where
  cls : HostCls K C
  cl : Cls K C
  nP : NoAttr K C "parts"
  nF : NoAttr K C "faulty"
  nR : NoAttr K C "running"
  nW : NoAttr K C "rows"
/-- the two dicts -/
inductive HF where
  | parts | faulty
def HF.nm : HF → Str
  | .parts => "parts"
  | .faulty => "faulty"
def HF.ad (pa fa : Addr) : HF → Addr
  | .parts => pa
  | .faulty => fa
def HSt.get (t : HSt) : HF → List (D × D)
  | .parts => t.parts
  | .faulty => t.faulty
def HSt.put (t : HSt) (f : HF) (kvs : List (D × D)) : HSt := match f with
  | .parts => { t with parts := kvs }
  | .faulty => { t with faulty := kvs }
theorem HSt.put_get (t : HSt) (f : HF) : t.put f (t.get f) = t := by cases f <;> rfl
section
variable {K : PySem.W.Frag} {H G H' G' : Hp} {p dx pa fa ra C : Addr} {t : HSt}
theorem HTxt.no (T : HTxt K C) (f : HF) : NoAttr K C f.nm := by cases f; exact T.nP; exact T.nF
theorem hFs_dict (f : HF) (pa fa ra : Addr) (v : V) : (hFs pa fa ra v).lookup f.nm = some (.ref (f.ad pa fa)) := by
  cases f
  · exact hFs_parts pa fa ra v
  · exact hFs_faulty pa fa ra v
theorem HostAt.fld (h : HostAt K H G p dx pa fa ra t) (T : HTxt K C) : ∃ v, H p = some (.ins C dx (hFs pa fa ra v)) ∧ Dv K G t.run v := by
  obtain ⟨C', v, h1, h2, h3⟩ := h.ins
  have e : some (some (Value.ref C)) = some (some (Value.ref C')) := T.cls.symm.trans h1
  cases e
  exact ⟨v, h2, h3⟩
theorem HostAt.dict (h : HostAt K H G p dx pa fa ra t) (f : HF) : Own K H G (f.ad pa fa) (.dict (t.get f)) := by
  cases f
  · exact h.parts
  · exact h.faulty
theorem HostAt.live (h : HostAt K H G p dx pa fa ra t) : ∀ a ∈ [p, dx, pa, fa, ra], H a ≠ none := by
  obtain ⟨⟨C, v, h1, h2, h3⟩, h4, h5, h6, h7, h8⟩ := h
  intro a ha
  simp only [List.mem_cons, List.not_mem_nil, or_false] at ha
  rcases ha with rfl | rfl | rfl | rfl | rfl
  · rw [h2]; exact nofun
  · rw [h4]; exact nofun
  · exact h5.some
  · exact h6.some
  · exact h7.some
theorem HostAt.ex (x : Ex H G H' G') (h : HostAt K H G p dx pa fa ra t) : HostAt K H' G' p dx pa fa ra t :=
  h.keep (fun b hb => x.same.keep (h.live b hb)) x.gr
theorem HostAt.ob (h : HostAt K H G p dx pa fa ra t) : ObOk K H G [p, dx, pa, fa, ra] p (.host t) := ⟨dx, pa, fa, ra, rfl, h⟩
structure Ne5 (p dx pa fa ra : Addr) : Prop where
  a : p ≠ dx
  b : p ≠ pa
  c : p ≠ fa
  d : p ≠ ra
  e : dx ≠ pa
  f : dx ≠ fa
  g : dx ≠ ra
  h : pa ≠ fa
  i : pa ≠ ra
  j : fa ≠ ra
theorem ne5 (h : [p, dx, pa, fa, ra].Nodup) : Ne5 p dx pa fa ra := by
  simp only [List.nodup_cons, List.mem_cons, List.not_mem_nil, or_false, not_or] at h
  obtain ⟨⟨a, b, c, d⟩, ⟨e, f, g⟩, ⟨i, j⟩, k, _⟩ := h
  exact ⟨a, b, c, d, e, f, g, i, j, k⟩
/-- a dict of the host changes -/
theorem HostAt.put_dict (h : HostAt K H G p dx pa fa ra t) (f : HF) {kx : List (Key × V)} {kvs : List (D × D)} (l : kx.length ≤ sizeLine) (hd : DvKV K G kvs kx) :
    HostAt K (upd H (f.ad pa fa) (.dK kx)) G p dx pa fa ra (t.put f kvs) := by
  have n := ne5 h.nodup
  obtain ⟨⟨C, v, h1, h2, h3⟩, h4, h5, h6, h7, h8⟩ := h
  cases f
  · exact ⟨⟨C, v, h1, by rw [HF.ad, upd_ne n.b]; exact h2, h3⟩, by rw [HF.ad, upd_ne n.e]; exact h4, ⟨kx, upd_same, l, hd⟩, h6.keep (upd_ne n.h.symm) (.refl G), h7.keep (upd_ne n.i.symm) (.refl G), h8⟩
  · exact ⟨⟨C, v, h1, by rw [HF.ad, upd_ne n.c]; exact h2, h3⟩, by rw [HF.ad, upd_ne n.f]; exact h4, h5.keep (upd_ne n.h) (.refl G), ⟨kx, upd_same, l, hd⟩, h7.keep (upd_ne n.j.symm) (.refl G), h8⟩
/-- the list of the host changes -/
theorem HostAt.put_rows (h : HostAt K H G p dx pa fa ra t) {xs : List V} {ds : List D} (l : xs.length ≤ sizeLine) (hd : DvAll K G ds xs) :
    HostAt K (upd H ra (.lst xs)) G p dx pa fa ra { t with rows := ds } := by
  have n := ne5 h.nodup
  obtain ⟨⟨C, v, h1, h2, h3⟩, h4, h5, h6, h7, h8⟩ := h
  exact ⟨⟨C, v, h1, by rw [upd_ne n.d]; exact h2, h3⟩, by rw [upd_ne n.g]; exact h4, h5.keep (upd_ne n.i) (.refl G), h6.keep (upd_ne n.j) (.refl G), ⟨xs, upd_same, l, hd⟩, h8⟩
/-- .. what runs -/
theorem HostAt.put_run (h : HostAt K H G p dx pa fa ra t) (hc : HostCls K C) {w : V} {d : D} (hd : Dv K G d w) :
    HostAt K (upd H p (.ins C dx (hFs pa fa ra w))) G p dx pa fa ra { t with run := d } := by
  have n := ne5 h.nodup
  obtain ⟨⟨_, v, h1, h2, h3⟩, h4, h5, h6, h7, h8⟩ := h
  exact ⟨⟨C, w, hc, upd_same, hd⟩, by rw [upd_ne n.a.symm]; exact h4, h5.keep (upd_ne n.b.symm) (.refl G), h6.keep (upd_ne n.c.symm) (.refl G), h7.keep (upd_ne n.d.symm) (.refl G), h8⟩
/-- one foot changes behind a step that changes nothing -/
theorem Ex.foot {F : List Addr} {a : Addr} {o : HO} (x : Ex H G H' G') (ha : a ∈ F) (fr : ∀ b ∈ F, G b = none) (lv : ∀ b ∈ F, H b ≠ none) : ExM (· ∈ F) H G (upd H' a o) G' ∧ ∀ b ∈ F, G' b = none := by
  have fr' : ∀ b ∈ F, G' b = none := fun b hb => by rw [x.old b (lv b hb)]; exact fr b hb
  exact ⟨x.toM.trans (ExM.one (o := o) x.sub (fr' a ha)) fun b e => .inr (by rw [e]; exact ha), fr'⟩
theorem HF.mem (f : HF) : f.ad pa fa ∈ [p, dx, pa, fa, ra] := by cases f <;> simp [HF.ad]
end
/-! ### hosts in slots -/
def hostAt (env : Env) (i : Nat) : Option HSt := (obAt env i).bind fun t => match t with
  | .host t => some t
  | _ => none
def hostMut (env : Env) (i : Nat) : Option (Hold × HSt) := match env[i]? with
  | some (.obj k (.host t)) => match k with
    | .bor => none
    | .new => some (.new, t)
    | .slf => some (.slf, t)
  | _ => none
theorem hostMut_get {env : Env} {i : Nat} {k : Hold} {t : HSt} (h : hostMut env i = some (k, t)) : env[i]? = some (.obj k (.host t)) ∧ k ≠ .bor := by
  unfold hostMut at h
  split at h
  · rename_i q
    split at h <;> cases h
    · exact ⟨q, nofun⟩
    · exact ⟨q, nofun⟩
  · cases h
section
variable {K : PySem.W.Frag} {B : Bs} {G0 H G : Hp} {σ : L2.St} {env : Env}
theorem Rel.host (r : Rel K B G0 σ H G env) {i : Nat} {t : HSt} (h : hostAt env i = some t) : ∃ p dx pa fa ra, σ[i]? = some (some (.ref p)) ∧ HostAt K H G p dx pa fa ra t ∧ ∀ a ∈ [p, dx, pa, fa, ra], G a = none := by
  unfold hostAt at h
  cases e : obAt env i with
  | none => rw [e] at h; cases h
  | some o =>
    rw [e, Option.bind_some] at h
    cases o with
    | host t' =>
      cases h
      obtain ⟨p, F, h1, ⟨dx, pa, fa, ra, rfl, h2⟩, h3⟩ := r.look e
      exact ⟨p, dx, pa, fa, ra, h1, h2, h3⟩
    | dT _ => cases h
theorem Rel.hostC (r : Rel K B G0 σ H G env) {i : Nat} {k : Hold} {t : HSt} (h : hostMut env i = some (k, t)) : ∃ p dx pa fa ra, σ[i]? = some (some (.ref p)) ∧ HostAt K H G p dx pa fa ra t ∧ (∀ a ∈ [p, dx, pa, fa, ra], G a = none) ∧
    ∀ H' G' t', ExM (· ∈ [p, dx, pa, fa, ra]) H G H' G' → (∀ a ∈ [p, dx, pa, fa, ra], G' a = none) → HostAt K H' G' p dx pa fa ra t' → Rel K B G0 σ H' G' (env.set i (.obj k (.host t'))) := by
  obtain ⟨h1, h2⟩ := hostMut_get h
  obtain ⟨p, F, h3, ⟨dx, pa, fa, ra, rfl, h4⟩, h5, h6⟩ := r.changeObj h1 h2
  exact ⟨p, dx, pa, fa, ra, h3, h4, h5, fun H' G' t' y f ob => h6 H' G' _ y f ob.ob⟩
end

/-! ### readings -/
def fHRun (i : Nat) : Env → Option D := fun env => (hostAt env i).map fun t => t.run
def fHDict (i : Nat) (f : HF) : Env → Option D := fun env => (hostAt env i).map fun t => .dict (t.get f)
def fHRows (i : Nat) : Env → Option D := fun env => (hostAt env i).map fun t => .list t.rows
section
variable {X : Cx} {C : Addr} {i : Nat} {o e k v : Expr} {f fk fv : Env → Option D} {pos pos' apos bpos cpos : Pos}
theorem e_hrun (T : HTxt X.K C) (ho : PE X o (tVar i)) (hb : attributeBase o "running" X.env (eval o X.env) = eval o X.env := by rfl) : PE X (.Attribute o "running" pos) (tD X.K (fHRun i)) :=
  PE.to (pe_fld ho hb) fun σ H Q ⟨H0, G0, G, env, d, r, ef, q⟩ => by
    unfold fHRun at ef
    cases e1 : hostAt env i with
    | none => rw [e1] at ef; cases ef
    | some t =>
      rw [e1] at ef
      cases ef
      obtain ⟨p, dx, pa, fa, ra, e2, h, _⟩ := r.host e1
      obtain ⟨v, e3, hv⟩ := h.fld T
      exact ⟨_, e2, p, C, dx, _, v, rfl, e3, T.cl, T.nR, hFs_running _ _ _ _, q v H G (.refl r.sub) hv⟩
theorem w_hdict (T : HTxt X.K C) (fl : HF) (ho : PE X o (tVar i)) (hb : attributeBase o fl.nm X.env (eval o X.env) = eval o X.env := by rfl) : PE X (.Attribute o fl.nm pos) (tW X.K (fHDict i fl)) :=
  PE.to (pe_fld ho hb) fun σ H Q ⟨H0, G0, G, env, d, r, ef, q⟩ => by
    unfold fHDict at ef
    cases e1 : hostAt env i with
    | none => rw [e1] at ef; cases ef
    | some t =>
      rw [e1] at ef
      cases ef
      obtain ⟨p, dx, pa, fa, ra, e2, h, _⟩ := r.host e1
      obtain ⟨v, e3, hv⟩ := h.fld T
      obtain ⟨kx, e4, e5, e6⟩ := h.dict fl
      exact ⟨_, e2, p, C, dx, _, _, rfl, e3, T.cl, T.no fl, hFs_dict fl _ _ _ _, q _ H G (.refl r.sub) ⟨_, kx, rfl, .inl e4, e5, e6⟩⟩
theorem w_hrows (T : HTxt X.K C) (ho : PE X o (tVar i)) (hb : attributeBase o "rows" X.env (eval o X.env) = eval o X.env := by rfl) : PE X (.Attribute o "rows" pos) (tW X.K (fHRows i)) :=
  PE.to (pe_fld ho hb) fun σ H Q ⟨H0, G0, G, env, d, r, ef, q⟩ => by
    unfold fHRows at ef
    cases e1 : hostAt env i with
    | none => rw [e1] at ef; cases ef
    | some t =>
      rw [e1] at ef
      cases ef
      obtain ⟨p, dx, pa, fa, ra, e2, h, _⟩ := r.host e1
      obtain ⟨v, e3, hv⟩ := h.fld T
      obtain ⟨xs, e4, e5, e6⟩ := h.rows
      exact ⟨_, e2, p, C, dx, _, _, rfl, e3, T.cl, T.nW, hFs_rows _ _ _ _, q _ H G (.refl r.sub) ⟨_, xs, rfl, .of e4, e5, e6⟩⟩

/-! ### the statements that change a host -/
/-- o.dict[k] = v -/
def qHPut (i : Nat) (fl : HF) (fk fv : Env → Option D) : Env → Option Res := fun env => (hostMut env i).bind fun kt => (fv env).bind fun d => (fk env).bind fun k => (toKey k).bind fun key =>
  if (kt.2.get fl).length < sizeLine then some (.next (env.set i (.obj kt.1 (.host (kt.2.put fl (putKV (kt.2.get fl) key d)))))) else none
theorem key_val {K : PySem.W.Frag} {G : Hp} {dk : D} {key : Key} {w : V} (e3 : toKey dk = some key) (hw : Dv K G dk w) : w = kV key := by
  have ek := keyD_of e3
  subst ek
  cases key with
  | inl i => simp only [keyD, Dv] at hw; exact hw
  | inr z => simp only [keyD, Dv] at hw; exact hw.1
theorem s_hput (hu : X.A.units + 64 < cLine) (T : HTxt X.K C) (fl : HF) (ho : PE X o (tVar i)) (hk : PE X k (tD X.K fk)) (hv : PE X v (tD X.K fv)) (hb : attributeBase o fl.nm X.env (eval o X.env) = eval o X.env := by rfl)
    (hs : swapsWith v (some (.Subscript (.Attribute o fl.nm apos) k pos')) pos.line X.env = pure false := by rfl) :
    PS X (.Assign [.Subscript (.Attribute o fl.nm apos) k pos'] v pos) (sD X.K (qHPut i fl fk fv)) :=
  PS.to (ps_dput (by omega) (pe_fld ho hb) hk hv hs) fun CC σ H ⟨H0, G0, G, env, r, rl, ee, p⟩ => by
    unfold qHPut at ee
    cases e0 : hostMut env i with
    | none => rw [e0] at ee; cases ee
    | some kt =>
      obtain ⟨hk, t⟩ := kt
      cases e1 : fv env with
      | none => rw [e0, e1] at ee; cases ee
      | some dv =>
        cases e2 : fk env with
        | none => rw [e0, e1, e2] at ee; cases ee
        | some dk =>
          rw [e0, e1, e2, Option.bind_some, Option.bind_some, Option.bind_some] at ee
          cases e3 : toKey dk with
          | none => rw [e3] at ee; cases ee
          | some key =>
            rw [e3, Option.bind_some] at ee
            split at ee
            · rename_i hlt
              cases ee
              refine ⟨H0, G0, G, env, dv, rl, e1, fun y H1 G1 x1 hy => ?_⟩
              have rl1 := rl.next x1
              obtain ⟨q, dx, pa, fa, ra, k1, k2, k3, k4⟩ := rl1.hostC e0
              obtain ⟨w, k5, _⟩ := k2.fld T
              obtain ⟨kx, k6, k7, k8⟩ := k2.dict fl
              refine ⟨_, k1, q, C, dx, _, _, rfl, k5, T.cl, T.no fl, hFs_dict fl _ _ _ _, H0, G0, G1, env, dk, rl1, e2, fun w H2 G2 x2 hw => ?_⟩
              have ew := key_val e3 hw
              subst ew
              refine ⟨fl.ad pa fa, _, rfl, .inl ⟨kx, key, x2.same _ _ k6, rfl, by rw [k8.length]; exact hlt, rfl⟩, ?_⟩
              obtain ⟨y1, y2⟩ := x2.foot (o := .dK (putK kx key y)) (HF.mem fl) k3 k2.live
              exact p _ _ G2 (k4 _ _ _ y1 y2 ((k2.ex x2).put_dict fl (putK_len (by rw [k8.length]; exact hlt)) ((k8.mono x2.gr).put (hy.mono x2.gr)))) (x1.gr.trans x2.gr)
            · cases ee
/-- o.dict.pop(k), o.dict.pop(k, None) as statements -/
def qHPop (i : Nat) (fl : HF) (fk : Env → Option D) : Env → Option Res := fun env => (hostMut env i).bind fun kt => (fk env).bind fun k => (toKey k).bind fun key =>
  if (getKV (kt.2.get fl) key).isSome = true then some (.next (env.set i (.obj kt.1 (.host (kt.2.put fl (dropKV (kt.2.get fl) key)))))) else none
def qHPop2 (i : Nat) (fl : HF) (fk : Env → Option D) : Env → Option Res := fun env => (hostMut env i).bind fun kt => (fk env).bind fun k => (toKey k).bind fun key =>
  some (.next (env.set i (.obj kt.1 (.host (kt.2.put fl (dropKV (kt.2.get fl) key))))))
theorem dropKV_none : ∀ {kvs : List (D × D)} {key : Key}, getKV kvs key = none → dropKV kvs key = kvs
  | [], _, _ => rfl
  | (k, d) :: r, key, h => by
    unfold getKV at h
    unfold dropKV
    split at h
    · cases h
    · rename_i hn
      rw [if_neg hn, dropKV_none h]
theorem set_self {l : Env} {j : Nat} {s : Slot} (h : l[j]? = some s) : l.set j s = l := by
  apply List.ext_getElem?
  intro k
  by_cases hk : j = k
  · subst hk
    obtain ⟨hl, _⟩ := List.getElem?_eq_some_iff.mp h
    rw [List.getElem?_set_self hl, h]
  · rw [List.getElem?_set_ne hk]
theorem DvKV.some_of {K : PySem.W.Frag} {G : Hp} {ds : List (D × D)} {vs : List (Key × V)} {key : Key} (h : DvKV K G ds vs) : (valV vs key).isSome = (getKV ds key).isSome := by
  obtain ⟨h1, h2⟩ := h.get key
  cases q : getKV ds key with
  | none => rw [h2 q]; rfl
  | some d => obtain ⟨v, e, _⟩ := h1 d q; rw [e]; rfl
theorem s_hpop2 (T : HTxt X.K C) (fl : HF) (ho : PE X o (tVar i)) (hk : PE X k (tD X.K fk)) {j npos} (m : M2 X (.Attribute o fl.nm bpos) "pop" apos k (.Constant .none j npos) cpos) (hb : attributeBase o fl.nm X.env (eval o X.env) = eval o X.env := by rfl)
    (hs : swapsWith (.Call (.Attribute (.Attribute o fl.nm bpos) "pop" apos) [k, .Constant .none j npos] [] cpos) none pos.line X.env = pure false := by rfl) :
    PS X (.Expr (.Call (.Attribute (.Attribute o fl.nm bpos) "pop" apos) [k, .Constant .none j npos] [] cpos) pos) (sD X.K (qHPop2 i fl fk)) :=
  PS.to (ps_expr (pe_dpop2 (pe_fld ho hb) hk pe_non m) hs) fun CC σ H ⟨H0, G0, G, env, r, rl, ee, p⟩ => by
    unfold qHPop2 at ee
    cases e0 : hostMut env i with
    | none => rw [e0] at ee; cases ee
    | some kt =>
      obtain ⟨hk, t⟩ := kt
      cases e2 : fk env with
      | none => rw [e0, e2] at ee; cases ee
      | some dk =>
        rw [e0, e2, Option.bind_some, Option.bind_some] at ee
        cases e3 : toKey dk with
        | none => rw [e3] at ee; cases ee
        | some key =>
          rw [e3, Option.bind_some] at ee
          cases ee
          obtain ⟨q, dx, pa, fa, ra, k1, k2, k3, k4⟩ := rl.hostC e0
          obtain ⟨w, k5, _⟩ := k2.fld T
          obtain ⟨kx, k6, k7, k8⟩ := k2.dict fl
          refine ⟨_, k1, q, C, dx, _, _, rfl, k5, T.cl, T.no fl, hFs_dict fl _ _ _ _, fl.ad pa fa, rfl, .inl ⟨kx, .inl k6⟩, H0, G0, G, env, dk, rl, e2, fun w H2 G2 x2 hw => ?_⟩
          have ew := key_val e3 hw
          subst ew
          refine ⟨kx, key, x2.same _ _ k6, rfl, fun v hv => ?_, fun hn => ?_⟩
          · obtain ⟨y1, y2⟩ := x2.foot (o := .dK (dropK kx key)) (HF.mem fl) k3 k2.live
            exact p _ _ G2 (k4 _ _ _ y1 y2 ((k2.ex x2).put_dict fl (Nat.le_trans (dropK_le kx key) k7) (k8.mono x2.gr).drop)) x2.gr
          · have hg : getKV (t.get fl) key = none := by
              have := k8.some_of (key := key)
              rw [hn] at this
              cases z : getKV (t.get fl) key with
              | none => rfl
              | some _ => rw [z] at this; cases this
            have hset : env.set i (Slot.obj hk (.host (t.put fl (dropKV (t.get fl) key)))) = env := by
              rw [dropKV_none hg, HSt.put_get]
              exact set_self (hostMut_get e0).1
            have p' : ∀ σ' H' G', Rel X.K H0 G0 σ' H' G' env → Gr G G' → CC.nx σ' H' := fun σ' H' G' rr gg => p σ' H' G' (by rw [hset]; exact rr) gg
            exact p' _ _ G2 (rl.next x2) x2.gr
theorem s_hpop (T : HTxt X.K C) (fl : HF) (ho : PE X o (tVar i)) (hk : PE X k (tD X.K fk)) (m : M1 X (.Attribute o fl.nm bpos) "pop" apos k cpos) (hb : attributeBase o fl.nm X.env (eval o X.env) = eval o X.env := by rfl)
    (hs : swapsWith (.Call (.Attribute (.Attribute o fl.nm bpos) "pop" apos) [k] [] cpos) none pos.line X.env = pure false := by rfl) :
    PS X (.Expr (.Call (.Attribute (.Attribute o fl.nm bpos) "pop" apos) [k] [] cpos) pos) (sD X.K (qHPop i fl fk)) :=
  PS.to (ps_expr (pe_dpop1 (pe_fld ho hb) hk m) hs) fun CC σ H ⟨H0, G0, G, env, r, rl, ee, p⟩ => by
    unfold qHPop at ee
    cases e0 : hostMut env i with
    | none => rw [e0] at ee; cases ee
    | some kt =>
      obtain ⟨hk, t⟩ := kt
      cases e2 : fk env with
      | none => rw [e0, e2] at ee; cases ee
      | some dk =>
        rw [e0, e2, Option.bind_some, Option.bind_some] at ee
        cases e3 : toKey dk with
        | none => rw [e3] at ee; cases ee
        | some key =>
          rw [e3, Option.bind_some] at ee
          split at ee
          · rename_i hsm
            cases ee
            obtain ⟨q, dx, pa, fa, ra, k1, k2, k3, k4⟩ := rl.hostC e0
            obtain ⟨w, k5, _⟩ := k2.fld T
            obtain ⟨kx, k6, k7, k8⟩ := k2.dict fl
            have hv := k8.some_of (key := key)
            rw [show (getKV (t.get fl) key).isSome = true from hsm] at hv
            obtain ⟨v, hv⟩ := Option.isSome_iff_exists.mp hv
            refine ⟨_, k1, q, C, dx, _, _, rfl, k5, T.cl, T.no fl, hFs_dict fl _ _ _ _, fl.ad pa fa, rfl, .inl ⟨kx, .inl k6⟩, H0, G0, G, env, dk, rl, e2, fun w H2 G2 x2 hw => ?_⟩
            have ew := key_val e3 hw
            subst ew
            refine ⟨kx, key, v, x2.same _ _ k6, rfl, hv, ?_⟩
            obtain ⟨y1, y2⟩ := x2.foot (o := .dK (dropK kx key)) (HF.mem fl) k3 k2.live
            exact p _ _ G2 (k4 _ _ _ y1 y2 ((k2.ex x2).put_dict fl (Nat.le_trans (dropK_le kx key) k7) (k8.mono x2.gr).drop)) x2.gr
          · cases ee
/-- o.rows.extend(e) -/
def qHExt (i : Nat) (f : Env → Option D) : Env → Option Res := fun env => (hostMut env i).bind fun kt => (f env).bind fun d => (seqD d).bind fun es =>
  if kt.2.rows.length + es.length ≤ sizeLine then some (.next (env.set i (.obj kt.1 (.host { kt.2 with rows := kt.2.rows ++ es })))) else none
theorem s_hext (T : HTxt X.K C) (ho : PE X o (tVar i)) (he : PE X e (tW X.K f)) (hb : attributeBase o "rows" X.env (eval o X.env) = eval o X.env := by rfl)
    (hbase : attributeBase (.Attribute o "rows" bpos) "extend" X.env (eval (.Attribute o "rows" bpos) X.env) = eval (.Attribute o "rows" bpos) X.env := by rfl)
    (hfew : ((backTo cpos (starEach [e] X.env)).all (fun x => !x.1) && (backToKw cpos (keywordEach [] X.env)).all (fun x => x.1.isSome) && decide ([e].length + ([] : List Keyword).length + (if ([] : List Keyword).isEmpty then 0 else 1) < 30)) = true := by rfl)
    (hline : (apos.endLine == cpos.line) = true := by rfl) (hs : starEach [e] X.env = (false, eval e X.env) :: starEach [] X.env := by rfl) (hplain : (backTo cpos (starEach [] X.env)).any (·.1) = false := by rfl)
    (hsw : swapsWith (.Call (.Attribute (.Attribute o "rows" bpos) "extend" apos) [e] [] cpos) none pos.line X.env = pure false := by rfl) :
    PS X (.Expr (.Call (.Attribute (.Attribute o "rows" bpos) "extend" apos) [e] [] cpos) pos) (sD X.K (qHExt i f)) :=
  PS.to (ps_expr (pe_bm PySem.F.plainAttrs_list PySem.F.slot_list_extend PySem.F.type_list_extend mt_extD (pe_fld ho hb) (a_one he hs) hbase hfew hline hs hplain) hsw) fun CC σ H ⟨H0, G0, G, env, r, rl, ee, p⟩ => by
    unfold qHExt at ee
    cases e0 : hostMut env i with
    | none => rw [e0] at ee; cases ee
    | some kt =>
      obtain ⟨hk, t⟩ := kt
      cases e1 : f env with
      | none => rw [e0, e1] at ee; cases ee
      | some d =>
        rw [e0, e1, Option.bind_some, Option.bind_some] at ee
        cases e2 : seqD d with
        | none => rw [e2] at ee; cases ee
        | some es =>
          rw [e2, Option.bind_some] at ee
          split at ee
          · rename_i hlt
            cases ee
            obtain ⟨q, dx, pa, fa, ra, k1, k2, k3, k4⟩ := rl.hostC e0
            obtain ⟨w, k5, _⟩ := k2.fld T
            obtain ⟨xs, k6, k7, k8⟩ := k2.rows
            refine ⟨_, k1, q, C, dx, _, _, rfl, k5, T.cl, T.nW, hFs_rows _ _ _ _, tyV_lst (.of k6), H0, G0, G, env, d, rl, e1, fun v H' G' x hv => ?_⟩
            have k8' := k8.mono x.gr
            have fin : ∀ b ys, v = .ref b → (SqL X.K H' b ys ∨ SqT X.K H' b ys) → DvAll X.K G' es ys → rExtD X.K (.ref ra) [v] H' fun _ H1 => CC.nx σ H1 := fun b ys ev hs hd' => by
              subst ev
              refine ⟨ra, b, xs, ys, rfl, rfl, x.same _ _ k6, hs, by rw [k8.length, hd'.length]; exact hlt, ?_⟩
              obtain ⟨y1, y2⟩ := x.foot (o := .lst (xs ++ ys)) (F := [q, dx, pa, fa, ra]) (a := ra) (by simp) k3 k2.live
              exact p _ _ G' (k4 _ _ _ y1 y2 ((k2.ex x).put_rows (by rw [List.length_append, k8.length, hd'.length]; exact hlt) (k8'.append hd'))) x.gr
            cases d with
            | list es' => cases e2; obtain ⟨b, ys, ev, h1, h2, h3⟩ := hv; exact fin b ys ev (.inl h1) h3
            | tuple es' => cases e2; obtain ⟨b, ys, ev, h1, h2, h3⟩ := hv.tup; exact fin b ys ev (.inr (x.sub.sqT h1)) h3
            | _ => cases e2
          · cases ee
/-- o.running = e -/
def qHRun (i : Nat) (f : Env → Option D) : Env → Option Res := fun env => (hostMut env i).bind fun kt => (f env).bind fun d => some (.next (env.set i (.obj kt.1 (.host { kt.2 with run := d }))))
theorem s_hrun (T : HTxt X.K C) (ho : PE X o (tVar i)) (he : PE X e (tD X.K f)) (hs : swapsWith e (some (.Attribute o "running" pos')) pos.line X.env = pure false := by rfl) :
    PS X (.Assign [.Attribute o "running" pos'] e pos) (sD X.K (qHRun i f)) :=
  PS.to (ps_fld ho he hs) fun CC σ H ⟨H0, G0, G, env, r, rl, ee, p⟩ => by
    unfold qHRun at ee
    cases e0 : hostMut env i with
    | none => rw [e0] at ee; cases ee
    | some kt =>
      obtain ⟨hk, t⟩ := kt
      cases e1 : f env with
      | none => rw [e0, e1] at ee; cases ee
      | some d =>
        rw [e0, e1, Option.bind_some, Option.bind_some] at ee
        cases ee
        refine ⟨H0, G0, G, env, d, rl, e1, fun y H1 G1 x1 hy => ?_⟩
        obtain ⟨q, dx, pa, fa, ra, k1, k2, k3, k4⟩ := (rl.next x1).hostC e0
        obtain ⟨w, k5, _⟩ := k2.fld T
        refine ⟨_, k1, q, C, dx, _, rfl, k5, T.cl, T.nR, (by rw [hFs_eq]; show 4 < 1000; decide), ?_⟩
        rw [hFs_put]
        obtain ⟨y1, y2⟩ := (Ex.refl (x1.sub)).foot (o := .ins C dx (hFs pa fa ra y)) (F := [q, dx, pa, fa, ra]) (a := q) (by simp) k3 k2.live
        exact p _ _ G1 (k4 _ _ _ y1 y2 (k2.put_run T.cls hy)) x1.gr
/-- a statement that is never reached -/
theorem s_no {st : Stmt} : PS X st (sD X.K fun _ => none) := ⟨fun pins s σ H CC I ⟨_, _, _, _, _, _, e, _⟩ => nomatch e⟩
end
end PD

/-! THE DATA LAYER 21: methods of hosts, calls of them, expressions that change a host. -/
namespace PD
open PySem PySem.Spec PyProof.Rows L2

/-! ### a method begins -/
def startO (N : Nat) (k : Hold) (t : HSt) (ds : List D) : Env := (.obj k (.host t) :: ds.map Slot.dat) ++ List.replicate (N - (ds.length + 1)) .un
theorem startO_get {N : Nat} {k : Hold} {t : HSt} {ds : List D} {i : Nat} {s : Slot} (h : (startO N k t ds)[i]? = some s) : (i = 0 ∧ s = .obj k (.host t)) ∨ (∃ j d, i = j + 1 ∧ ds[j]? = some d ∧ s = .dat d) ∨ s = .un := by
  unfold startO at h
  by_cases hi : i < ds.length + 1
  · rw [List.getElem?_append_left (by simpa using hi)] at h
    cases i with
    | zero => cases h; exact .inl ⟨rfl, rfl⟩
    | succ j =>
      rw [List.getElem?_cons_succ, List.getElem?_map] at h
      cases q : ds[j]? with
      | none => rw [q] at h; cases h
      | some d => rw [q] at h; cases h; exact .inr (.inl ⟨j, d, rfl, q, rfl⟩)
  · rw [List.getElem?_append_right (by simpa using hi), List.getElem?_replicate] at h
    split at h <;> cases h
    exact .inr (.inr rfl)
theorem rel_startO {K : PySem.W.Frag} {N : List Str} {ds : List D} {us : List V} {H G : Hp} {k : Hold} {t : HSt} {p : Addr} {F : List Addr} {B : Bs} (hN : us.length + 1 ≤ N.length) (sb : Sub G H) (h : DvAll K G ds us)
    (ob : ObOk K H G F p (.host t)) (fr : ∀ a ∈ F, G a = none) (hB : B.H = H) (hT : B.T = []) (hh : HoldOk B F p k) : Rel K B G (L2.start N (.ref p :: us)) H G (startO N.length k t ds) := by
  have hl := h.length
  refine ⟨fun i => if i = 0 then F else [], by unfold ExB; rw [hB]; exact ExM.refl sb, ?_, fun {i d} e => ?_, fun {i d} e => ?_, fun {i k' t'} e => ?_, fun {i a} e => ?_, fun {i j a} h1 h2 => ?_, by rw [hT]; exact nofun, by rw [hT]; exact nofun⟩
  · unfold L2.start startO
    simp only [List.length_append, List.length_map, List.length_replicate, List.length_cons]
    omega
  · rcases startO_get e with ⟨_, e⟩ | ⟨j, d', ei, q, e⟩ | e
    · cases e
    · cases e
      obtain ⟨v, e1, e2⟩ := h.get q
      subst ei
      exact ⟨v, start_get (by rw [List.getElem?_cons_succ]; exact e1), e2⟩
    · cases e
  · rcases startO_get e with ⟨_, e⟩ | ⟨j, d', ei, q, e⟩ | e <;> cases e
  · rcases startO_get e with ⟨ei, e⟩ | ⟨j, d', ei, q, e⟩ | e
    · cases e
      subst ei
      exact ⟨p, start_get rfl, by rw [if_pos rfl]; exact ob, by rw [if_pos rfl]; exact hh⟩
    · cases e
    · cases e
  · by_cases hi : i = 0
    · rw [if_pos hi] at e; exact ⟨fr a e, ob.ord a e⟩
    · rw [if_neg hi] at e; cases e
  · by_cases hi : i = 0
    · by_cases hj : j = 0
      · rw [hi, hj]
      · rw [if_neg hj] at h2; cases h2
    · rw [if_neg hi] at h1; cases h1
/-! ### promises -/
/-- a method that only looks -/
def spHP (K : PySem.W.Frag) (m : HSt → Option D) : Sp := fun vs H Q _ => ∃ G F p t d, Sub G H ∧ vs = [.ref p] ∧ ObOk K H G F p (.host t) ∧ (∀ a ∈ F, G a = none) ∧ m t = some d ∧ ∀ v H' G', Ex H G H' G' → Dv K G' d v → Q v H'
/-- a method that changes its host -/
def spHM (K : PySem.W.Frag) (n : Nat) (m : HSt → List D → Option (D × HSt)) : Sp := fun vs H Q _ => ∃ G F p t ds us d t', Sub G H ∧ vs = .ref p :: us ∧ ObOk K H G F p (.host t) ∧ (∀ a ∈ F, G a = none) ∧ DvAll K G ds us ∧ ds.length = n ∧
  m t ds = some (d, t') ∧ ∀ v H' G', ExM (· ∈ F) H G H' G' → (∀ a ∈ F, G' a = none) → ObOk K H' G' F p (.host t') → Dv K G' d v → Q v H'
def bodyHP (N : Nat) (g : Env → Option Res) (t : HSt) : Option D := (g (startO N .bor t [])).bind fun r => match r with
  | .ret d => some d
  | _ => none
def slfAt (env : Env) : Option HSt := match env[(0 : Nat)]? with
  | some (.obj .slf (.host t)) => some t
  | _ => none
def bodyHM (N : Nat) (g : Env → Option Res) (t : HSt) (ds : List D) : Option (D × HSt) := (g (startO N .slf t ds)).bind fun r => match r with
  | .next env => (slfAt env).map fun t' => (.none, t')
  | _ => none
def bodyHR (N : Nat) (g : Env → Option Res) (f : Env → Option D) (t : HSt) (ds : List D) : Option (D × HSt) := (g (startO N .slf t ds)).bind fun r => match r with
  | .next env => (f env).bind fun d => (slfAt env).map fun t' => (d, t')
  | _ => none
theorem slfAt_get {env : Env} {t : HSt} (h : slfAt env = some t) : env[(0 : Nat)]? = some (.obj .slf (.host t)) := by
  unfold slfAt at h
  split at h
  · rename_i q; cases h; exact q
  · cases h
/-- the end of a method that changes its host -/
theorem Rel.slf {K : PySem.W.Frag} {H G0 H' G' : Hp} {p : Addr} {F : List Addr} {σ : L2.St} {env : Env} {t : HSt} (r : Rel K ⟨H, p, F, []⟩ G0 σ H' G' env) (h : slfAt env = some t) :
    ExM (· ∈ F) H G0 H' G' ∧ (∀ a ∈ F, G' a = none) ∧ ObOk K H' G' F p (.host t) := by
  obtain ⟨W, r⟩ := r
  obtain ⟨q, _, ob, e1, e2⟩ := r.obj (slfAt_get h)
  have e1' : q = p := e1
  have e2' : W 0 = F := e2
  subst e1'
  refine ⟨r.ex.mono fun a ha => ?_, fun a ha => (r.foot (i := 0) (by rw [e2']; exact ha)).1, by rw [e2'] at ob; exact ob⟩
  rcases ha with ha | ⟨_, ha⟩
  · exact .inr ha
  · cases ha
/-- a body whose last statement hands a value out, the slots known -/
def tBody (K : PySem.W.Frag) (g : Env → Option Res) (f : Env → Option D) : TS := fun C σ H => ∃ B G0 G env env1 d, Rel K B G0 σ H G env ∧ g env = some (.next env1) ∧ f env1 = some d ∧
  ∀ v σ' H' G', Rel K B G0 σ' H' G' env1 → Dv K G' d v → C.rt v H'
section
variable {X : Cx} {st : Stmt} {rest : List Stmt} {g h : Env → Option Res} {e : Expr} {f : Env → Option D} {pos : Pos}
theorem ss_body1 (he : PE X e (tD X.K f)) : PSs X [.Return (some e) pos] (tBody X.K qNil f) := PSs.to (pss_one (ps_ret he)) fun C σ H ⟨B, G0, G, env, env1, d, r, e1, e2, q⟩ => by
  cases e1
  exact ⟨B, G0, G, env, d, r, e2, fun v H' G' x hv => q v σ H' G' (r.next x) hv⟩
theorem ss_body (h1 : PS X st (sD X.K g)) (h2 : PSs X rest (tBody X.K h f)) : PSs X (st :: rest) (tBody X.K (qSeq g h) f) := PSs.to (pss_cons h1 h2) fun C σ H ⟨B, G0, G, env, env1, d, r, e1, e2, q⟩ => by
  unfold qSeq at e1
  cases e3 : g env with
  | none => rw [e3] at e1; cases e1
  | some r1 =>
    rw [e3, Option.bind_some] at e1
    refine ⟨B, G0, G, env, r1, r, e3, ?_⟩
    cases r1 with
    | next env' => exact fun σ' H' G' rl' _ => ⟨B, G0, G', env', env1, d, rl', e1, e2, q⟩
    | brk _ => cases e1
    | cont _ => cases e1
    | ret _ => cases e1
end
section
variable {P : Program} {w : World} {K : PySem.W.Frag} {mg : Str → Option Value} {base : Heap}
theorem fn_hp {x qual : Str} {params : Arguments} {body : List Stmt} {scope : Scope} {f : Addr} {fd : FuncData} {N : List Str} {k : Nat} {g : Env → Option Res} (F : FunD K x qual params body scope [] [] f fd) (S : FnScope N ["self"] scope)
    (hbody : ∀ (cdv : Value) (A : Around) (outer : List PySem.Env) (s : Shared) (H : Hp) (E : XK), Room k (A.deeper (envOfC qual scope s.heap.objs.size f cdv)) →
      PSs (cxOf CX0 P w K mg base N qual scope f cdv A outer s H E).nox body (sD K g)) : FnOk P w K mg base CX0 (k + 1) f fd ["self"] (spHP K (bodyHP N.length g)) := by
  refine F.ok S (fun vs H Q E h => ?_) (fun cdv A outer s H vs Q E hr h => ⟨sD K g, (hbody cdv A outer s H E hr).nox, ?_⟩)
  · obtain ⟨G, F, p, t, d, _, rfl, _⟩ := h
    rfl
  · obtain ⟨G, F, p, t, d, sb, rfl, ob, fr, e, q⟩ := h
    have hN : 1 ≤ N.length := by
      have := congrArg List.length S.pre
      rw [List.length_take] at this
      simp only [List.length_cons, List.length_nil] at this
      omega
    have rl := rel_startO (B := .of H) (k := .bor) (N := N) (us := []) hN sb DvAll.nil ob fr rfl rfl True.intro
    unfold bodyHP at e
    cases e1 : g (startO N.length .bor t []) with
    | none => rw [e1] at e; cases e
    | some r =>
      rw [e1, Option.bind_some] at e
      refine ⟨.of H, G, G, _, r, rl, e1, ?_⟩
      cases r with
      | ret d' => cases e; exact fun v H' G' x hv => q v H' G' x.ofEx hv
      | _ => cases e
theorem fn_hm {x qual : Str} {params : Arguments} {body : List Stmt} {scope : Scope} {f : Addr} {fd : FuncData} {N ps : List Str} {k n : Nat} {g : Env → Option Res} (F : FunD K x qual params body scope [] [] f fd) (S : FnScope N ps scope) (hn : ps.length = n + 1)
    (hbody : ∀ (cdv : Value) (A : Around) (outer : List PySem.Env) (s : Shared) (H : Hp) (E : XK), Room k (A.deeper (envOfC qual scope s.heap.objs.size f cdv)) →
      PSs (cxOf CX0 P w K mg base N qual scope f cdv A outer s H E).nox body (sD K g)) : FnOk P w K mg base CX0 (k + 1) f fd ps (spHM K n (bodyHM N.length g)) := by
  refine F.ok S (fun vs H Q E h => ?_) (fun cdv A outer s H vs Q E hr h => ⟨sD K g, (hbody cdv A outer s H E hr).nox, ?_⟩)
  · obtain ⟨G, F, p, t, ds, us, d, t', _, rfl, _, _, h1, h2, _⟩ := h
    rw [List.length_cons, h1.length, h2, hn]
  · obtain ⟨G, F, p, t, ds, us, d, t', sb, rfl, ob, fr, hv, hl, e, q⟩ := h
    have hN : us.length + 1 ≤ N.length := by
      have := congrArg List.length S.pre
      rw [List.length_take] at this
      have := hv.length
      omega
    have rl := rel_startO (B := ⟨H, p, F, []⟩) (k := .slf) (N := N) hN sb hv ob fr rfl rfl ⟨rfl, rfl⟩
    unfold bodyHM at e
    cases e1 : g (startO N.length .slf t ds) with
    | none => rw [e1] at e; cases e
    | some r =>
      rw [e1, Option.bind_some] at e
      refine ⟨⟨H, p, F, []⟩, G, G, _, r, rl, e1, ?_⟩
      cases r with
      | next env =>
        cases e2 : slfAt env with
        | none =>
          have e' : (slfAt env).map (fun t' => (PyData.none, t')) = some (d, t') := e
          rw [e2] at e'; cases e'
        | some t1 =>
          have e' : (slfAt env).map (fun t' => (PyData.none, t')) = some (d, t') := e
          rw [e2] at e'
          cases e'
          exact fun σ' H' G' rl' _ => let ⟨a, b, c⟩ := rl'.slf e2; q .non H' G' a b c .none_
      | _ => cases e
theorem fn_hr {x qual : Str} {params : Arguments} {body : List Stmt} {scope : Scope} {f : Addr} {fd : FuncData} {N ps : List Str} {k n : Nat} {g : Env → Option Res} {fr' : Env → Option D} (F : FunD K x qual params body scope [] [] f fd) (S : FnScope N ps scope) (hn : ps.length = n + 1)
    (hbody : ∀ (cdv : Value) (A : Around) (outer : List PySem.Env) (s : Shared) (H : Hp) (E : XK), Room k (A.deeper (envOfC qual scope s.heap.objs.size f cdv)) →
      PSs (cxOf CX0 P w K mg base N qual scope f cdv A outer s H E).nox body (tBody K g fr')) : FnOk P w K mg base CX0 (k + 1) f fd ps (spHM K n (bodyHR N.length g fr')) := by
  refine F.ok S (fun vs H Q E h => ?_) (fun cdv A outer s H vs Q E hr h => ⟨tBody K g fr', (hbody cdv A outer s H E hr).nox, ?_⟩)
  · obtain ⟨G, F, p, t, ds, us, d, t', _, rfl, _, _, h1, h2, _⟩ := h
    rw [List.length_cons, h1.length, h2, hn]
  · obtain ⟨G, F, p, t, ds, us, d, t', sb, rfl, ob, fr, hv, hl, e, q⟩ := h
    have hN : us.length + 1 ≤ N.length := by
      have := congrArg List.length S.pre
      rw [List.length_take] at this
      have := hv.length
      omega
    have rl := rel_startO (B := ⟨H, p, F, []⟩) (k := .slf) (N := N) hN sb hv ob fr rfl rfl ⟨rfl, rfl⟩
    unfold bodyHR at e
    cases e1 : g (startO N.length .slf t ds) with
    | none => rw [e1] at e; cases e
    | some r =>
      rw [e1, Option.bind_some] at e
      cases r with
      | next env =>
        have e' : (fr' env).bind (fun d => (slfAt env).map fun t' => (d, t')) = some (d, t') := e
        cases e3 : fr' env with
        | none => rw [e3] at e'; cases e'
        | some d1 =>
          rw [e3, Option.bind_some] at e'
          cases e2 : slfAt env with
          | none => rw [e2] at e'; cases e'
          | some t1 =>
            rw [e2] at e'
            cases e'
            exact ⟨⟨H, p, F, []⟩, G, G, _, env, _, rl, e1, e3, fun v σ' H' G' rl' hv => let ⟨a, b, c⟩ := rl'.slf e2; q v H' G' a b c hv⟩
      | _ => cases e
end

/-! ### calls -/
def fHP (i : Nat) (m : HSt → Option D) : Env → Option D := fun env => (hostAt env i).bind m
def fHM (i n : Nat) (m : HSt → List D → Option (D × HSt)) (fa : Env → Option (List D)) : Env → Option (D × Env) := fun env => (hostMut env i).bind fun kt => (fa env).bind fun ds => if ds.length = n then (m kt.2 ds).map fun r => (r.1, env.set i (.obj kt.1 (.host r.2))) else none
/-- an expression that may change what the slots hold -/
def tM (K : PySem.W.Frag) (f : Env → Option (D × Env)) : TE := fun σ H Q => ∃ B G0 G env d env', Rel K B G0 σ H G env ∧ f env = some (d, env') ∧ ∀ v H' G', Rel K B G0 σ H' G' env' → Gr G G' → Dv K G' d v → Q v H'
def tTM (K : PySem.W.Frag) (f : Env → Option (Bool × Env)) : TT := fun σ H Q => ∃ B G0 G env b env', Rel K B G0 σ H G env ∧ f env = some (b, env') ∧ ∀ H' G', Rel K B G0 σ H' G' env' → Gr G G' → Q b H'
def fP {α : Type} (f : Env → Option α) : Env → Option (α × Env) := fun env => (f env).map fun d => (d, env)
def f2M (g : D → D → Option D) (fa fb : Env → Option (D × Env)) : Env → Option (D × Env) := fun env => (fa env).bind fun a => (fb a.2).bind fun b => (g a.1 b.1).map fun d => (d, b.2)
def fBM (f : Env → Option (D × Env)) : Env → Option (Bool × Env) := fun env => (f env).bind fun d => (asB d.1).map fun b => (b, d.2)
def fAndM (f g : Env → Option (Bool × Env)) : Env → Option (Bool × Env) := fun env => (f env).bind fun b => if b.1 = true then g b.2 else some (false, b.2)
def fOrM (f g : Env → Option (Bool × Env)) : Env → Option (Bool × Env) := fun env => (f env).bind fun b => if b.1 = true then some (true, b.2) else g b.2
def fAndVM (f g : Env → Option (D × Env)) : Env → Option (D × Env) := fun env => (f env).bind fun b => match b.1 with
  | .bool true => g b.2
  | .bool false => some (.bool false, b.2)
  | _ => none
section
variable {X : Cx} {C : Addr} {i n k : Nat} {o e a b : Expr} {es rest : List Expr} {m : HSt → Option D} {mm : HSt → List D → Option (D × HSt)} {fa : Env → Option (List D)} {f : Addr} {fd : FuncData} {ps : List Str} {nm : Str} {pos apos : Pos} {f1' f2' : Env → Option (D × Env)} {t1 t2 : Env → Option (Bool × Env)}
theorem e_hp {pl : Sem Bool} (T : HTxt X.K C) (hm : Meth X.K C nm f) (F : FnOk X.prog X.w X.K X.mg X.base CX0 k f fd ["self"] (spHP X.K m)) (hr : Room k X.A) (hb : Binds X.K fd ["self"] []) (ho : PE X o (tVar i)) (hn : hNo nm = true := by decide +kernel)
    (ht : eval (.Call (.Attribute o nm apos) [] [] pos) X.env = (do
      let ov ← eval o X.env
      standAt apos.atName
      let (f, first) ← holding [ov] (getMethod ov nm pl)
      callWith pos f first (backTo pos (starEach [] X.env)) (backToKw pos (keywordEach [] X.env))) := by rfl) : PE X (.Call (.Attribute o nm apos) [] [] pos) (tD X.K (fHP i m)) :=
  PE.to (pe_meth0 ho T.cl hm F hr hb .nil pass0 ht) fun σ H Q ⟨B, G0, G, env, d, r, ef, q⟩ => by
    unfold fHP at ef
    cases e1 : hostAt env i with
    | none => rw [e1] at ef; cases ef
    | some t =>
      rw [e1, Option.bind_some] at ef
      obtain ⟨p, dx, pa, fa, ra, h1, h2, h3⟩ := r.host e1
      obtain ⟨v, h4, _⟩ := h2.fld T
      exact ⟨_, h1, p, dx, _, rfl, h4, hFs_no hn _ _ _ _, G, _, p, t, d, r.sub, rfl, h2.ob, h3, ef, fun v H' G' x hv => q v H' G' x hv⟩
theorem hm_to {B : Bs} {G0 G H : Hp} {σ : L2.St} {env : Env} {Q : VK} {ds : List D} {us : List V} {H1 G1 : Hp} {kt : Hold × HSt} {r1 : D × HSt} (rl : Rel X.K B G0 σ H G env) (x : Ex H G H1 G1) (e0 : hostMut env i = some kt) (hv : DvAll X.K G1 ds us) (hl : ds.length = n) (em : mm kt.2 ds = some r1)
    (q : ∀ v H' G', Rel X.K B G0 σ H' G' (env.set i (.obj kt.1 (.host r1.2))) → Gr G G' → Dv X.K G' r1.1 v → Q v H') : ∃ p, σ[i]? = some (some (.ref p)) ∧ ∀ E, spHM X.K n mm (.ref p :: us) H1 Q E := by
  obtain ⟨p, dx, pa, fa, ra, k1, k2, k3, k4⟩ := (rl.next x).hostC (k := kt.1) (t := kt.2) e0
  refine ⟨p, k1, fun E => ⟨G1, _, p, kt.2, ds, us, r1.1, r1.2, x.sub, rfl, k2.ob, k3, hv, hl, em, fun v H' G' y fr ob hd => ?_⟩⟩
  obtain ⟨dx', pa', fa', ra', eF, h⟩ := ob
  simp only [List.cons.injEq, and_true] at eF
  obtain ⟨_, rfl, rfl, rfl, rfl⟩ := eF
  exact q v H' G' (k4 H' G' _ y fr h) (x.gr.trans y.gr) hd
/-- o.m() that changes o -/
theorem m_h0 {pl : Sem Bool} (T : HTxt X.K C) (hm : Meth X.K C nm f) (F : FnOk X.prog X.w X.K X.mg X.base CX0 k f fd ps (spHM X.K 0 mm)) (hr : Room k X.A) (hb : Binds X.K fd ps []) (ho : PE X o (tVar i)) (hn : hNo nm = true := by decide +kernel)
    (ht : eval (.Call (.Attribute o nm apos) [] [] pos) X.env = (do
      let ov ← eval o X.env
      standAt apos.atName
      let (f, first) ← holding [ov] (getMethod ov nm pl)
      callWith pos f first (backTo pos (starEach [] X.env)) (backToKw pos (keywordEach [] X.env))) := by rfl) : PE X (.Call (.Attribute o nm apos) [] [] pos) (tM X.K (fHM i 0 mm fNil)) :=
  PE.to (pe_meth0 ho T.cl hm F hr hb .nil pass0 ht) fun σ H Q ⟨B, G0, G, env, d, env', r, ef, q⟩ => by
    unfold fHM at ef
    cases e0 : hostMut env i with
    | none => rw [e0] at ef; cases ef
    | some kt =>
      rw [e0, Option.bind_some] at ef
      have ef' : (mm kt.2 []).map (fun r => (r.1, env.set i (.obj kt.1 (.host r.2)))) = some (d, env') := ef
      cases em : mm kt.2 [] with
      | none => rw [em] at ef'; cases ef'
      | some r1 =>
        rw [em] at ef'
        cases ef'
        obtain ⟨p, k1, k2⟩ := hm_to (Q := Q) (mm := mm) (n := 0) r (.refl r.sub) e0 DvAll.nil rfl em fun v H' G' rl g hv => q v H' G' rl g hv
        obtain ⟨p', dx, pa, fa, ra, h1, h2, _, _⟩ := r.hostC (k := kt.1) (t := kt.2) e0
        rw [h1] at k1
        cases k1
        obtain ⟨v, h4, _⟩ := h2.fld T
        exact ⟨_, h1, p, dx, _, rfl, h4, hFs_no hn _ _ _ _, k2 fun _ _ _ => False⟩
/-- o.m(e, ..) that changes o -/
theorem m_h {pl : Sem Bool} (T : HTxt X.K C) (hm : Meth X.K C nm f) (F : FnOk X.prog X.w X.K X.mg X.base CX0 k f fd ps (spHM X.K n mm)) (hr : Room k X.A) (hb : Binds X.K fd ps []) (ho : PE X o (tVar i)) (ha : PA X (e :: es) (tDs X.K fa)) (hn : hNo nm = true := by decide +kernel)
    (hst : starEach (e :: es) X.env = (false, eval e X.env) :: starEach es X.env := by rfl) (hpl : (backTo pos (starEach es X.env)).any (·.1) = false := by rfl)
    (ht : eval (.Call (.Attribute o nm apos) (e :: es) [] pos) X.env = (do
      let ov ← eval o X.env
      standAt apos.atName
      let (f, first) ← holding [ov] (getMethod ov nm pl)
      callWith pos f first (backTo pos (starEach (e :: es) X.env)) (backToKw pos (keywordEach [] X.env))) := by rfl) : PE X (.Call (.Attribute o nm apos) (e :: es) [] pos) (tM X.K (fHM i n mm fa)) :=
  PE.to (pe_meth ho T.cl hm F hr hb .nil pass0 ha hst hpl ht) fun σ H Q ⟨B, G0, G, env, d, env', r, ef, q⟩ => by
    unfold fHM at ef
    cases e0 : hostMut env i with
    | none => rw [e0] at ef; cases ef
    | some kt =>
      rw [e0, Option.bind_some] at ef
      cases e1 : fa env with
      | none => rw [e1] at ef; cases ef
      | some ds =>
        rw [e1, Option.bind_some] at ef
        split at ef
        · rename_i hl
          cases em : mm kt.2 ds with
          | none => rw [em] at ef; cases ef
          | some r1 =>
            rw [em] at ef
            cases ef
            obtain ⟨p', dx, pa, fa, ra, h1, h2, _, _⟩ := r.hostC (k := kt.1) (t := kt.2) e0
            obtain ⟨v, h4, _⟩ := h2.fld T
            refine ⟨_, h1, p', dx, _, rfl, h4, hFs_no hn _ _ _ _, B, G0, G, env, ds, r, e1, fun us H1 G1 x hv => ?_⟩
            obtain ⟨p, k1, k2⟩ := hm_to (Q := Q) (mm := mm) (n := n) r x e0 hv hl em fun v H' G' rl g hv => q v H' G' rl g hv
            rw [h1] at k1
            cases k1
            rw [List.append_nil]
            exact k2 fun _ _ _ => False
        · cases ef
/-! ### expressions and tests that change -/
theorem m_of {fd' : Env → Option D} (h : PE X e (tD X.K fd')) : PE X e (tM X.K (fP fd')) := PE.to h fun σ H Q ⟨B, G0, G, env, d, env', r, ef, q⟩ => by
  unfold fP at ef
  cases e1 : fd' env with
  | none => rw [e1] at ef; cases ef
  | some d1 => rw [e1] at ef; cases ef; exact ⟨B, G0, G, env, _, r, e1, fun v H' G' x hv => q v H' G' (r.next x) x.gr hv⟩
theorem mt_of {p : Env → Option Bool} (h : PT X e (tT X.K p)) : PT X e (tTM X.K (fP p)) := PT.to h fun σ H Q ⟨B, G0, G, env, d, env', r, ef, q⟩ => by
  unfold fP at ef
  cases e1 : p env with
  | none => rw [e1] at ef; cases ef
  | some d1 => rw [e1] at ef; cases ef; exact ⟨B, G0, G, env, _, r, e1, fun H' G' x => q H' G' (r.next x) x.gr⟩
theorem two_toM {g : D → D → Option D} : ∀ σ H Q, tM X.K (f2M g f1' f2') σ H Q → tOp (rD2 X.K g) (tM X.K f1') (tM X.K f2') σ H Q := fun σ H Q ⟨B, G0, G, env, d, env', r, ef, q⟩ => by
  unfold f2M at ef
  cases e1 : f1' env with
  | none => rw [e1] at ef; cases ef
  | some r1 =>
    rw [e1, Option.bind_some] at ef
    cases e2 : f2' r1.2 with
    | none => rw [e2] at ef; cases ef
    | some r2 =>
      rw [e2, Option.bind_some] at ef
      cases e3 : g r1.1 r2.1 with
      | none => rw [e3] at ef; cases ef
      | some dd =>
        rw [e3] at ef
        cases ef
        refine ⟨B, G0, G, env, r1.1, r1.2, r, e1, fun x H1 G1 rl1 g1 hx => ⟨B, G0, G1, r1.2, r2.1, r2.2, rl1, e2, fun y H2 G2 rl2 g2 hy => ?_⟩⟩
        exact ⟨G2, r1.1, r2.1, _, rl2.sub, (hx.mono g2).sh rl2.sub, hy.sh rl2.sub, e3, fun v H' G' x3 hv => q v H' G' (rl2.next x3) ((g1.trans g2).trans x3.gr) hv⟩
theorem m_cmp {op : CmpOp} {g : D → D → Option D} (ho : OpR X (compareOp op) (rD2 X.K g)) (ha : PE X a (tM X.K f1')) (hb : PE X b (tM X.K f2')) (hm : behindInMarks op b = false := by first | exact nomark _ | rfl) : PE X (.Compare a [op] [b] pos) (tM X.K (f2M g f1' f2')) := PE.to (pe_cmpR ho ha hb hm) two_toM
theorem mt_cmp {op : CmpOp} {g : D → D → Option D} (ho : OpR X (compareOp op) (rD2 X.K g)) (ha : PE X a (tM X.K f1')) (hb : PE X b (tM X.K f2')) (hm : behindInMarks op b = false := by first | exact nomark _ | rfl) : PT X (.Compare a [op] [b] pos) (tTM X.K (fBM (f2M g f1' f2'))) :=
  PT.to (pt_cmpR ho ha hb hm) fun σ H Q ⟨B, G0, G, env, d, env', r, ef, q⟩ => by
    unfold fBM at ef
    cases e1 : f2M g f1' f2' env with
    | none => rw [e1] at ef; cases ef
    | some c =>
      obtain ⟨c, env2⟩ := c
      rw [e1, Option.bind_some] at ef
      cases c with
      | bool k =>
        cases ef
        exact two_toM σ H _ ⟨B, G0, G, env, _, _, r, e1, fun v H' G' rl g hv => ⟨_, by simpa only [Dv] using hv, q H' G' rl g⟩⟩
      | _ => cases ef
theorem mt_and1 (ha : PT X a (tTM X.K t1)) : PW X (.BoolOp .And [a] pos) (tTM X.K t1) := pw_and1 ha
theorem mt_or1 (ha : PT X a (tTM X.K t1)) : PW X (.BoolOp .Or [a] pos) (tTM X.K t1) := pw_or1 ha
theorem mt_and (ha : PT X a (tTM X.K t1)) (hb : PW X (.BoolOp .And (b :: rest) pos) (tTM X.K t2)) : PW X (.BoolOp .And (a :: b :: rest) pos) (tTM X.K (fAndM t1 t2)) :=
  PW_to (pw_and ha hb) fun σ H Q ⟨B, G0, G, env, d, env', r, ef, q⟩ => by
    unfold fAndM at ef
    cases e1 : t1 env with
    | none => rw [e1] at ef; cases ef
    | some c =>
      obtain ⟨c, env2⟩ := c
      rw [e1, Option.bind_some] at ef
      refine ⟨B, G0, G, env, c, env2, r, e1, fun H' G' rl g => ?_⟩
      cases c with
      | true => exact iteT ⟨B, G0, G', env2, d, env', rl, ef, fun H2 G2 rl2 g2 => q H2 G2 rl2 (g.trans g2)⟩
      | false => cases ef; exact iteF (q H' G' rl g)
theorem mt_or (ha : PT X a (tTM X.K t1)) (hb : PW X (.BoolOp .Or (b :: rest) pos) (tTM X.K t2)) : PW X (.BoolOp .Or (a :: b :: rest) pos) (tTM X.K (fOrM t1 t2)) :=
  PW_to (pw_or ha hb) fun σ H Q ⟨B, G0, G, env, d, env', r, ef, q⟩ => by
    unfold fOrM at ef
    cases e1 : t1 env with
    | none => rw [e1] at ef; cases ef
    | some c =>
      obtain ⟨c, env2⟩ := c
      rw [e1, Option.bind_some] at ef
      refine ⟨B, G0, G, env, c, env2, r, e1, fun H' G' rl g => ?_⟩
      cases c with
      | true => cases ef; exact iteT (q H' G' rl g)
      | false => exact iteF ⟨B, G0, G', env2, d, env', rl, ef, fun H2 G2 rl2 g2 => q H2 G2 rl2 (g.trans g2)⟩
theorem m_one {op} (h : PE X a (tM X.K f1')) : PE X (.BoolOp op [a] pos) (tM X.K f1') := pe_one h
theorem m_and (ha : PE X a (tM X.K f1')) (hb : PE X (.BoolOp .And (b :: rest) pos) (tM X.K f2')) : PE X (.BoolOp .And (a :: b :: rest) pos) (tM X.K (fAndVM f1' f2')) :=
  PE.to (pe_and ha hb) fun σ H Q ⟨B, G0, G, env, d, env', r, ef, q⟩ => by
    unfold fAndVM at ef
    cases e1 : f1' env with
    | none => rw [e1] at ef; cases ef
    | some c =>
      obtain ⟨c, env2⟩ := c
      rw [e1, Option.bind_some] at ef
      cases c with
      | bool k =>
        refine ⟨B, G0, G, env, _, env2, r, e1, fun v H' G' rl g hv => ?_⟩
        have ev : v = .bl k := by simpa only [Dv] using hv
        subst ev
        refine ⟨k, rfl, ?_⟩
        cases k with
        | true => exact iteT ⟨B, G0, G', env2, d, env', rl, ef, fun v H2 G2 rl2 g2 hv2 => q v H2 G2 rl2 (g.trans g2) hv2⟩
        | false => cases ef; exact iteF (q _ H' G' rl g .bool)
      | _ => cases ef
end
/-! ### statements -/
def qIfM (c : Env → Option (Bool × Env)) (g h : Env → Option Res) : Env → Option Res := fun env => (c env).bind fun b => if b.1 = true then g b.2 else h b.2
def qRetM (f : Env → Option (D × Env)) : Env → Option Res := fun env => (f env).map fun d => .ret d.1
def qDropM (f : Env → Option (D × Env)) : Env → Option Res := fun env => (f env).map fun d => .next d.2
def qSetM (i : Nat) (f : Env → Option (D × Env)) : Env → Option Res := fun env => (f env).map fun d => .next (d.2.set i (.dat d.1))
section
variable {X : Cx} {st : Stmt} {rest : List Stmt} {g h : Env → Option Res} {e : Expr} {f : Env → Option (D × Env)} {pos : Pos}
theorem s_ifM {c : Expr} {a b : List Stmt} {p : Env → Option (Bool × Env)} (hc : PT X c (tTM X.K p)) (ha : PSs X a (sD X.K g)) (hb : PSs X b (sD X.K h)) : PS X (.If c a b pos) (sD X.K (qIfM p g h)) :=
  PS.to (ps_if hc ha hb) fun C σ H ⟨H0, G0, G, env, r, rl, e, q⟩ => by
    unfold qIfM at e
    cases e1 : p env with
    | none => rw [e1] at e; cases e
    | some b =>
      obtain ⟨b, env2⟩ := b
      rw [e1, Option.bind_some] at e
      refine ⟨H0, G0, G, env, b, env2, rl, e1, fun H' G' rl' g => ?_⟩
      cases b with
      | true => exact iteT ⟨H0, G0, G', env2, r, rl', e, q.gr g⟩
      | false => exact iteF ⟨H0, G0, G', env2, r, rl', e, q.gr g⟩
theorem s_retM (he : PE X e (tM X.K f)) : PS X (.Return (some e) pos) (sD X.K (qRetM f)) := PS.to (ps_ret he) fun C σ H ⟨H0, G0, G, env, r, rl, ee, p⟩ => by
  unfold qRetM at ee
  cases e1 : f env with
  | none => rw [e1] at ee; cases ee
  | some d =>
    obtain ⟨d, env2⟩ := d
    rw [e1] at ee
    cases ee
    exact ⟨H0, G0, G, env, d, env2, rl, e1, fun v H' G' rl' _ hv => p v H' G' rl'.ex hv⟩
theorem s_exprM (he : PE X e (tM X.K f)) (hs : swapsWith e none pos.line X.env = pure false := by rfl) : PS X (.Expr e pos) (sD X.K (qDropM f)) := PS.to (ps_expr he hs) fun C σ H ⟨H0, G0, G, env, r, rl, ee, p⟩ => by
  unfold qDropM at ee
  cases e1 : f env with
  | none => rw [e1] at ee; cases ee
  | some d =>
    obtain ⟨d, env2⟩ := d
    rw [e1] at ee
    cases ee
    exact ⟨H0, G0, G, env, d, env2, rl, e1, fun v H' G' rl' g hv => p σ H' G' rl' g⟩
theorem s_setM {i : Nat} {x : Str} {pos' : Pos} (hN : X.N.Nodup) (hi : X.N[i]? = some x) (hx : Loc X.env.scope x) (he : PE X e (tM X.K f)) (hs : swapsWith e (some (.Name x pos')) pos.line X.env = pure false := by rfl) (hf : X.fn x = true ∨ X.env.scope.names.lookup x = some .local := by first | exact .inl rfl | exact .inr rfl | assumption) :
    PS X (.Assign [.Name x pos'] e pos) (sD X.K (qSetM i f)) := PS.to (ps_set hN hi hx he hs hf) fun C σ H ⟨H0, G0, G, env, r, rl, ee, p⟩ => by
  unfold qSetM at ee
  cases e1 : f env with
  | none => rw [e1] at ee; cases ee
  | some d =>
    obtain ⟨d, env2⟩ := d
    rw [e1] at ee
    cases ee
    exact ⟨H0, G0, G, env, d, env2, rl, e1, fun v H' G' rl' g hv => p _ H' G' (rl'.set hv) g⟩
end
end PD

/-! THE DATA LAYER 22: a host's dict handed to a def, new hosts, defs that hand a host out or take one. -/
namespace PD
open PySem PySem.Spec PyProof.Rows L2

/-! ### data without lists and dicts -/
mutual
def noLD : D → Bool
  | .list _ => false
  | .dict _ => false
  | .tuple ds => noLDs ds
  | _ => true
def noLDs : List D → Bool
  | [] => true
  | d :: ds => noLD d && noLDs ds
end
def erase (G : Hp) (a : Addr) : Hp := fun b => if b = a then none else G b
theorem erase_ne {G : Hp} {a b : Addr} (h : b ≠ a) : erase G a b = G b := by unfold erase; rw [if_neg h]
theorem erase_same {G : Hp} {a : Addr} : erase G a a = none := by unfold erase; rw [if_pos rfl]
mutual
theorem Dv.erase {K : PySem.W.Frag} {G : Hp} {a : Addr} {o : Obj} {kx : List (Key × V)} (hg : G a = some (.frz o (.dK kx))) : ∀ (d : D) (v : V), noLD d = true → Dv K G d v → Dv K (erase G a) d v
  | .none, _, _, h => by simp only [Dv] at h ⊢; exact h
  | .bool _, _, _, h => by simp only [Dv] at h ⊢; exact h
  | .int _, _, _, h => by simp only [Dv] at h ⊢; exact h
  | .str _, _, _, h => by simp only [Dv] at h ⊢; exact h
  | .list ds, v, n, h => by simp [noLD] at n
  | .dict ds, v, n, h => by simp [noLD] at n
  | .tuple ds, v, n, h => by
    rw [noLD] at n
    simp only [Dv] at h ⊢
    obtain ⟨b, xs, e, h1, h2, h3⟩ := h
    refine ⟨b, xs, e, h1.imp (fun ⟨o', h1, t⟩ => ⟨o', ?_, t⟩) id, h2, DvAll.erase hg ds xs n h3⟩
    rw [erase_ne (fun z => by subst z; rw [hg] at h1; cases h1)]
    exact h1
theorem DvAll.erase {K : PySem.W.Frag} {G : Hp} {a : Addr} {o : Obj} {kx : List (Key × V)} (hg : G a = some (.frz o (.dK kx))) : ∀ (ds : List D) (vs : List V), noLDs ds = true → DvAll K G ds vs → DvAll K (erase G a) ds vs
  | [], _, _, h => by rw [h.inv_nil]; exact .nil
  | d :: ds, vs, n, h => by
    rw [noLDs, Bool.and_eq_true] at n
    obtain ⟨v, r, rfl, h1, h2⟩ := h.inv
    exact .cons (Dv.erase hg d v n.1 h1) (DvAll.erase hg ds r n.2 h2)
end
/-! ### f(o.dict) -/
def fHBor (i : Nat) (fl : HF) (m : List D → Option D) : Env → Option D := fun env => (hostAt env i).bind fun t => (m [.dict (t.get fl)]).bind fun d => if noLD d = true then some d else none
section
variable {X : Cx} {C : Addr} {i k : Nat} {o : Expr} {m : List D → Option D} {f : Addr} {fd : FuncData} {ps : List Str} {x : Str} {p pos bpos : Pos}
theorem e_bor (T : HTxt X.K C) (fl : HF) (F : FnOk X.prog X.w X.K X.mg X.base CX0 k f fd ps (spD X.K 1 m)) (hr : Room k X.A) (hg : Gl X x) (hm : X.mg x = some (.ref f)) (hk : PySem.W.keepIn X.K (.ref f) = true) (hb : Binds X.K fd ps [])
    (ho : PE X o (tVar i)) (hat : attributeBase o fl.nm X.env (eval o X.env) = eval o X.env := by rfl) (hdb : (x == ("__debug__" : Str)) = false := by decide)
    (hs : starEach [.Attribute o fl.nm bpos] X.env = (false, eval (.Attribute o fl.nm bpos) X.env) :: starEach [] X.env := by rfl) (hpl : (backTo pos (starEach [] X.env)).any (·.1) = false := by rfl) :
    PE X (.Call (.Name x p) [.Attribute o fl.nm bpos] [] pos) (tD X.K (fHBor i fl m)) :=
  PE.to (pe_lock (pe_call F hr hg hm hk hb .nil pass0 (pa_cons (pe_fld ho hat) pa_nil hs) hdb hs hpl)) fun σ H Q ⟨B, G0, G, env, d, r, ef, q⟩ => by
    unfold fHBor at ef
    cases e1 : hostAt env i with
    | none => rw [e1] at ef; cases ef
    | some t =>
      rw [e1, Option.bind_some] at ef
      cases e2 : m [.dict (t.get fl)] with
      | none => rw [e2] at ef; cases ef
      | some d' =>
        rw [e2, Option.bind_some] at ef
        split at ef
        · rename_i hn
          cases ef
          obtain ⟨p', dx, pa, fa, ra, h1, h2, h3⟩ := r.host e1
          obtain ⟨v, h4, _⟩ := h2.fld T
          obtain ⟨kx, h5, h6, h7⟩ := h2.dict fl
          have n5 := ne5 h2.nodup
          have npa : p' ≠ fl.ad pa fa := by cases fl; exact n5.b; exact n5.c
          have ga : G (fl.ad pa fa) = none := h3 _ (HF.mem fl)
          refine ⟨fl.ad pa fa, _, h5, True.intro, fun od => ?_⟩
          refine ⟨_, h1, p', C, dx, _, _, rfl, by rw [upd_ne npa]; exact h4, T.cl, T.no fl, hFs_dict fl _ _ _ _, ?_⟩
          have sb : Sub (upd G (fl.ad pa fa) (.frz od (.dK kx))) (upd H (fl.ad pa fa) (.frz od (.dK kx))) := fun b w hb => by
            by_cases e : b = fl.ad pa fa
            · rw [e, upd_same] at hb; cases hb; rw [e]; exact upd_same
            · rw [upd_ne e] at hb ⊢; exact r.sub b w hb
          have gr : Gr G (upd G (fl.ad pa fa) (.frz od (.dK kx))) := fun b w hb => by rw [upd_ne (fun e => by rw [e, ga] at hb; cases hb)]; exact hb
          refine ⟨_, [.dict (t.get fl)], d, sb, .cons (by simp only [Dv]; exact ⟨_, kx, rfl, ⟨od, upd_same⟩, h6, h7.mono gr⟩) .nil, rfl, e2, fun v H' G' y hv => ?_⟩
          have hH : H' (fl.ad pa fa) = some (.frz od (.dK kx)) := y.same _ _ upd_same
          have hG : G' (fl.ad pa fa) = some (.frz od (.dK kx)) := y.gr _ _ upd_same
          refine ⟨hH, q v _ (erase G' (fl.ad pa fa)) ⟨fun b w hb => ?_, fun b w hb => ?_, fun b w hb => ?_, fun b hb => ?_⟩ (Dv.erase hG d v hn hv)⟩
          · by_cases e : b = fl.ad pa fa
            · rw [e, h5] at hb; cases hb; rw [e]; exact upd_same
            · rw [upd_ne e]; exact y.same b w (by rw [upd_ne e]; exact hb)
          · have e : b ≠ fl.ad pa fa := fun e => by rw [e, ga] at hb; cases hb
            rw [erase_ne e]; exact y.gr b w (by rw [upd_ne e]; exact hb)
          · by_cases e : b = fl.ad pa fa
            · rw [e, erase_same] at hb; cases hb
            · rw [erase_ne e] at hb; rw [upd_ne e]; exact y.sub b w hb
          · by_cases e : b = fl.ad pa fa
            · rw [e, erase_same, ga]
            · rw [erase_ne e, y.old b (by rw [upd_ne e]; exact hb), upd_ne e]
        · cases ef
end
/-! ### new hosts -/
def newHost : HSt := ⟨[], [], .tuple [], []⟩
/-- __init__ -/
def spInit (K : PySem.W.Frag) (C : Addr) : Sp := fun vs H Q _ => ∃ G p dx, Sub G H ∧ vs = [.ref p] ∧ H p = some (.ins C dx []) ∧ H dx = some (.own p) ∧ p ≠ dx ∧ G p = none ∧ G dx = none ∧
  ∀ pa fa ra H' G', (∀ a ∈ [pa, fa, ra], H a = none ∧ G' a = none) → ExM (· = p) H G H' G' → G' p = none → HostAt K H' G' p dx pa fa ra newHost → Q .non H'
theorem Ex.new_out {H G H' G' : Hp} {q : Addr} {o : HO} {F : Addr → Prop} (x : ExM F H G H' G') (n : H' q = none) : ExM F H G (upd H' q o) G' :=
  x.step (Ex.out x.sub n)
theorem Ex.new_frz {H G H' G' : Hp} {q : Addr} {o : HO} {F : Addr → Prop} (x : ExM F H G H' G') (n : H' q = none) : ExM F H G (upd H' q o) (upd G' q o) :=
  x.step (Ex.frz x.sub n)
theorem ExM.at {H G H' G' : Hp} {a : Addr} {o : HO} (x : ExM (· = a) H G H' G') (ha : H a ≠ none) (g : G' a = none) : ExM (· = a) H G (upd H' a o) G' :=
  x.trans (ExM.one (o := o) x.sub g) fun b e => .inr e
def tInit (K : PySem.W.Frag) : TS := fun CC σ H => ∃ C G p dx, HTxt K C ∧ σ[0]? = some (some (.ref p)) ∧ Sub G H ∧ H p = some (.ins C dx []) ∧ H dx = some (.own p) ∧ p ≠ dx ∧ G p = none ∧ G dx = none ∧
  ∀ pa fa ra H' G', (∀ a ∈ [pa, fa, ra], H a = none ∧ G' a = none) → ExM (· = p) H G H' G' → G' p = none → HostAt K H' G' p dx pa fa ra newHost → CC.nx σ H'
section
variable {X : Cx} {C : Addr} {o1 o2 o3 o4 : Expr} {a1 a2 a3 a4 b1 b2 b3 b4 c1 c2 c3 c4 : Pos} {j3}
theorem ss_init (h1 : PE X o1 (tVar 0)) (h2 : PE X o2 (tVar 0)) (h3 : PE X o3 (tVar 0)) (h4 : PE X o4 (tVar 0))
    (s1 : swapsWith (.Dict [] [] b1) (some (.Attribute o1 "parts" a1)) c1.line X.env = pure false := by rfl) (s2 : swapsWith (.Dict [] [] b2) (some (.Attribute o2 "faulty" a2)) c2.line X.env = pure false := by rfl)
    (s3 : swapsWith (.Tuple [] j3 b3) (some (.Attribute o3 "running" a3)) c3.line X.env = pure false := by rfl) (s4 : swapsWith (.List [] b4) (some (.Attribute o4 "rows" a4)) c4.line X.env = pure false := by rfl) :
    PSs X [.Assign [.Attribute o1 "parts" a1] (.Dict [] [] b1) c1, .Assign [.Attribute o2 "faulty" a2] (.Dict [] [] b2) c2, .Assign [.Attribute o3 "running" a3] (.Tuple [] j3 b3) c3, .Assign [.Attribute o4 "rows" a4] (.List [] b4) c4] (tInit X.K) :=
  PSs.to (pss_cons (ps_fld h1 pe_dnewK s1) (pss_cons (ps_fld h2 pe_dnewK s2) (pss_cons (ps_fld h3 (pe_tupF pa_nil) s3) (pss_one (ps_fld h4 (pe_lst pa_nil) s4))))) fun CC σ H ⟨C, G, p, dx, T, hσ, sb, hp, hdx, npd, gp, gdx, q⟩ => by
    have lp : H p ≠ none := by rw [hp]; exact nofun
    intro pa npa
    have e1 : p ≠ pa := fun e => by rw [e] at hp; rw [npa] at hp; cases hp
    have d1 : dx ≠ pa := fun e => by rw [e] at hdx; rw [npa] at hdx; cases hdx
    refine ⟨_, hσ, p, C, dx, [], rfl, by rw [upd_ne e1]; exact hp, T.cl, T.nP, by decide, ?_⟩
    have x1 := (Ex.new_out (o := .dK []) (ExM.refl (F := (· = p)) sb) npa).at (o := .ins C dx (putF "parts" (.ref pa) [])) lp gp
    intro fa nfa
    have pf : pa ≠ fa := fun e => by rw [← e] at nfa; rw [upd_ne (Ne.symm e1), upd_same] at nfa; cases nfa
    have e2 : p ≠ fa := fun e => by rw [← e] at nfa; rw [upd_same] at nfa; cases nfa
    have nfa0 : H fa = none := x1.free nfa
    have d2 : dx ≠ fa := fun e => by rw [e] at hdx; rw [nfa0] at hdx; cases hdx
    refine ⟨_, hσ, p, C, dx, _, rfl, by rw [upd_ne e2, upd_same], T.cl, T.nF, by show 1 < 1000; decide, ?_⟩
    have x2 := (Ex.new_out (o := .dK []) x1 nfa).at (o := .ins C dx (putF "faulty" (.ref fa) (putF "parts" (.ref pa) []))) lp gp
    refine ⟨by decide, fun ta o nta to => ?_⟩
    have nta0 : H ta = none := x2.free nta
    have e3 : p ≠ ta := fun e => by rw [← e] at nta; rw [upd_same] at nta; cases nta
    have pt : pa ≠ ta := fun e => by rw [← e] at nta; rw [upd_ne (Ne.symm e1), upd_ne pf, upd_ne (Ne.symm e1), upd_same] at nta; cases nta
    have ft : fa ≠ ta := fun e => by rw [← e] at nta; rw [upd_ne (Ne.symm e2), upd_same] at nta; cases nta
    have d3 : dx ≠ ta := fun e => by rw [e] at hdx; rw [nta0] at hdx; cases hdx
    refine ⟨_, hσ, p, C, dx, _, rfl, by rw [upd_ne e3, upd_same], T.cl, T.nR, by show (putF "faulty" _ (putF "parts" _ [])).length < 1000; exact Nat.lt_of_le_of_lt (length_putF _ _ _) (Nat.lt_of_le_of_lt (Nat.succ_le_succ (length_putF _ _ _)) (by decide)), ?_⟩
    have gp3 : upd G ta (.frz o (.tup [])) p = none := by rw [upd_ne e3]; exact gp
    have x3 := (Ex.new_frz (o := .frz o (.tup [])) x2 nta).at (o := .ins C dx (putF "running" (.ref ta) (putF "faulty" (.ref fa) (putF "parts" (.ref pa) [])))) lp gp3
    refine ⟨by decide, fun ra nra => ?_⟩
    have nra0 : H ra = none := x3.free nra
    have e4 : p ≠ ra := fun e => by rw [← e] at nra; rw [upd_same] at nra; cases nra
    have d4 : dx ≠ ra := fun e => by rw [e] at hdx; rw [nra0] at hdx; cases hdx
    have tr : ta ≠ ra := fun e => by rw [← e] at nra; rw [upd_ne (Ne.symm e3), upd_same] at nra; cases nra
    have pr : pa ≠ ra := fun e => by rw [← e] at nra; rw [upd_ne (Ne.symm e1), upd_ne pt, upd_ne (Ne.symm e1), upd_ne pf, upd_ne (Ne.symm e1), upd_same] at nra; cases nra
    have fr : fa ≠ ra := fun e => by rw [← e] at nra; rw [upd_ne (Ne.symm e2), upd_ne ft, upd_ne (Ne.symm e2), upd_same] at nra; cases nra
    refine ⟨_, hσ, p, C, dx, _, rfl, by rw [upd_ne e4, upd_same], T.cl, T.nW, Nat.lt_of_le_of_lt (length_putF _ _ _) (Nat.lt_of_le_of_lt (Nat.succ_le_succ (length_putF _ _ _)) (Nat.lt_of_le_of_lt (Nat.succ_le_succ (Nat.succ_le_succ (length_putF _ _ _))) (by decide))), ?_⟩
    have x4 := (Ex.new_out (o := .lst []) x3 nra).at (o := .ins C dx (hFs pa fa ra (.ref ta))) lp gp3
    refine q pa fa ra _ _ (fun a ha => ?_) x4 gp3 ⟨⟨C, .ref ta, T.cls, upd_same, ?_⟩, ?_, ⟨[], ?_, Nat.zero_le _, .nil⟩, ⟨[], ?_, Nat.zero_le _, .nil⟩, ⟨[], ?_, Nat.zero_le _, .nil⟩, ?_⟩
    · simp only [List.mem_cons, List.not_mem_nil, or_false] at ha
      rcases ha with rfl | rfl | rfl
      · exact ⟨npa, by rw [upd_ne pt]; exact sb.free npa⟩
      · exact ⟨nfa0, by rw [upd_ne ft]; exact sb.free nfa0⟩
      · exact ⟨nra0, by rw [upd_ne tr.symm]; exact sb.free nra0⟩
    · show Dv X.K _ (.tuple []) (.ref ta)
      simp only [Dv]
      exact ⟨ta, [], rfl, .inl ⟨o, upd_same, to⟩, Nat.zero_le _, .nil⟩
    · rw [upd_ne npd.symm, upd_ne d4, upd_ne npd.symm, upd_ne d3, upd_ne npd.symm, upd_ne d2, upd_ne npd.symm, upd_ne d1]; exact hdx
    · rw [upd_ne e1.symm, upd_ne pr, upd_ne e1.symm, upd_ne pt, upd_ne e1.symm, upd_ne pf, upd_ne e1.symm, upd_same]
    · rw [upd_ne e2.symm, upd_ne fr, upd_ne e2.symm, upd_ne ft, upd_ne e2.symm, upd_same]
    · rw [upd_ne e4.symm, upd_same]
    · simp only [List.nodup_cons, List.mem_cons, List.not_mem_nil, or_false, not_or, not_false_eq_true, List.nodup_nil, and_true]
      exact ⟨⟨npd, e1, e2, e4⟩, ⟨d1, d2, d4⟩, ⟨pf, pr⟩, fr⟩
end
section
variable {P : Program} {w : World} {K : PySem.W.Frag} {mg : Str → Option Value} {base : Heap}
theorem fn_init {x qual : Str} {params : Arguments} {body : List Stmt} {scope : Scope} {f C : Addr} {fd : FuncData} {N : List Str} {k : Nat} (T : HTxt K C) (F : FunD K x qual params body scope [] [] f fd) (S : FnScope N ["self"] scope)
    (hbody : ∀ (cdv : Value) (A : Around) (outer : List PySem.Env) (s : Shared) (H : Hp) (E : XK), Room k (A.deeper (envOfC qual scope s.heap.objs.size f cdv)) →
      PSs (cxOf CX0 P w K mg base N qual scope f cdv A outer s H E).nox body (tInit K)) : FnOk P w K mg base CX0 (k + 1) f fd ["self"] (spInit K C) := by
  refine F.ok S (fun vs H Q E h => ?_) (fun cdv A outer s H vs Q E hr h => ⟨tInit K, (hbody cdv A outer s H E hr).nox, ?_⟩)
  · obtain ⟨G, p, dx, _, rfl, _⟩ := h
    rfl
  · obtain ⟨G, p, dx, sb, rfl, hp, hdx, n, gp, gdx, q⟩ := h
    exact ⟨C, G, p, dx, T, start_get rfl, sb, hp, hdx, n, gp, gdx, fun pa fa ra H' G' h1 h2 h3 h4 => q pa fa ra H' G' h1 h2 h3 h4⟩
end
/-- an expression that makes a new host -/
def tO (K : PySem.W.Frag) (f : Env → Option HSt) : TE := fun σ H Q => ∃ B G0 G env t, Rel K B G0 σ H G env ∧ f env = some t ∧ ∀ p F H' G', Ex H G H' G' → (∀ a ∈ F, H a = none ∧ G' a = none) → ObOk K H' G' F p (.host t) → Q (.ref p) H'
def fNew : Env → Option HSt := fun _ => some newHost
def qObj (i : Nat) (f : Env → Option HSt) : Env → Option Res := fun env => (f env).map fun t => .next (env.set i (.obj .new (.host t)))
section
variable {X : Cx} {C : Addr} {i k n : Nat} {f : Addr} {fd : FuncData} {x : Str} {p pos : Pos} {e : Expr} {es : List Expr} {fo : Env → Option HSt}
theorem o_new (T : HTxt X.K C) (M : Mk X.K C f) (F : FnOk X.prog X.w X.K X.mg X.base CX0 k f fd ["self"] (spInit X.K C)) (hr : Room (k + 1) X.A) (hg : Gl X x) (hm : X.mg x = some (.ref C)) (hb : Binds X.K fd ["self"] [])
    (hdb : (x == ("__debug__" : Str)) = false := by decide) : PE X (.Call (.Name x p) [] [] pos) (tO X.K fNew) :=
  PE.to (pe_make0 M F hr hg hm hb .nil pass0 hdb) fun σ H Q ⟨B, G0, G, env, t, r, ef, q⟩ => by
    cases ef
    intro y dx ny ndx nn
    have x1 : Ex H G (upd H dx (.own y)) G := Ex.out r.sub ndx
    have ny' : upd H dx (.own y) y = none := by rw [upd_ne (Ne.symm nn)]; exact ny
    have x2 := x1.trans (Ex.out (o := .ins C dx []) x1.sub ny')
    refine ⟨G, y, dx, x2.sub, rfl, upd_same, by rw [upd_ne nn, upd_same], nn.symm, r.sub.free ny, r.sub.free ndx, fun pa fa ra H' G' h1 h2 h3 h4 => ⟨rfl, ?_⟩⟩
    have x3 : Ex H G H' G' := (x2.toM.trans h2 (F' := (· = y)) (F := NoF) fun a e => .inl (by rw [e]; exact ny)).toEx
    refine q y [y, dx, pa, fa, ra] H' G' x3 (fun a ha => ?_) h4.ob
    simp only [List.mem_cons, List.not_mem_nil, or_false] at ha
    rcases ha with rfl | rfl | ha
    · exact ⟨ny, h3⟩
    · exact ⟨ndx, by rw [h2.old _ (by rw [upd_ne nn, upd_same]; exact nofun) nn]; exact r.sub.free ndx⟩
    · have := h1 a (by simpa using ha)
      exact ⟨x2.same.free this.1, this.2⟩
theorem s_obj {pos' : Pos} (hN : X.N.Nodup) (hi : X.N[i]? = some x) (hx : Loc X.env.scope x) (he : PE X e (tO X.K fo)) (hs : swapsWith e (some (.Name x pos')) pos.line X.env = pure false := by rfl) (hf : X.fn x = true ∨ X.env.scope.names.lookup x = some .local := by first | exact .inl rfl | exact .inr rfl | assumption) :
    PS X (.Assign [.Name x pos'] e pos) (sD X.K (qObj i fo)) := PS.to (ps_set hN hi hx he hs hf) fun CC σ H ⟨B, G0, G, env, r, rl, ee, q⟩ => by
  unfold qObj at ee
  cases e1 : fo env with
  | none => rw [e1] at ee; cases ee
  | some t =>
    rw [e1] at ee
    cases ee
    exact ⟨B, G0, G, env, t, rl, e1, fun p F H' G' x h1 ob => q _ H' G' (rl.setObj x h1 ob) x.gr⟩
end
/-! ### defs that hand out a new host -/
def spO (K : PySem.W.Frag) (n : Nat) (m : List D → Option HSt) : Sp := fun vs H Q _ => ∃ G ds t, Sub G H ∧ DvAll K G ds vs ∧ ds.length = n ∧ m ds = some t ∧ ∀ p F H' G', Ex H G H' G' → (∀ a ∈ F, H a = none ∧ G' a = none) → ObOk K H' G' F p (.host t) → Q (.ref p) H'
def newAt (env : Env) (j : Nat) : Option HSt := match env[j]? with
  | some (.obj .new (.host t)) => some t
  | _ => none
theorem newAt_get {env : Env} {j : Nat} {t : HSt} (h : newAt env j = some t) : env[j]? = some (.obj .new (.host t)) := by
  unfold newAt at h
  split at h
  · rename_i q; cases h; exact q
  · cases h
def tBodyO (K : PySem.W.Frag) (g : Env → Option Res) (j : Nat) : TS := fun C σ H => ∃ B G0 G env env1 t, Rel K B G0 σ H G env ∧ g env = some (.next env1) ∧ newAt env1 j = some t ∧
  ∀ p F H' G', ExB B G0 H' G' → (∀ a ∈ F, B.H a = none ∧ G' a = none) → ObOk K H' G' F p (.host t) → C.rt (.ref p) H'
def bodyO (N : Nat) (g : Env → Option Res) (j : Nat) (ds : List D) : Option HSt := (g (startE N ds)).bind fun r => match r with
  | .next env => newAt env j
  | _ => none
section
variable {X : Cx} {st : Stmt} {rest : List Stmt} {g h : Env → Option Res} {e : Expr} {j : Nat} {pos : Pos}
theorem so_one (he : PE X e (tVar j)) : PSs X [.Return (some e) pos] (tBodyO X.K qNil j) := PSs.to (pss_one (ps_ret he)) fun C σ H ⟨B, G0, G, env, env1, t, r, e1, e2, q⟩ => by
  cases e1
  have ex := r.ex
  obtain ⟨W, r⟩ := r
  obtain ⟨p, h1, ob, h2⟩ := r.obj (newAt_get e2)
  exact ⟨_, h1, q p (W j) H G ex (fun a ha => ⟨h2 a ha, (r.foot ha).1⟩) ob⟩
theorem so_cons (h1 : PS X st (sD X.K g)) (h2 : PSs X rest (tBodyO X.K h j)) : PSs X (st :: rest) (tBodyO X.K (qSeq g h) j) := PSs.to (pss_cons h1 h2) fun C σ H ⟨B, G0, G, env, env1, d, r, e1, e2, q⟩ => by
  unfold qSeq at e1
  cases e3 : g env with
  | none => rw [e3] at e1; cases e1
  | some r1 =>
    rw [e3, Option.bind_some] at e1
    refine ⟨B, G0, G, env, r1, r, e3, ?_⟩
    cases r1 with
    | next env' => exact fun σ' H' G' rl' _ => ⟨B, G0, G', env', env1, d, rl', e1, e2, q⟩
    | brk _ => cases e1
    | cont _ => cases e1
    | ret _ => cases e1
end
section
variable {P : Program} {w : World} {K : PySem.W.Frag} {mg : Str → Option Value} {base : Heap}
theorem fn_o {x qual : Str} {params : Arguments} {body : List Stmt} {scope : Scope} {f : Addr} {fd : FuncData} {N ps : List Str} {k j : Nat} {g : Env → Option Res} (F : FunD K x qual params body scope [] [] f fd) (S : FnScope N ps scope)
    (hbody : ∀ (cdv : Value) (A : Around) (outer : List PySem.Env) (s : Shared) (H : Hp) (E : XK), Room k (A.deeper (envOfC qual scope s.heap.objs.size f cdv)) →
      PSs (cxOf CX0 P w K mg base N qual scope f cdv A outer s H E).nox body (tBodyO K g j)) : FnOk P w K mg base CX0 (k + 1) f fd ps (spO K ps.length (bodyO N.length g j)) := by
  refine F.ok S (fun vs H Q E h => ?_) (fun cdv A outer s H vs Q E hr h => ⟨tBodyO K g j, (hbody cdv A outer s H E hr).nox, ?_⟩)
  · obtain ⟨G, ds, t, _, h1, h2, _⟩ := h
    rw [h1.length, h2]
  · obtain ⟨G, ds, t, sb, hv, hl, e, q⟩ := h
    have hN : ps.length ≤ N.length := by
      have := congrArg List.length S.pre
      rw [List.length_take] at this
      omega
    have rl := rel_start (N := N) (by rw [hv.length, hl]; exact hN) sb hv
    unfold bodyO at e
    cases e1 : g (startE N.length ds) with
    | none => rw [e1] at e; cases e
    | some r =>
      rw [e1, Option.bind_some] at e
      cases r with
      | next env => exact ⟨.of H, G, G, _, env, t, rl, e1, e, fun p F H' G' x h1 ob => q p F H' G' x.ofEx h1 ob⟩
      | _ => cases e
end
section
variable {X : Cx} {k n : Nat} {f : Addr} {fd : FuncData} {ps : List Str} {x : Str} {p pos : Pos} {e : Expr} {es : List Expr} {fa : Env → Option (List D)} {m : List D → Option HSt} {i : Nat} {mb : HSt → List D → Option D}
def fCallO (m : List D → Option HSt) (n : Nat) (f : Env → Option (List D)) : Env → Option HSt := fun env => (f env).bind fun ds => if ds.length = n then m ds else none
theorem o_call (F : FnOk X.prog X.w X.K X.mg X.base CX0 k f fd ps (spO X.K n m)) (hr : Room k X.A) (hg : Gl X x) (hm : X.mg x = some (.ref f)) (hk : PySem.W.keepIn X.K (.ref f) = true) (hb : Binds X.K fd ps [])
    (ha : PA X (e :: es) (tDs X.K fa)) (hdb : (x == ("__debug__" : Str)) = false := by decide) (he : starEach (e :: es) X.env = (false, eval e X.env) :: starEach es X.env := by rfl) (hpl : (backTo pos (starEach es X.env)).any (·.1) = false := by rfl) :
    PE X (.Call (.Name x p) (e :: es) [] pos) (tO X.K (fCallO m n fa)) :=
  PE.to (pe_call F hr hg hm hk hb .nil pass0 ha hdb he hpl) fun σ H Q ⟨H0, G0, G, env, d, r, ef, q⟩ => by
    unfold fCallO at ef
    cases e1 : fa env with
    | none => rw [e1] at ef; cases ef
    | some ds =>
      rw [e1, Option.bind_some] at ef
      split at ef
      · rename_i hl
        refine ⟨H0, G0, G, env, ds, r, e1, fun vs H' G' x hv => ⟨G', ds, d, x.sub, by rw [List.append_nil]; exact hv, hl, ef, fun p F H2 G2 x2 h1 ob => q p F H2 G2 (x.trans x2) (fun a ha => ⟨x.same.free (h1 a ha).1, (h1 a ha).2⟩) ob⟩⟩
      · cases ef
/-! ### defs that look at a host -/
def spHB (K : PySem.W.Frag) (n : Nat) (m : HSt → List D → Option D) : Sp := fun vs H Q _ => ∃ G F p t ds us d, Sub G H ∧ vs = .ref p :: us ∧ ObOk K H G F p (.host t) ∧ (∀ a ∈ F, G a = none) ∧ DvAll K G ds us ∧ ds.length = n ∧ m t ds = some d ∧ ∀ v H' G', Ex H G H' G' → Dv K G' d v → Q v H'
def bodyHB (N : Nat) (g : Env → Option Res) (t : HSt) (ds : List D) : Option D := (g (startO N .bor t ds)).bind fun r => match r with
  | .ret d => some d
  | _ => none
def fHB (i n : Nat) (m : HSt → List D → Option D) (fa : Env → Option (List D)) : Env → Option D := fun env => (hostAt env i).bind fun t => (fa env).bind fun ds => if ds.length = n then m t ds else none
theorem e_hb (F : FnOk X.prog X.w X.K X.mg X.base CX0 k f fd ps (spHB X.K n mb)) (hr : Room k X.A) (hg : Gl X x) (hm : X.mg x = some (.ref f)) (hk : PySem.W.keepIn X.K (.ref f) = true) (hb : Binds X.K fd ps []) (ho : PE X e (tVar i))
    (ha : PA X es (tDs X.K fa)) (hdb : (x == ("__debug__" : Str)) = false := by decide) (he : starEach (e :: es) X.env = (false, eval e X.env) :: starEach es X.env := by rfl) (hpl : (backTo pos (starEach es X.env)).any (·.1) = false := by rfl) :
    PE X (.Call (.Name x p) (e :: es) [] pos) (tD X.K (fHB i n mb fa)) :=
  PE.to (pe_call F hr hg hm hk hb .nil pass0 (pa_cons ho ha he) hdb he hpl) fun σ H Q ⟨B, G0, G, env, d, r, ef, q⟩ => by
    unfold fHB at ef
    cases e1 : hostAt env i with
    | none => rw [e1] at ef; cases ef
    | some t =>
      rw [e1, Option.bind_some] at ef
      cases e2 : fa env with
      | none => rw [e2] at ef; cases ef
      | some ds =>
        rw [e2, Option.bind_some] at ef
        split at ef
        · rename_i hl
          obtain ⟨p', dx, pa, fa', ra, h1, h2, h3⟩ := r.host e1
          refine ⟨_, h1, B, G0, G, env, ds, r, e2, fun us H1 G1 x1 hv => ?_⟩
          obtain ⟨p2, dx2, pa2, fa2, ra2, k1, k2, k3⟩ := (r.next x1).host e1
          rw [h1] at k1
          cases k1
          exact ⟨G1, _, p', t, ds, us, d, x1.sub, by rw [List.append_nil], k2.ob, k3, hv, hl, ef, fun v H' G' x2 hv2 => q v H' G' (x1.trans x2) hv2⟩
        · cases ef
end
section
variable {P : Program} {w : World} {K : PySem.W.Frag} {mg : Str → Option Value} {base : Heap}
theorem fn_hb {x qual : Str} {params : Arguments} {body : List Stmt} {scope : Scope} {f : Addr} {fd : FuncData} {N ps : List Str} {k n : Nat} {g : Env → Option Res} (F : FunD K x qual params body scope [] [] f fd) (S : FnScope N ps scope) (hn : ps.length = n + 1)
    (hbody : ∀ (cdv : Value) (A : Around) (outer : List PySem.Env) (s : Shared) (H : Hp) (E : XK), Room k (A.deeper (envOfC qual scope s.heap.objs.size f cdv)) →
      PSs (cxOf CX0 P w K mg base N qual scope f cdv A outer s H E).nox body (sD K g)) : FnOk P w K mg base CX0 (k + 1) f fd ps (spHB K n (bodyHB N.length g)) := by
  refine F.ok S (fun vs H Q E h => ?_) (fun cdv A outer s H vs Q E hr h => ⟨sD K g, (hbody cdv A outer s H E hr).nox, ?_⟩)
  · obtain ⟨G, F, p, t, ds, us, d, _, rfl, _, _, h1, h2, _⟩ := h
    rw [List.length_cons, h1.length, h2, hn]
  · obtain ⟨G, F, p, t, ds, us, d, sb, rfl, ob, fr, hv, hl, e, q⟩ := h
    have hN : us.length + 1 ≤ N.length := by
      have := congrArg List.length S.pre
      rw [List.length_take] at this
      have := hv.length
      omega
    have rl := rel_startO (B := .of H) (k := .bor) (N := N) hN sb hv ob fr rfl rfl True.intro
    unfold bodyHB at e
    cases e1 : g (startO N.length .bor t ds) with
    | none => rw [e1] at e; cases e
    | some r =>
      rw [e1, Option.bind_some] at e
      refine ⟨.of H, G, G, _, r, rl, e1, ?_⟩
      cases r with
      | ret d' => cases e; exact fun v H' G' x hv => q v H' G' x.ofEx hv
      | _ => cases e
end
end PD

/-! THE DATA LAYER 23: the promises by the mirrors' names. -/
namespace PD
open PySem PySem.Spec PyProof.Rows L2
section
variable {P : Program} {w : World} {K : PySem.W.Frag} {mg : Str → Option Value} {base : Heap} {x qual : Str} {params : Arguments} {body : List Stmt} {scope : Scope} {f : Addr} {fd : FuncData} {N ps : List Str} {k n j : Nat}
theorem fn_hpm {m : HSt → Option D} (g : Env → Option Res) (hm : m = bodyHP N.length g) (F : FunD K x qual params body scope [] [] f fd) (S : FnScope N ["self"] scope)
    (hbody : ∀ (cdv : Value) (A : Around) (outer : List PySem.Env) (s : Shared) (H : Hp) (E : XK), Room k (A.deeper (envOfC qual scope s.heap.objs.size f cdv)) →
      PSs (cxOf CX0 P w K mg base N qual scope f cdv A outer s H E).nox body (sD K g)) : FnOk P w K mg base CX0 (k + 1) f fd ["self"] (spHP K m) := by
  subst hm
  exact fn_hp F S hbody
theorem fn_hmm {m : HSt → List D → Option (D × HSt)} (g : Env → Option Res) (hn : ps.length = n + 1) (hm : m = bodyHM N.length g) (F : FunD K x qual params body scope [] [] f fd) (S : FnScope N ps scope)
    (hbody : ∀ (cdv : Value) (A : Around) (outer : List PySem.Env) (s : Shared) (H : Hp) (E : XK), Room k (A.deeper (envOfC qual scope s.heap.objs.size f cdv)) →
      PSs (cxOf CX0 P w K mg base N qual scope f cdv A outer s H E).nox body (sD K g)) : FnOk P w K mg base CX0 (k + 1) f fd ps (spHM K n m) := by
  subst hm
  exact fn_hm F S hn hbody
theorem fn_hrm {m : HSt → List D → Option (D × HSt)} (g : Env → Option Res) (fr : Env → Option D) (hn : ps.length = n + 1) (hm : m = bodyHR N.length g fr) (F : FunD K x qual params body scope [] [] f fd) (S : FnScope N ps scope)
    (hbody : ∀ (cdv : Value) (A : Around) (outer : List PySem.Env) (s : Shared) (H : Hp) (E : XK), Room k (A.deeper (envOfC qual scope s.heap.objs.size f cdv)) →
      PSs (cxOf CX0 P w K mg base N qual scope f cdv A outer s H E).nox body (tBody K g fr)) : FnOk P w K mg base CX0 (k + 1) f fd ps (spHM K n m) := by
  subst hm
  exact fn_hr F S hn hbody
theorem fn_om {m : List D → Option HSt} (g : Env → Option Res) (hn : n = ps.length) (hm : m = bodyO N.length g j) (F : FunD K x qual params body scope [] [] f fd) (S : FnScope N ps scope)
    (hbody : ∀ (cdv : Value) (A : Around) (outer : List PySem.Env) (s : Shared) (H : Hp) (E : XK), Room k (A.deeper (envOfC qual scope s.heap.objs.size f cdv)) →
      PSs (cxOf CX0 P w K mg base N qual scope f cdv A outer s H E).nox body (tBodyO K g j)) : FnOk P w K mg base CX0 (k + 1) f fd ps (spO K n m) := by
  subst hn hm
  exact fn_o F S hbody
theorem fn_hbm {m : HSt → List D → Option D} (g : Env → Option Res) (hn : ps.length = n + 1) (hm : m = bodyHB N.length g) (F : FunD K x qual params body scope [] [] f fd) (S : FnScope N ps scope)
    (hbody : ∀ (cdv : Value) (A : Around) (outer : List PySem.Env) (s : Shared) (H : Hp) (E : XK), Room k (A.deeper (envOfC qual scope s.heap.objs.size f cdv)) →
      PSs (cxOf CX0 P w K mg base N qual scope f cdv A outer s H E).nox body (sD K g)) : FnOk P w K mg base CX0 (k + 1) f fd ps (spHB K n m) := by
  subst hm
  exact fn_hb F S hn hbody
end
/-- list(range(n)) -/
def fLR (f : Env → Option D) : Env → Option D := fun env => (fR1 f env).map .list
theorem rg_dv {K : PySem.W.Frag} {G : Hp} (n : Int) : DvAll K G (rangeD 0 n.toNat) (rgV 0 n) := by
  unfold rangeD rgV
  rw [show (n - 0).toNat = n.toNat by rw [Int.sub_zero]]
  generalize n.toNat = k
  have key : ∀ l : List Nat, DvAll K G (l.map fun (i : Nat) => PyData.int (0 + (i : Int))) (l.map fun i => V.int (0 + (i : Nat))) := fun l => by
    induction l with
    | nil => exact .nil
    | cons a l ih => exact .cons .int ih
  exact key _
theorem f_listRg {X : Cx} {a : Expr} {f : Env → Option D} {p p' pos pos' : Pos} (hc : X.calm = true) (hg : Gl X "list") (hm : X.mg "list" = none) (hg' : Gl X "range") (hm' : X.mg "range" = none) (ha : PE X a (tD X.K f))
    (na : starEach [a] X.env = (false, eval a X.env) :: starEach [] X.env := by rfl) (na' : starEach [.Call (.Name "range" p') [a] [] pos'] X.env = (false, eval (.Call (.Name "range" p') [a] [] pos') X.env) :: starEach [] X.env := by rfl) :
    PE X (.Call (.Name "list" p) [.Call (.Name "range" p') [a] [] pos'] [] pos) (tF X.K (fLR f)) := PE.to (pe_listRg hc hg hm (prg_1 hg' hm' ha na) na') fun σ H Q ⟨B, G0, G, env, d, r, ef, q⟩ => by
  unfold fLR fR1 at ef
  cases e1 : f env with
  | none => rw [e1] at ef; cases ef
  | some d' =>
    rw [e1, Option.bind_some] at ef
    cases d' with
    | int n =>
      have ef' : (if -10000 ≤ n ∧ n ≤ 10000 then some (rangeD 0 n.toNat) else none).map PyData.list = some d := ef
      split at ef'
      · rename_i hn
        cases ef'
        refine ⟨B, G0, G, env, .int n, r, e1, fun v H' G' x hv => ⟨n, by simpa only [Dv] using hv, ⟨by omega, by omega, by omega, by omega, by omega⟩, fun q' nq => ?_⟩⟩
        refine q q' _ G' (x.trans (.out x.sub nq)) (x.same.free nq) (x.sub.free nq) ⟨_, upd_same, ?_, rg_dv n⟩
        rw [rgV_length, sizeLine_eq]; omega
      · cases ef'
    | _ => cases ef
/-- [..] * k, the list just made -/
def repL (d e : D) : Option D := match d, e with
  | .list xs, .int k => if 0 ≤ k ∧ k ≤ 1000 ∧ xs.length ≤ 1000 then some (.list (List.replicate k.toNat xs).flatten) else none
  | _, _ => none
theorem f_mulL {X : Cx} {a b : Expr} {f g : Env → Option D} {pos : Pos} (ha : PE X a (tF X.K f)) (hb : PE X b (tD X.K g)) : PE X (.BinOp a .Mult b pos) (tF X.K (f2 repL f g)) := PE.to (pe_op op_rep ha hb) fun σ H Q ⟨B, G0, G, env, d, r, ef, q⟩ => by
  unfold f2 at ef
  cases e1 : f env with
  | none => rw [e1] at ef; cases ef
  | some dx =>
    cases e2 : g env with
    | none => rw [e1, e2] at ef; cases ef
    | some dy =>
      rw [e1, e2, Option.bind_some, Option.bind_some] at ef
      unfold repL at ef
      split at ef
      · rename_i xs k
        split at ef
        · rename_i hk
          cases ef
          refine ⟨B, G0, G, env, _, r, e1, fun l H1 G1 x1 nl gl ow => ⟨B, G0, G1, env, _, r.next x1, e2, fun y H2 G2 x2 hy => ?_⟩⟩
          obtain ⟨vs, h1, h2, h3⟩ := ow
          have ey : y = .int k := by simpa only [Dv] using hy
          subst ey
          have hm : vs.length * k.toNat ≤ 1000 * 1000 := Nat.mul_le_mul (by rw [h3.length]; exact hk.2.2) (by omega)
          refine ⟨l, k, vs, rfl, rfl, x2.same _ _ h1, by omega, by omega, by rw [sizeLine_eq]; omega, fun p np => ?_⟩
          refine q p _ G2 ((x1.trans x2).trans (.out x2.sub np)) ((x1.trans x2).same.free np) (x2.sub.free np) ⟨_, upd_same, ?_, (h3.mono x2.gr).flatRep k.toNat⟩
          rw [PyProof.Rows.lm_len_rep_flat, Nat.mul_comm, sizeLine_eq]; omega
        · cases ef
      · cases ef
end PD

namespace PD
open PySem PySem.Spec PyProof.Rows L2
-- slots: 0 book, 1 name
def ce_house_of_0 : Env → Option D := (f2 ixD (fV 0) (fV 1))
def g_house_of : Env → Option Res := (qRet (f1 tupD (fLc (fIt (f1 sortD (fV 0))) [1] (sN 1) fYes ce_house_of_0)))
def m_house_of : List D → Option D := bodyD 2 g_house_of
-- slots: 0 self
def g_Host_house : Env → Option Res := (qRet (fHBor 0 .parts m_house_of))
def m_Host_house : HSt → Option D := bodyHP 1 g_Host_house
-- slots: 0 self, 1 part
def ct_Host_sound_0 : Env → Option Bool := (fB (f2 notInD (f2 ixD (fV 1) (fC (.int 0))) (fHDict 0 .faulty)))
def g_Host_sound : Env → Option Res := (qRet (f1 tupD (fLc (fIt (fHP 0 m_Host_house)) [1] (sN 1) ct_Host_sound_0 (fV 1))))
def m_Host_sound : HSt → Option D := bodyHP 2 g_Host_sound
-- slots: 0 self, 1 now, 2 name
def ct_Host_settle_0 : Env → Option Bool := (fB (f2 notInD (fV 2) (fV 1)))
def ce_Host_settle_1 : Env → Option D := (fTup (fCons (fC (.str "out")) (fCons (fV 2) fNil)))
def ct_Host_settle_2 : Env → Option Bool := (fB (f2 notInD (fV 2) (fHRun 0)))
def ce_Host_settle_3 : Env → Option D := (fTup (fCons (fC (.str "in")) (fCons (fV 2) fNil)))
def g_Host_settle : Env → Option Res := (qSeq (qSet 1 (fCall m_order 1 (fCons (fHP 0 m_Host_sound) fNil)))
    (qSeq (qHExt 0 (fLc (fIt (f1 revD (fHRun 0))) [2] (sN 2) ct_Host_settle_0 ce_Host_settle_1))
    (qSeq (qHExt 0 (fLc (fIt (fV 1)) [2] (sN 2) ct_Host_settle_2 ce_Host_settle_3))
    (qHRun 0 (fV 1)))))
def m_Host_settle : HSt → List D → Option (D × HSt) := bodyHM 3 g_Host_settle
-- slots: 0 self, 1 part
def g_Host_put : Env → Option Res := (qSeq (qHPut 0 .parts (f2 ixD (fV 1) (fC (.int 0))) (fV 1))
    (qSeq (qHPop2 0 .faulty (f2 ixD (fV 1) (fC (.int 0))))
    (qDropM (fHM 0 0 m_Host_settle fNil))))
def m_Host_put : HSt → List D → Option (D × HSt) := bodyHM 2 g_Host_put
-- slots: 0 self, 1 name
def g_Host_out : Env → Option Res := (qSeq (qIf (fB (f2 notInD (fV 1) (fHDict 0 .parts))) (fun _ => none) qNil)
    (qSeq (qHPop 0 .parts (fV 1))
    (qSeq (qHPop2 0 .faulty (fV 1))
    (qDropM (fHM 0 0 m_Host_settle fNil)))))
def m_Host_out : HSt → List D → Option (D × HSt) := bodyHM 2 g_Host_out
-- slots: 0 self
def g_Host_broken : Env → Option Res := (qRet (f1 tupD (f1 sortD (fHDict 0 .faulty))))
def m_Host_broken : HSt → Option D := bodyHP 1 g_Host_broken
-- slots: 0 self
def g_Host_live : Env → Option Res := (qRet (fHRun 0))
def m_Host_live : HSt → Option D := bodyHP 1 g_Host_live
-- slots: 0 self, 1 hook, 2 worth, 3 found, 4 name
def lc_Host_pull_0 : Env → Option Bool := (fB (f2 notND (fV 4) (fC .none)))
def lb_Host_pull_1 : Env → Option Res := (qSeq (qHPut 0 .faulty (fV 4) (fC (.bool true)))
    (qSeq (qDropM (fHM 0 0 m_Host_settle fNil))
    (qAsg (fCall m_pulled 3 (fCons (fHP 0 m_Host_sound) (fCons (fV 1) (fCons (fV 2) fNil)))) (sTup (sCons (sN 3) (sCons (sN 4) sNil))))))
def g_Host_pull : Env → Option Res := (qSeq (qAsg (fCall m_pulled 3 (fCons (fHP 0 m_Host_sound) (fCons (fV 1) (fCons (fV 2) fNil)))) (sTup (sCons (sN 3) (sCons (sN 4) sNil))))
    (qSeq (whileS lc_Host_pull_0 lb_Host_pull_1 100000)
    qNil))
def r_Host_pull : Env → Option D := (fV 3)
def m_Host_pull : HSt → List D → Option (D × HSt) := bodyHR 5 g_Host_pull r_Host_pull
-- slots: 0 self, 1 name
def g_Host_mend : Env → Option Res := (qSeq (qIf (fB (f2 notInD (fV 1) (fHDict 0 .faulty))) (fun _ => none) qNil)
    (qSeq (qHPop 0 .faulty (fV 1))
    (qDropM (fHM 0 0 m_Host_settle fNil))))
def m_Host_mend : HSt → List D → Option (D × HSt) := bodyHM 2 g_Host_mend
-- slots: 0 self
def g_Host_said : Env → Option Res := (qRet (f1 tupD (fHRows 0)))
def m_Host_said : HSt → Option D := bodyHP 1 g_Host_said
end PD

namespace PD.W
open PySem PySem.Spec PyProof.Rows L2
-- slots: 0 _law_house_here, 1 _law_others, 2 _law_number, 3 _law_host, 4 _law_places, 5 _law_at, 6 _law_other, 7 _law_place
def ct__law_filled_0 : Env → Option Bool := (fB (f2 neD (fV 7) (fV 5)))
def lb__law_filled_1 : Env → Option Res := (qDropM (fHM 3 1 m_Host_put (fCons (f2 addD (fTup (fCons (f2 ixD (f2 ixD (fV 0) (fV 5)) (fC (.int 0))) fNil)) (fSl (fV 6) (partD (fC (.int 1))) noPart)) fNil)))
def lc__law_filled_2 : Env → Option Bool := (fB (f2 neD (fV 4) (fLst fNil)))
def lb__law_filled_3 : Env → Option Res := (qSeq (qSet 5 (f2 ixD (fV 4) (f2 modD (fV 2) (f1 lenD (fV 4)))))
    (qSeq (qSet 4 (fLc (fIt (fV 4)) [7] (sN 7) ct__law_filled_0 (fV 7)))
    (qSeq (qFor (fIt (fSl (fV 1) (partD (fV 5)) (partD (f2 addD (fV 5) (fC (.int 1)))))) (sN 6) lb__law_filled_1)
    (qSeq (qDropM (fHM 3 1 m_Host_put (fCons (f2 ixD (fV 0) (fV 5)) fNil)))
    (qSet 2 (f2 addD (f2 fdivD (fV 2) (fC (.int 7))) (fC (.int 3))))))))
def g__law_filled : Env → Option Res := (qSeq (qObj 3 fNew)
    (qSeq (qSet 4 (fLR (f1 lenD (fV 0))))
    (qSeq (whileS lc__law_filled_2 lb__law_filled_3 100000)
    qNil)))
def m__law_filled : List D → Option HSt := bodyO 8 g__law_filled 3
-- slots: 0 _law_host, 1 _law_found, 2 _law_word, 3 _law_name, 4 _law_one
def ct__law_now_0 : Env → Option Bool := (fB (f2 neD (fV 4) (fV 3)))
def lb__law_now_1 : Env → Option Res := (qSeq (qIf (fOrB (fAndB (fB (f2 eqD (fV 2) (fC (.str "in")))) (fB (f2 inD (fV 3) (fV 1)))) (fAndB (fB (f2 eqD (fV 2) (fC (.str "out")))) (fB (f2 notInD (fV 3) (fV 1))))) (qRet (fC .none)) qNil)
    (qSet 1 (f2 catD (fLc (fIt (fV 1)) [4] (sN 4) ct__law_now_0 (fV 4)) (f2 repL (fLst (fCons (fV 3) fNil)) (f1 intD (f2 eqD (fV 2) (fC (.str "in"))))))))
def g__law_now : Env → Option Res := (qSeq (qSet 1 (fLst fNil))
    (qSeq (qFor (fIt (fHP 0 m_Host_said)) (sTup (sCons (sN 2) (sCons (sN 3) sNil))) lb__law_now_1)
    (qRet (f1 sortD (fV 1)))))
def m__law_now : HSt → List D → Option D := bodyHB 5 g__law_now
-- slots: 0 _law_script, 1 _law_house_here, 2 _law_others, 3 _law_one, 4 _law_other, 5 _law_hook, 6 _law_worth, 7 _law_sound, 8 _law_part_here, 9 _law_name
def ct_law_0 : Env → Option Bool := (fB (f2 notInD (f2 ixD (fV 8) (fC (.int 0))) (fHP 3 m_Host_broken)))
def lb_law_1 : Env → Option Res := (qIf (fB (f2 notInD (f2 ixD (fV 8) (fC (.int 0))) (fHP 3 m_Host_broken))) (qSeq (qDropM (fHM 3 1 m_Host_out (fCons (f2 ixD (fV 8) (fC (.int 0))) fNil)))
    (qDropM (fHM 3 1 m_Host_put (fCons (fV 8) fNil)))) qNil)
def lb_law_2 : Env → Option Res := (qDropM (fHM 3 1 m_Host_mend (fCons (fV 9) fNil)))
def g_law : Env → Option Res := (qSeq (qSet 1 (fCall m__law_house 1 (fCons (fCall m__law_mixed 2 (fCons (fV 0) (fCons (fC (.int 0)) fNil))) fNil)))
    (qSeq (qSet 2 (fCall m__law_house 1 (fCons (fCall m__law_mixed 2 (fCons (fV 0) (fCons (fC (.int 1)) fNil))) fNil)))
    (qSeq (qObj 3 (fCallO m__law_filled 3 (fCons (fV 1) (fCons (fTup fNil) (fCons (fCall m__law_mixed 2 (fCons (fV 0) (fCons (fC (.int 2)) fNil))) fNil)))))
    (qSeq (qObj 4 (fCallO m__law_filled 3 (fCons (fV 1) (fCons (fV 2) (fCons (fCall m__law_mixed 2 (fCons (fV 0) (fCons (fC (.int 3)) fNil))) fNil)))))
    (qSeq (qIf (fOrB (fB (f2 neD (fHP 3 m_Host_house) (fV 1))) (fOrB (fB (f2 neD (fHP 4 m_Host_house) (fV 1))) (fOrB (fB (f2 neD (fHP 3 m_Host_live) (fCall m_order 1 (fCons (fV 1) fNil)))) (fB (f2 neD (fHP 4 m_Host_live) (fCall m_order 1 (fCons (fV 1) fNil))))))) (qRet (fC (.bool false))) qNil)
    (qSeq (qSet 5 (f2 ixD (fTup (fCons (fC (.str "go")) (fCons (fC (.str "end")) fNil))) (f2 modD (fCall m__law_mixed 2 (fCons (fV 0) (fCons (fC (.int 4)) fNil))) (fC (.int 2)))))
    (qSeq (qSet 6 (f2 modD (fCall m__law_mixed 2 (fCons (fV 0) (fCons (fC (.int 5)) fNil))) (fC (.int 1000))))
    (qSeq (qIfM (fOrM (fBM (f2M neD (fHM 3 2 m_Host_pull (fCons (fV 5) (fCons (fV 6) fNil))) (fHM 4 2 m_Host_pull (fCons (fV 5) (fCons (fV 6) fNil))))) (fP (fB (f2 neD (fHP 3 m_Host_broken) (fHP 4 m_Host_broken))))) (qRet (fC (.bool false))) qNil)
    (qSeq (qSet 7 (f1 tupD (fLc (fIt (fV 1)) [8] (sN 8) ct_law_0 (fV 8))))
    (qSeq (qIf (fOrB (fB (f2 neD (fHP 3 m_Host_live) (fCall m_order 1 (fCons (fV 7) fNil)))) (fOrB (fB (f2 neD (fHB 3 0 m__law_now fNil) (f1 sortD (fHP 3 m_Host_live)))) (fB (f2 neD (fHB 4 0 m__law_now fNil) (f1 sortD (fHP 4 m_Host_live)))))) (qRet (fC (.bool false))) qNil)
    (qSeq (qIfM (fOrM (fBM (f2M neD (fHM 3 2 m_Host_pull (fCons (fV 5) (fCons (fV 6) fNil))) (fHM 4 2 m_Host_pull (fCons (fV 5) (fCons (fV 6) fNil))))) (fP (fB (f2 neD (fHP 3 m_Host_live) (fHP 4 m_Host_live))))) (qRet (fC (.bool false))) qNil)
    (qSeq (qFor (fIt (fV 1)) (sN 8) lb_law_1)
    (qSeq (qIf (fB (f2 neD (fHP 3 m_Host_live) (fCall m_order 1 (fCons (fV 7) fNil)))) (qRet (fC (.bool false))) qNil)
    (qSeq (qFor (fIt (fHP 3 m_Host_broken)) (sN 9) lb_law_2)
    (qRetM (fAndVM (fP (f2 eqD (fHP 3 m_Host_broken) (fTup fNil))) (fAndVM (fP (f2 eqD (fHP 3 m_Host_live) (fCall m_order 1 (fCons (fV 1) fNil)))) (f2M eqD (fHM 3 2 m_Host_pull (fCons (fV 5) (fCons (fV 6) fNil))) (fHM 4 2 m_Host_pull (fCons (fV 5) (fCons (fV 6) fNil)))))))))))))))))))))
def m_law : List D → Option D := bodyD 10 g_law
end PD.W

/-! THE DATA LAYER 14: the law's start. -/
namespace PD
open PySem PySem.Spec PyProof.Rows L2
theorem ints_dv {K : PySem.W.Frag} {G : Hp} : ∀ ns : List Int, DvAll K G (ns.map fun i => PyData.int i) (ns.map V.int)
  | [] => .nil
  | n :: ns => .cons .int (ints_dv ns)
/-- the script, a list of whole numbers -/
theorem sp_start {K : PySem.W.Frag} {H : Hp} {a : Addr} {ns : List Int} {m : List D → Option D} {Q : VK} {E : XK} (hl : ns.length ≤ 63) (hS : SqL K H a (ns.map V.int)) (h : m [.list (ns.map fun i => .int i)] = some (.bool true)) (hq : ∀ H', Q (.bl true) H') :
    spD K 1 m [.ref a] H Q E := by
  have hz : (ns.map V.int).length ≤ sizeLine := by rw [List.length_map, sizeLine_eq]; omega
  have fin : ∀ v H' G', Ex H (fun _ => none) H' G' → Dv K G' (.bool true) v → Q v H' := fun v H' G' _ hv => by
    simp only [Dv] at hv; subst hv; exact hq H'
  rcases hS with (hS | ⟨o, hS⟩) | hS
  · refine ⟨upd (fun _ => none) a (.lst (ns.map V.int)), _, _, fun b u e => ?_, .cons (.lst upd_same hz (ints_dv ns)) .nil, rfl, h, fun v H' G' _ hv => ?_⟩
    · by_cases eb : b = a
      · subst eb; rw [upd_same] at e; cases e; exact hS
      · rw [upd_ne eb] at e; cases e
    · simp only [Dv] at hv; subst hv; exact hq H'
  · refine ⟨upd (fun _ => none) a (.frz o (.lst (ns.map V.int))), _, _, fun b u e => ?_, .cons ?_ .nil, rfl, h, fun v H' G' _ hv => ?_⟩
    · by_cases eb : b = a
      · subst eb; rw [upd_same] at e; cases e; exact hS
      · rw [upd_ne eb] at e; cases e
    · simp only [Dv]; exact ⟨a, _, rfl, .inl (.inr ⟨o, upd_same⟩), hz, ints_dv ns⟩
    · simp only [Dv] at hv; subst hv; exact hq H'
  · refine ⟨fun _ => none, _, _, fun b u e => (nomatch e), .cons ?_ .nil, rfl, h, fun v H' G' _ hv => ?_⟩
    · simp only [Dv]; exact ⟨a, _, rfl, .inr (.inr hS), hz, ints_dv ns⟩
    · simp only [Dv] at hv; subst hv; exact hq H'
end PD

namespace PD.W
open PySem PySem.Spec PyProof.Rows L2
def top (i : Nat) : Stmt := PySem.Challenge.pw_parthost_k41_whole_in_any_order.main.body.getD i (.Pass ⟨0, 0, 0, 0⟩)
abbrev FnP (K : PySem.W.Frag) (x : Str) (st : Stmt) (f : Addr) (fd : FuncData) : Prop := FunD K x x (defArgs st) (defBody st) (defScope st) [] [] f fd
abbrev s_make_of : Stmt := top 4
abbrev s_gives : Stmt := top 5
abbrev s_givers_for : Stmt := top 6
abbrev s_lacks : Stmt := top 7
abbrev s_standing_parts : Stmt := top 8
abbrev s_giver_among : Stmt := top 9
abbrev s_givers : Stmt := top 11
abbrev s_order : Stmt := top 12
abbrev s_house_of : Stmt := top 15
abbrev s_chain : Stmt := top 17
abbrev s_pulled : Stmt := top 18
abbrev s_Host___init__ : Stmt := inClass (top 20) 0
abbrev s_Host_house : Stmt := inClass (top 20) 1
abbrev s_Host_sound : Stmt := inClass (top 20) 2
abbrev s_Host_settle : Stmt := inClass (top 20) 3
abbrev s_Host_put : Stmt := inClass (top 20) 4
abbrev s_Host_out : Stmt := inClass (top 20) 5
abbrev s_Host_broken : Stmt := inClass (top 20) 6
abbrev s_Host_live : Stmt := inClass (top 20) 7
abbrev s_Host_pull : Stmt := inClass (top 20) 8
abbrev s_Host_mend : Stmt := inClass (top 20) 9
abbrev s_Host_said : Stmt := inClass (top 20) 10
abbrev s__law_cell_at : Stmt := top 22
abbrev s__law_mixed : Stmt := top 23
abbrev s__law_drawn : Stmt := top 24
abbrev s__law_part : Stmt := top 25
abbrev s__law_house : Stmt := top 26
abbrev s__law_filled : Stmt := top 27
abbrev s__law_now : Stmt := top 28
abbrev s_law : Stmt := top 29
abbrev FnM (K : PySem.W.Frag) (x q : Str) (st : Stmt) (f : Addr) (fd : FuncData) : Prop := FunD K x q (defArgs st) (defBody st) (defScope st) [] [] f fd
/-- what the names of the module stand for -/
structure Tb (K : PySem.W.Frag) (mg : Str → Option Value) (C : Addr) : Prop where
  h : HTxt K C
  hm : mg "Host" = some (.ref C)
  d_make_of : ∃ f fd, FnP K "make_of" s_make_of f fd ∧ mg "make_of" = some (.ref f)
  d_gives : ∃ f fd, FnP K "gives" s_gives f fd ∧ mg "gives" = some (.ref f)
  d_givers_for : ∃ f fd, FnP K "givers_for" s_givers_for f fd ∧ mg "givers_for" = some (.ref f)
  d_lacks : ∃ f fd, FnP K "lacks" s_lacks f fd ∧ mg "lacks" = some (.ref f)
  d_standing_parts : ∃ f fd, FnP K "standing_parts" s_standing_parts f fd ∧ mg "standing_parts" = some (.ref f)
  d_giver_among : ∃ f fd, FnP K "giver_among" s_giver_among f fd ∧ mg "giver_among" = some (.ref f)
  d_givers : ∃ f fd, FnP K "givers" s_givers f fd ∧ mg "givers" = some (.ref f)
  d_order : ∃ f fd, FnP K "order" s_order f fd ∧ mg "order" = some (.ref f)
  d_house_of : ∃ f fd, FnP K "house_of" s_house_of f fd ∧ mg "house_of" = some (.ref f)
  d_chain : ∃ f fd, FnP K "chain" s_chain f fd ∧ mg "chain" = some (.ref f)
  d_pulled : ∃ f fd, FnP K "pulled" s_pulled f fd ∧ mg "pulled" = some (.ref f)
  d_Host___init__ : ∃ f fd, FnM K "__init__" "Host.__init__" s_Host___init__ f fd ∧ Mk K C f
  d_Host_house : ∃ f fd, FnM K "house" "Host.house" s_Host_house f fd ∧ Meth K C "house" f
  d_Host_sound : ∃ f fd, FnM K "sound" "Host.sound" s_Host_sound f fd ∧ Meth K C "sound" f
  d_Host_settle : ∃ f fd, FnM K "settle" "Host.settle" s_Host_settle f fd ∧ Meth K C "settle" f
  d_Host_put : ∃ f fd, FnM K "put" "Host.put" s_Host_put f fd ∧ Meth K C "put" f
  d_Host_out : ∃ f fd, FnM K "out" "Host.out" s_Host_out f fd ∧ Meth K C "out" f
  d_Host_broken : ∃ f fd, FnM K "broken" "Host.broken" s_Host_broken f fd ∧ Meth K C "broken" f
  d_Host_live : ∃ f fd, FnM K "live" "Host.live" s_Host_live f fd ∧ Meth K C "live" f
  d_Host_pull : ∃ f fd, FnM K "pull" "Host.pull" s_Host_pull f fd ∧ Meth K C "pull" f
  d_Host_mend : ∃ f fd, FnM K "mend" "Host.mend" s_Host_mend f fd ∧ Meth K C "mend" f
  d_Host_said : ∃ f fd, FnM K "said" "Host.said" s_Host_said f fd ∧ Meth K C "said" f
  d__law_cell_at : ∃ f fd, FnP K "_law_cell_at" s__law_cell_at f fd ∧ mg "_law_cell_at" = some (.ref f)
  d__law_mixed : ∃ f fd, FnP K "_law_mixed" s__law_mixed f fd ∧ mg "_law_mixed" = some (.ref f)
  d__law_drawn : ∃ f fd, FnP K "_law_drawn" s__law_drawn f fd ∧ mg "_law_drawn" = some (.ref f)
  d__law_part : ∃ f fd, FnP K "_law_part" s__law_part f fd ∧ mg "_law_part" = some (.ref f)
  d__law_house : ∃ f fd, FnP K "_law_house" s__law_house f fd ∧ mg "_law_house" = some (.ref f)
  d__law_filled : ∃ f fd, FnP K "_law_filled" s__law_filled f fd ∧ mg "_law_filled" = some (.ref f)
  d__law_now : ∃ f fd, FnP K "_law_now" s__law_now f fd ∧ mg "_law_now" = some (.ref f)
  d_law : ∃ f fd, FnP K "law" s_law f fd ∧ mg "law" = some (.ref f)
  b_all : mg "all" = none
  b_dict : mg "dict" = none
  b_enumerate : mg "enumerate" = none
  b_int : mg "int" = none
  b_len : mg "len" = none
  b_list : mg "list" = none
  b_min : mg "min" = none
  b_range : mg "range" = none
  b_sorted : mg "sorted" = none
  b_tuple : mg "tuple" = none
  g_RING : ∃ t, mg "RING" = some (.int 1000 t)
section
variable {P : Program} {w : World} {K : PySem.W.Frag} {mg : Str → Option Value} {base : Heap}
abbrev N_make_of : List Str := ["part", "face"]
theorem sc_make_of : FnScope N_make_of ["part", "face"] (defScope s_make_of) := ⟨rfl, rfl, rfl, by decide +kernel, rfl, by decide +kernel, by decide +kernel⟩
theorem ok_make_of {C : Addr} (T : Tb K mg C) {f : Addr} {fd : FuncData} (F : FnP K "make_of" s_make_of f fd) : FnOk P w K mg base CX0 1 f fd ["part", "face"] (spD K 2 m_make_of) := by
  refine fn_dm (N := N_make_of) (k := 0) g_make_of rfl rfl F sc_make_of fun cdv A outer s H E hr => ?_
  exact (ss_one (s_ret (e_get2 hr.units1 (w_ofF (f_t1 (c_dict rfl) rfl T.b_dict boot_dict (w_of (e_ix hr.units (w_of (e_var (pv 0))) (w_of e_int))))) (e_var (pv 1)) e_int ⟨rfl, rfl, rfl, rfl⟩)))
abbrev N_gives : List Str := ["part", "want"]
theorem sc_gives : FnScope N_gives ["part", "want"] (defScope s_gives) := ⟨rfl, rfl, rfl, by decide +kernel, rfl, by decide +kernel, by decide +kernel⟩
theorem ok_gives {C : Addr} (T : Tb K mg C) {f : Addr} {fd : FuncData} (F : FnP K "gives" s_gives f fd) : FnOk P w K mg base CX0 2 f fd ["part", "want"] (spD K 2 m_gives) := by
  obtain ⟨f_make_of, fd_make_of, F_make_of, g_make_of⟩ := T.d_make_of
  have G_make_of := ok_make_of (P := P) (w := w) (base := base) T F_make_of
  have B_make_of : Binds K fd_make_of ["part", "face"] [] := F_make_of.bindsN fun _ _ _ _ _ _ us hl => match us, hl with | [_, _], _ => rfl
  refine fn_dm (N := N_gives) (k := 1) g_gives rfl rfl F sc_gives fun cdv A outer s H E hr => ?_
  exact (ss_one (s_ret (e_chain (o_le hr.units) (o_le hr.units) (w_of (e_ix hr.units (w_of (e_var (pv 1))) (w_of e_int))) (w_of (e_call G_make_of hr rfl g_make_of F_make_of.kp B_make_of (a_cons (e_var (pv 0)) (a_cons (e_ix hr.units (w_of (e_var (pv 1))) (w_of e_int)) a_nil)))) (w_of (e_ix hr.units (w_of (e_var (pv 1))) (w_of e_int))))))
abbrev N_givers_for : List Str := ["parts", "name", "want", "part"]
theorem sc_givers_for : FnScope N_givers_for ["parts", "name", "want"] (defScope s_givers_for) := ⟨rfl, rfl, rfl, by decide +kernel, rfl, by decide +kernel, by decide +kernel⟩
theorem ok_givers_for {C : Addr} (T : Tb K mg C) {f : Addr} {fd : FuncData} (F : FnP K "givers_for" s_givers_for f fd) : FnOk P w K mg base CX0 3 f fd ["parts", "name", "want"] (spD K 3 m_givers_for) := by
  obtain ⟨f_gives, fd_gives, F_gives, g_gives⟩ := T.d_gives
  have G_gives := ok_gives (P := P) (w := w) (base := base) T F_gives
  have B_gives : Binds K fd_gives ["part", "want"] [] := F_gives.bindsN fun _ _ _ _ _ _ us hl => match us, hl with | [_, _], _ => rfl
  refine fn_dm (N := N_givers_for) (k := 2) g_givers_for rfl rfl F sc_givers_for fun cdv A outer s H E hr => ?_
  exact (ss_one (s_ret (d_ofF (f_lc (own := [("part", 3)]) rfl sc_givers_for.nd (ih_of (i_seq (e_var (pv 0)))) (blkOk_by (N := N_givers_for) (sc := defScope s_givers_for) (by decide +kernel)) (fun _ _ _ _ _ => (g_name (pg_name (i := 3) sc_givers_for.nd rfl (by first | exact .inl rfl | exact .inr rfl)))) (fun _ _ _ _ _ => (ts_one (PW.pt (t_and (t_cmp (o_ne hr.units) (w_of (e_ix hr.units (w_of (e_var (pv 3))) (w_of e_int))) (w_of (e_var (pv 1)))) (t_and1 (t_val (w_of (e_call G_gives hr rfl g_gives F_gives.kp B_gives (a_cons (e_var (pv 3)) (a_cons (e_var (pv 2)) a_nil)))))))))) (fun _ _ _ _ _ => (e_var (pv 3)))))))
abbrev N_lacks : List Str := ["parts", "part", "want"]
theorem sc_lacks : FnScope N_lacks ["parts", "part"] (defScope s_lacks) := ⟨rfl, rfl, rfl, by decide +kernel, rfl, by decide +kernel, by decide +kernel⟩
theorem ok_lacks {C : Addr} (T : Tb K mg C) {f : Addr} {fd : FuncData} (F : FnP K "lacks" s_lacks f fd) : FnOk P w K mg base CX0 4 f fd ["parts", "part"] (spD K 2 m_lacks) := by
  obtain ⟨f_givers_for, fd_givers_for, F_givers_for, g_givers_for⟩ := T.d_givers_for
  have G_givers_for := ok_givers_for (P := P) (w := w) (base := base) T F_givers_for
  have B_givers_for : Binds K fd_givers_for ["parts", "name", "want"] [] := F_givers_for.bindsN fun _ _ _ _ _ _ us hl => match us, hl with | [_, _, _], _ => rfl
  refine fn_dm (N := N_lacks) (k := 3) g_lacks rfl rfl F sc_lacks fun cdv A outer s H E hr => ?_
  exact (ss_one (s_ret (d_ofF (f_lc (own := [("want", 2)]) rfl sc_lacks.nd (ih_of (i_seq (e_ix hr.units (w_of (e_var (pv 1))) (w_of e_int)))) (blkOk_by (N := N_lacks) (sc := defScope s_lacks) (by decide +kernel)) (fun _ _ _ _ _ => (g_name (pg_name (i := 2) sc_lacks.nd rfl (by first | exact .inl rfl | exact .inr rfl)))) (fun _ _ _ _ _ => (ts_one (PW.pt (t_and (t_val (w_of (e_ix hr.units (w_of (e_var (pv 2))) (w_of e_int)))) (t_and1 (t_cmp (o_eq hr.units) (w_of (e_b1 c_len rfl T.b_len boot_len (w_of (e_call G_givers_for hr rfl g_givers_for F_givers_for.kp B_givers_for (a_cons (e_var (pv 0)) (a_cons (e_ix hr.units (w_of (e_var (pv 1))) (w_of e_int)) (a_cons (e_var (pv 2)) a_nil))))))) (w_of e_int))))))) (fun _ _ _ _ _ => (e_ix hr.units (w_of (e_var (pv 2))) (w_of e_int)))))))
abbrev N_standing_parts : List Str := ["house", "parts", "left", "part"]
theorem sc_standing_parts : FnScope N_standing_parts ["house"] (defScope s_standing_parts) := ⟨rfl, rfl, rfl, by decide +kernel, rfl, by decide +kernel, by decide +kernel⟩
theorem ok_standing_parts {C : Addr} (T : Tb K mg C) {f : Addr} {fd : FuncData} (F : FnP K "standing_parts" s_standing_parts f fd) : FnOk P w K mg base CX0 5 f fd ["house"] (spD K 1 m_standing_parts) := by
  obtain ⟨f_lacks, fd_lacks, F_lacks, g_lacks⟩ := T.d_lacks
  have G_lacks := ok_lacks (P := P) (w := w) (base := base) T F_lacks
  have B_lacks : Binds K fd_lacks ["parts", "part"] [] := F_lacks.bindsN fun _ _ _ _ _ _ us hl => match us, hl with | [_, _], _ => rfl
  refine fn_dm (N := N_standing_parts) (k := 4) g_standing_parts rfl rfl F sc_standing_parts fun cdv A outer s H E hr => ?_
  exact (ss_cons (s_set sc_standing_parts.nd (i := 1) rfl (.inr rfl) (d_ofF (f_t1 (c_list rfl) rfl T.b_list boot_list (w_of (e_var (pv 0))))))
    (ss_cons (s_setLc (i := 2) (own := [("part", 3)]) rfl sc_standing_parts.nd rfl rfl (sw_true rfl rfl rfl (by decide +kernel)) (ih_of (i_seq (e_var (pv 1)))) (blkOk_by (N := N_standing_parts) (sc := defScope s_standing_parts) (by decide +kernel)) (fun _ _ _ _ _ => (g_name (pg_name (i := 3) sc_standing_parts.nd rfl (by first | exact .inl rfl | exact .inr rfl)))) (fun _ _ _ _ _ => (ts_one (t_cmp (o_eq hr.units) (w_of (e_b1 c_len rfl T.b_len boot_len (w_of (e_call G_lacks hr rfl g_lacks F_lacks.kp B_lacks (a_cons (e_var (pv 1)) (a_cons (e_var (pv 3)) a_nil)))))) (w_of e_int)))) (fun _ _ _ _ _ => (e_var (pv 3))))
    (ss_cons (s_while 100000 PassesOwn.never (t_cmp (o_lt hr.units) (w_of (e_b1 c_len rfl T.b_len boot_len (w_of (e_var (pv 2))))) (w_of (e_b1 c_len rfl T.b_len boot_len (w_of (e_var (pv 1)))))) (ss_cons (s_set sc_standing_parts.nd (i := 1) rfl (.inr rfl) (e_var (pv 2)))
    (ss_one (s_setLc (i := 2) (own := [("part", 3)]) rfl sc_standing_parts.nd rfl rfl (sw_true rfl rfl rfl (by decide +kernel)) (ih_of (i_seq (e_var (pv 1)))) (blkOk_by (N := N_standing_parts) (sc := defScope s_standing_parts) (by decide +kernel)) (fun _ _ _ _ _ => (g_name (pg_name (i := 3) sc_standing_parts.nd rfl (by first | exact .inl rfl | exact .inr rfl)))) (fun _ _ _ _ _ => (ts_one (t_cmp (o_eq hr.units) (w_of (e_b1 c_len rfl T.b_len boot_len (w_of (e_call G_lacks hr rfl g_lacks F_lacks.kp B_lacks (a_cons (e_var (pv 1)) (a_cons (e_var (pv 3)) a_nil)))))) (w_of e_int)))) (fun _ _ _ _ _ => (e_var (pv 3)))))))
    (ss_one (s_ret (e_var (pv 1)))))))
abbrev N_giver_among : List Str := ["parts", "name", "want", "best", "part"]
theorem sc_giver_among : FnScope N_giver_among ["parts", "name", "want"] (defScope s_giver_among) := ⟨rfl, rfl, rfl, by decide +kernel, rfl, by decide +kernel, by decide +kernel⟩
theorem ok_giver_among {C : Addr} (T : Tb K mg C) {f : Addr} {fd : FuncData} (F : FnP K "giver_among" s_giver_among f fd) : FnOk P w K mg base CX0 4 f fd ["parts", "name", "want"] (spD K 3 m_giver_among) := by
  obtain ⟨f_givers_for, fd_givers_for, F_givers_for, g_givers_for⟩ := T.d_givers_for
  have G_givers_for := ok_givers_for (P := P) (w := w) (base := base) T F_givers_for
  have B_givers_for : Binds K fd_givers_for ["parts", "name", "want"] [] := F_givers_for.bindsN fun _ _ _ _ _ _ us hl => match us, hl with | [_, _, _], _ => rfl
  obtain ⟨f_make_of, fd_make_of, F_make_of, g_make_of⟩ := T.d_make_of
  have G_make_of := ok_make_of (P := P) (w := w) (base := base) T F_make_of
  have B_make_of : Binds K fd_make_of ["part", "face"] [] := F_make_of.bindsN fun _ _ _ _ _ _ us hl => match us, hl with | [_, _], _ => rfl
  refine fn_dm (N := N_giver_among) (k := 3) g_giver_among rfl rfl F sc_giver_among fun cdv A outer s H E hr => ?_
  exact (ss_cons (s_set sc_giver_among.nd (i := 3) rfl (.inl rfl) e_none)
    (ss_cons (s_for (vs := [4]) PassesOwn.never rfl (i_seq (e_call G_givers_for hr rfl g_givers_for F_givers_for.kp B_givers_for (a_cons (e_var (pv 0)) (a_cons (e_var (pv 1)) (a_cons (e_var (pv 2)) a_nil))))) (g_name (pg_name (i := 4) sc_giver_among.nd rfl (by first | exact .inl rfl | exact .inr rfl))) (ss_one (s_if (PW.pt (t_or (t_cmp o_isN (w_of (e_var (pv 3))) (w_of e_none)) (t_or1 (t_cmp (o_gt hr.units) (w_of (e_call G_make_of (hr.mono (by decide)) rfl g_make_of F_make_of.kp B_make_of (a_cons (e_var (pv 4)) (a_cons (e_ix hr.units (w_of (e_var (pv 2))) (w_of e_int)) a_nil)))) (w_of (e_call G_make_of (hr.mono (by decide)) rfl g_make_of F_make_of.kp B_make_of (a_cons (e_var (pv 3)) (a_cons (e_ix hr.units (w_of (e_var (pv 2))) (w_of e_int)) a_nil)))))))) (ss_one (s_set sc_giver_among.nd (i := 3) rfl (.inl rfl) (e_var (pv 4)))) ss_nil)))
    (ss_cons (s_if (t_cmp o_isN (w_of (e_var (pv 3))) (w_of e_none)) (ss_one (s_ret e_none)) ss_nil)
    (ss_one (s_ret (e_ix hr.units (w_of (e_var (pv 3))) (w_of e_int)))))))
abbrev N_givers : List Str := ["house", "parts", "found", "part", "some", "want", "one"]
theorem sc_givers : FnScope N_givers ["house"] (defScope s_givers) := ⟨rfl, rfl, rfl, by decide +kernel, rfl, by decide +kernel, by decide +kernel⟩
theorem ok_givers {C : Addr} (T : Tb K mg C) {f : Addr} {fd : FuncData} (F : FnP K "givers" s_givers f fd) : FnOk P w K mg base CX0 6 f fd ["house"] (spD K 1 m_givers) := by
  obtain ⟨f_standing_parts, fd_standing_parts, F_standing_parts, g_standing_parts⟩ := T.d_standing_parts
  have G_standing_parts := ok_standing_parts (P := P) (w := w) (base := base) T F_standing_parts
  have B_standing_parts : Binds K fd_standing_parts ["house"] [] := F_standing_parts.bindsN fun _ _ _ _ _ _ us hl => match us, hl with | [_], _ => rfl
  obtain ⟨f_giver_among, fd_giver_among, F_giver_among, g_giver_among⟩ := T.d_giver_among
  have G_giver_among := ok_giver_among (P := P) (w := w) (base := base) T F_giver_among
  have B_giver_among : Binds K fd_giver_among ["parts", "name", "want"] [] := F_giver_among.bindsN fun _ _ _ _ _ _ us hl => match us, hl with | [_, _, _], _ => rfl
  refine fn_dm (N := N_givers) (k := 5) g_givers rfl rfl F sc_givers fun cdv A outer s H E hr => ?_
  exact (ss_cons (s_set sc_givers.nd (i := 1) rfl (.inr rfl) (e_call G_standing_parts hr rfl g_standing_parts F_standing_parts.kp B_standing_parts (a_cons (e_var (pv 0)) a_nil)))
    (ss_cons (s_own sc_givers.nd (i := 2) rfl (.inl rfl) f_dict)
    (ss_cons (s_for (vs := [3]) PassesOwn.never rfl (i_seq (e_var (pv 1))) (g_name (pg_name (i := 3) sc_givers.nd rfl (by first | exact .inl rfl | exact .inr rfl))) (ss_cons (s_setLc (i := 4) (own := [("want", 5)]) rfl sc_givers.nd rfl rfl (sw_true rfl rfl rfl (by decide +kernel)) (ih_of (i_seq (e_ix hr.units (w_of (e_var (pv 3))) (w_of e_int)))) (blkOk_by (N := N_givers) (sc := defScope s_givers) (by decide +kernel)) (fun _ _ _ _ _ => (g_name (pg_name (i := 5) sc_givers.nd rfl (by first | exact .inl rfl | exact .inr rfl)))) (fun _ _ _ _ _ => ts_nil) (fun _ _ _ _ _ => (e_call G_giver_among (hr.mono (by decide)) rfl g_giver_among F_giver_among.kp B_giver_among (a_cons (e_var (pv 1)) (a_cons (e_ix hr.units (w_of (e_var (pv 3))) (w_of e_int)) (a_cons (e_var (pv 5)) a_nil))))))
    (ss_one (s_put hr.units (pv 2) (e_ix hr.units (w_of (e_var (pv 3))) (w_of e_int)) (d_ofF (f_lc (own := [("one", 6)]) rfl sc_givers.nd (ih_of (i_seq (e_var (pv 4)))) (blkOk_by (N := N_givers) (sc := defScope s_givers) (by decide +kernel)) (fun _ _ _ _ _ => (g_name (pg_name (i := 6) sc_givers.nd rfl (by first | exact .inl rfl | exact .inr rfl)))) (fun _ _ _ _ _ => (ts_one (t_cmp o_notN (w_of (e_var (pv 6))) (w_of e_none)))) (fun _ _ _ _ _ => (e_var (pv 6)))))))))
    (ss_one (s_retOwn (pv 2))))))
abbrev N_order : List Str := ["house", "book", "found", "turn", "ready", "name", "one"]
theorem sc_order : FnScope N_order ["house"] (defScope s_order) := ⟨rfl, rfl, rfl, by decide +kernel, rfl, by decide +kernel, by decide +kernel⟩
theorem ok_order {C : Addr} (T : Tb K mg C) {f : Addr} {fd : FuncData} (F : FnP K "order" s_order f fd) : FnOk P w K mg base CX0 7 f fd ["house"] (spD K 1 m_order) := by
  obtain ⟨f_givers, fd_givers, F_givers, g_givers⟩ := T.d_givers
  have G_givers := ok_givers (P := P) (w := w) (base := base) T F_givers
  have B_givers : Binds K fd_givers ["house"] [] := F_givers.bindsN fun _ _ _ _ _ _ us hl => match us, hl with | [_], _ => rfl
  refine fn_dm (N := N_order) (k := 6) g_order rfl rfl F sc_order fun cdv A outer s H E hr => ?_
  exact (ss_cons (s_set sc_order.nd (i := 1) rfl (.inr rfl) (e_call G_givers hr rfl g_givers F_givers.kp B_givers (a_cons (e_var (pv 0)) a_nil)))
    (ss_cons (s_own sc_order.nd (i := 2) rfl (.inr rfl) (f_lst a_nil))
    (ss_cons (s_for (vs := [3]) PassesOwn.never rfl (i_seq (d_ofF (f_t1 (c_list rfl) rfl T.b_list boot_list (w_of (e_var (pv 1)))))) (g_name (pg_name (i := 3) sc_order.nd rfl (by first | exact .inl rfl | exact .inr rfl))) (ss_cons (s_setLc (i := 4) (own := [("name", 5)]) rfl sc_order.nd rfl rfl (sw_true rfl rfl rfl (by decide +kernel)) (ih_of (i_keys (e_var (pv 1)))) (blkOk_by (N := N_order) (sc := defScope s_order) (by decide +kernel)) (fun _ _ _ _ _ => (g_name (pg_name (i := 5) sc_order.nd rfl (by first | exact .inl rfl | exact .inr rfl)))) (fun _ _ _ _ _ => (ts_one (PW.pt (t_and (t_cmp (o_notIn hr.units) (w_of (e_var (pv 5))) (w_var (pv 2))) (t_and1 (t_val (w_of (e_b1 (c_all rfl) rfl T.b_all boot_all (w_ofF (f_lc (own := [("one", 6)]) rfl sc_order.nd (ih_of (i_seq (e_ix hr.units (w_of (e_var (pv 1))) (w_of (e_var (pv 5)))))) (blkOk_by (by kernel_rfl)) (fun _ _ _ _ _ => (g_name (pg_name (i := 6) sc_order.nd rfl (by first | exact .inl rfl | exact .inr rfl)))) (fun _ _ _ _ _ => ts_nil) (fun _ _ _ _ _ => (e_cmp (o_in hr.units) (w_of (e_var (pv 6))) (w_var (pv 2)))))))))))))) (fun _ _ _ _ _ => (e_var (pv 5))))
    (ss_one (s_if (t_cmp (o_gt hr.units) (w_of (e_b1 c_len rfl T.b_len boot_len (w_of (e_var (pv 4))))) (w_of e_int)) (ss_one (s_app (pv 2) (e_ix hr.units (w_of (e_var (pv 4))) (w_of e_int)))) ss_nil))))
    (ss_one (s_ret (e_t1 c_tuple rfl T.b_tuple boot_tuple (w_var (pv 2))))))))
abbrev N_house_of : List Str := ["book", "name"]
theorem sc_house_of : FnScope N_house_of ["book"] (defScope s_house_of) := ⟨rfl, rfl, rfl, by decide +kernel, rfl, by decide +kernel, by decide +kernel⟩
theorem ok_house_of {C : Addr} (T : Tb K mg C) {f : Addr} {fd : FuncData} (F : FnP K "house_of" s_house_of f fd) : FnOk P w K mg base CX0 1 f fd ["book"] (spD K 1 m_house_of) := by
  refine fn_dm (N := N_house_of) (k := 0) g_house_of rfl rfl F sc_house_of fun cdv A outer s H E hr => ?_
  exact (ss_one (s_ret (e_t1 c_tuple rfl T.b_tuple boot_tuple (w_ofF (f_lc (own := [("name", 1)]) rfl sc_house_of.nd (ih_of (i_seq (d_ofF (f_b1 (c_sorted rfl hr.units) rfl T.b_sorted boot_sorted (w_of (e_var (pv 0))))))) (blkOk_by (N := N_house_of) (sc := defScope s_house_of) (by decide +kernel)) (fun _ _ _ _ _ => (g_name (pg_name (i := 1) sc_house_of.nd rfl (by first | exact .inl rfl | exact .inr rfl)))) (fun _ _ _ _ _ => ts_nil) (fun _ _ _ _ _ => (e_ix hr.units (w_of (e_var (pv 0))) (w_of (e_var (pv 1))))))))))
abbrev N_chain : List Str := ["house", "hook", "book", "found", "place", "name", "at", "row", "part", "deed", "rank"]
theorem sc_chain : FnScope N_chain ["house", "hook"] (defScope s_chain) := ⟨rfl, rfl, rfl, by decide +kernel, rfl, by decide +kernel, by decide +kernel⟩
theorem ok_chain {C : Addr} (T : Tb K mg C) {f : Addr} {fd : FuncData} (F : FnP K "chain" s_chain f fd) : FnOk P w K mg base CX0 8 f fd ["house", "hook"] (spD K 2 m_chain) := by
  obtain ⟨f_order, fd_order, F_order, g_order⟩ := T.d_order
  have G_order := ok_order (P := P) (w := w) (base := base) T F_order
  have B_order : Binds K fd_order ["house"] [] := F_order.bindsN fun _ _ _ _ _ _ us hl => match us, hl with | [_], _ => rfl
  refine fn_dm (N := N_chain) (k := 7) g_chain rfl rfl F sc_chain fun cdv A outer s H E hr => ?_
  exact (ss_cons (s_set sc_chain.nd (i := 2) rfl (.inl rfl) (d_ofF (f_t1 (c_dict rfl) rfl T.b_dict boot_dict (w_ofF (f_lc (own := [("part", 8)]) rfl sc_chain.nd (ih_of (i_seq (e_var (pv 0)))) (blkOk_by (N := N_chain) (sc := defScope s_chain) (by decide +kernel)) (fun _ _ _ _ _ => (g_name (pg_name (i := 8) sc_chain.nd rfl (by first | exact .inl rfl | exact .inr rfl)))) (fun _ _ _ _ _ => ts_nil) (fun _ _ _ _ _ => (e_tup (a_cons (e_ix hr.units (w_of (e_var (pv 8))) (w_of e_int)) (a_cons (e_var (pv 8)) a_nil)))))))))
    (ss_cons (s_own sc_chain.nd (i := 3) rfl (.inl rfl) (f_lst a_nil))
    (ss_cons (s_for (vs := [4, 5]) PassesOwn.never rfl (i_enum rfl T.b_enumerate (e_call G_order hr rfl g_order F_order.kp B_order (a_cons (e_var (pv 0)) a_nil))) (g_tup rfl (g_cons (g_name (pg_name (i := 4) sc_chain.nd rfl (by first | exact .inl rfl | exact .inr rfl))) (g_cons (g_name (pg_name (i := 5) sc_chain.nd rfl (by first | exact .inl rfl | exact .inr rfl))) g_nil)) (len_cons (len_cons (fun _ _ _ => len_nil)))) (ss_one (s_for (vs := [6, 7]) PassesOwn.never rfl (i_enum rfl T.b_enumerate (e_ix hr.units (w_of (e_ix hr.units (w_of (e_var (pv 2))) (w_of (e_var (pv 5))))) (w_of e_int))) (g_tup rfl (g_cons (g_name (pg_name (i := 6) sc_chain.nd rfl (by first | exact .inl rfl | exact .inr rfl))) (g_cons (g_name (pg_name (i := 7) sc_chain.nd rfl (by first | exact .inl rfl | exact .inr rfl))) g_nil)) (len_cons (len_cons (fun _ _ _ => len_nil)))) (ss_one (s_if (t_cmp (o_eq hr.units) (w_of (e_ix hr.units (w_of (e_var (pv 7))) (w_of e_int))) (w_of (e_var (pv 1)))) (ss_one (s_app (pv 3) (e_tup (a_cons (e_ix hr.units (w_of (e_var (pv 7))) (w_of e_int)) (a_cons (e_var (pv 4)) (a_cons (e_var (pv 6)) (a_cons (e_var (pv 5)) (a_cons (e_ix hr.units (w_of (e_var (pv 7))) (w_of e_int)) a_nil)))))))) ss_nil)))))
    (ss_one (s_ret (e_t1 c_tuple rfl T.b_tuple boot_tuple (w_ofF (f_lc (own := [("rank", 10), ("place", 4), ("at", 6), ("name", 5), ("deed", 9)]) rfl sc_chain.nd (ih_of (i_seq (d_ofF (f_b1 (c_sorted rfl hr.units) rfl T.b_sorted boot_sorted (w_var (pv 3)))))) (blkOk_by (N := N_chain) (sc := defScope s_chain) (by decide +kernel)) (fun _ _ _ _ _ => (g_tup rfl (g_cons (g_name (pg_name (i := 10) sc_chain.nd rfl (by first | exact .inl rfl | exact .inr rfl))) (g_cons (g_name (pg_name (i := 4) sc_chain.nd rfl (by first | exact .inl rfl | exact .inr rfl))) (g_cons (g_name (pg_name (i := 6) sc_chain.nd rfl (by first | exact .inl rfl | exact .inr rfl))) (g_cons (g_name (pg_name (i := 5) sc_chain.nd rfl (by first | exact .inl rfl | exact .inr rfl))) (g_cons (g_name (pg_name (i := 9) sc_chain.nd rfl (by first | exact .inl rfl | exact .inr rfl))) g_nil))))) (len_cons (len_cons (len_cons (len_cons (len_cons (fun _ _ _ => len_nil)))))))) (fun _ _ _ _ _ => ts_nil) (fun _ _ _ _ _ => (e_tup (a_cons (e_var (pv 5)) (a_cons (e_var (pv 10)) (a_cons (e_var (pv 9)) a_nil)))))))))))))
abbrev N_pulled : List Str := ["house", "hook", "worth", "name", "rank", "deed", "word"]
theorem sc_pulled : FnScope N_pulled ["house", "hook", "worth"] (defScope s_pulled) := ⟨rfl, rfl, rfl, by decide +kernel, rfl, by decide +kernel, by decide +kernel⟩
theorem ok_pulled {C : Addr} (T : Tb K mg C) {f : Addr} {fd : FuncData} (F : FnP K "pulled" s_pulled f fd) : FnOk P w K mg base CX0 9 f fd ["house", "hook", "worth"] (spD K 3 m_pulled) := by
  obtain ⟨f_chain, fd_chain, F_chain, g_chain⟩ := T.d_chain
  have G_chain := ok_chain (P := P) (w := w) (base := base) T F_chain
  have B_chain : Binds K fd_chain ["house", "hook"] [] := F_chain.bindsN fun _ _ _ _ _ _ us hl => match us, hl with | [_, _], _ => rfl
  refine fn_dm (N := N_pulled) (k := 8) g_pulled rfl rfl F sc_pulled fun cdv A outer s H E hr => ?_
  exact (ss_cons (s_for (vs := [3, 4, 5]) PassesOwn.never rfl (i_seq (e_call G_chain hr rfl g_chain F_chain.kp B_chain (a_cons (e_var (pv 0)) (a_cons (e_var (pv 1)) a_nil)))) (g_tup rfl (g_cons (g_name (pg_name (i := 3) sc_pulled.nd rfl (by first | exact .inl rfl | exact .inr rfl))) (g_cons (g_name (pg_name (i := 4) sc_pulled.nd rfl (by first | exact .inl rfl | exact .inr rfl))) (g_cons (g_name (pg_name (i := 5) sc_pulled.nd rfl (by first | exact .inl rfl | exact .inr rfl))) g_nil))) (len_cons (len_cons (len_cons (fun _ _ _ => len_nil))))) (ss_cons (s_set sc_pulled.nd (i := 6) rfl (.inl rfl) (e_ix hr.units (w_of (e_var (pv 5))) (w_of e_int)))
    (ss_cons (s_if (t_cmp (o_eq hr.units) (w_of (e_var (pv 6))) (w_of e_str)) (ss_one (s_ret (e_tup (a_cons (e_var (pv 2)) (a_cons e_none a_nil))))) ss_nil)
    (ss_cons (s_if (PW.pt (t_and (t_cmp (o_eq hr.units) (w_of (e_var (pv 6))) (w_of e_str)) (t_and1 (t_cmp (o_ge hr.units) (w_of (e_var (pv 2))) (w_of (e_ix hr.units (w_of (e_var (pv 5))) (w_of e_int))))))) (ss_one (s_ret (e_tup (a_cons (e_var (pv 2)) (a_cons (e_var (pv 3)) a_nil))))) ss_nil)
    (ss_one (s_if (t_cmp (o_eq hr.units) (w_of (e_var (pv 6))) (w_of e_str)) (ss_one (s_set sc_pulled.nd (i := 2) rfl (.inl rfl) (e_op o_mod (w_of (e_op o_add (w_of (e_var (pv 2))) (w_of (e_ix hr.units (w_of (e_var (pv 5))) (w_of e_int))))) (w_of (e_gint rfl T.g_RING))))) (ss_one (s_if (t_cmp (o_eq hr.units) (w_of (e_var (pv 6))) (w_of e_str)) (ss_one (s_set sc_pulled.nd (i := 2) rfl (.inl rfl) (e_op o_mod (w_of (e_op o_mul (w_of (e_var (pv 2))) (w_of (e_ix hr.units (w_of (e_var (pv 5))) (w_of e_int))))) (w_of (e_gint rfl T.g_RING))))) (ss_one (s_if (t_cmp (o_eq hr.units) (w_of (e_var (pv 6))) (w_of e_str)) (ss_one (s_set sc_pulled.nd (i := 2) rfl (.inl rfl) (e_ix hr.units (w_of (e_var (pv 5))) (w_of e_int)))) ss_nil))))))))))
    (ss_one (s_ret (e_tup (a_cons (e_var (pv 2)) (a_cons e_none a_nil))))))
abbrev N_Host___init__ : List Str := ["self"]
theorem sc_Host___init__ : FnScope N_Host___init__ ["self"] (defScope s_Host___init__) := ⟨rfl, rfl, rfl, by decide +kernel, rfl, by decide +kernel, by decide +kernel⟩
theorem ok_Host___init__ {C : Addr} (T : Tb K mg C) {f : Addr} {fd : FuncData} (F : FnM K "__init__" "Host.__init__" s_Host___init__ f fd) : FnOk P w K mg base CX0 1 f fd ["self"] (spInit K C) := by
  refine fn_init (N := N_Host___init__) (k := 0) T.h F sc_Host___init__ fun cdv A outer s H E hr => ?_
  exact ss_init (pv 0) (pv 0) (pv 0) (pv 0)
abbrev N_Host_house : List Str := ["self"]
theorem sc_Host_house : FnScope N_Host_house ["self"] (defScope s_Host_house) := ⟨rfl, rfl, rfl, by decide +kernel, rfl, by decide +kernel, by decide +kernel⟩
theorem ok_Host_house {C : Addr} (T : Tb K mg C) {f : Addr} {fd : FuncData} (F : FnM K "house" "Host.house" s_Host_house f fd) : FnOk P w K mg base CX0 2 f fd ["self"] (spHP K m_Host_house) := by
  obtain ⟨f_house_of, fd_house_of, F_house_of, g_house_of⟩ := T.d_house_of
  have G_house_of := ok_house_of (P := P) (w := w) (base := base) T F_house_of
  have B_house_of : Binds K fd_house_of ["book"] [] := F_house_of.bindsN fun _ _ _ _ _ _ us hl => match us, hl with | [_], _ => rfl
  refine fn_hpm (N := N_Host_house) (k := 1) g_Host_house rfl F sc_Host_house fun cdv A outer s H E hr => ?_
  exact (ss_one (s_ret (e_bor T.h .parts G_house_of hr rfl g_house_of F_house_of.kp B_house_of (pv 0))))
abbrev N_Host_sound : List Str := ["self", "part"]
theorem sc_Host_sound : FnScope N_Host_sound ["self"] (defScope s_Host_sound) := ⟨rfl, rfl, rfl, by decide +kernel, rfl, by decide +kernel, by decide +kernel⟩
theorem ok_Host_sound {C : Addr} (T : Tb K mg C) {f : Addr} {fd : FuncData} (F : FnM K "sound" "Host.sound" s_Host_sound f fd) : FnOk P w K mg base CX0 3 f fd ["self"] (spHP K m_Host_sound) := by
  obtain ⟨f_Host_house, fd_Host_house, F_Host_house, M_Host_house⟩ := T.d_Host_house
  have G_Host_house := ok_Host_house (P := P) (w := w) (base := base) T F_Host_house
  have B_Host_house : Binds K fd_Host_house ["self"] [] := F_Host_house.bindsN fun _ _ _ _ _ _ us hl => match us, hl with | [_], _ => rfl
  refine fn_hpm (N := N_Host_sound) (k := 2) g_Host_sound rfl F sc_Host_sound fun cdv A outer s H E hr => ?_
  exact (ss_one (s_ret (e_t1 c_tuple rfl T.b_tuple boot_tuple (w_ofF (f_lc (own := [("part", 1)]) rfl sc_Host_sound.nd (ih_of (i_seq (e_hp T.h M_Host_house G_Host_house hr B_Host_house (pv 0)))) (blkOk_by (N := N_Host_sound) (sc := defScope s_Host_sound) (by decide +kernel)) (fun _ _ _ _ _ => (g_name (pg_name (i := 1) sc_Host_sound.nd rfl (by first | exact .inl rfl | exact .inr rfl)))) (fun _ _ _ _ _ => (ts_one (t_cmp (o_notIn hr.units) (w_of (e_ix hr.units (w_of (e_var (pv 1))) (w_of e_int))) (w_hdict T.h .faulty (pv 0))))) (fun _ _ _ _ _ => (e_var (pv 1))))))))
abbrev N_Host_settle : List Str := ["self", "now", "name"]
theorem sc_Host_settle : FnScope N_Host_settle ["self"] (defScope s_Host_settle) := ⟨rfl, rfl, rfl, by decide +kernel, rfl, by decide +kernel, by decide +kernel⟩
theorem ok_Host_settle {C : Addr} (T : Tb K mg C) {f : Addr} {fd : FuncData} (F : FnM K "settle" "Host.settle" s_Host_settle f fd) : FnOk P w K mg base CX0 8 f fd ["self"] (spHM K 0 m_Host_settle) := by
  obtain ⟨f_order, fd_order, F_order, g_order⟩ := T.d_order
  have G_order := ok_order (P := P) (w := w) (base := base) T F_order
  have B_order : Binds K fd_order ["house"] [] := F_order.bindsN fun _ _ _ _ _ _ us hl => match us, hl with | [_], _ => rfl
  obtain ⟨f_Host_sound, fd_Host_sound, F_Host_sound, M_Host_sound⟩ := T.d_Host_sound
  have G_Host_sound := ok_Host_sound (P := P) (w := w) (base := base) T F_Host_sound
  have B_Host_sound : Binds K fd_Host_sound ["self"] [] := F_Host_sound.bindsN fun _ _ _ _ _ _ us hl => match us, hl with | [_], _ => rfl
  refine fn_hmm (N := N_Host_settle) (k := 7) g_Host_settle rfl rfl F sc_Host_settle fun cdv A outer s H E hr => ?_
  exact (ss_cons (s_set sc_Host_settle.nd (i := 1) rfl (.inr rfl) (e_call G_order hr rfl g_order F_order.kp B_order (a_cons (e_hp T.h M_Host_sound G_Host_sound (hr.mono (by decide)) B_Host_sound (pv 0)) a_nil)))
    (ss_cons (s_hext T.h (pv 0) (w_ofF (f_lc (own := [("name", 2)]) rfl sc_Host_settle.nd (ih_of (i_seq (e_rev (w_of (e_hrun T.h (pv 0)))))) (blkOk_by (N := N_Host_settle) (sc := defScope s_Host_settle) (by decide +kernel)) (fun _ _ _ _ _ => (g_name (pg_name (i := 2) sc_Host_settle.nd rfl (by first | exact .inl rfl | exact .inr rfl)))) (fun _ _ _ _ _ => (ts_one (t_cmp (o_notIn hr.units) (w_of (e_var (pv 2))) (w_of (e_var (pv 1)))))) (fun _ _ _ _ _ => (e_tup (a_cons e_str (a_cons (e_var (pv 2)) a_nil)))))))
    (ss_cons (s_hext T.h (pv 0) (w_ofF (f_lc (own := [("name", 2)]) rfl sc_Host_settle.nd (ih_of (i_seq (e_var (pv 1)))) (blkOk_by (N := N_Host_settle) (sc := defScope s_Host_settle) (by decide +kernel)) (fun _ _ _ _ _ => (g_name (pg_name (i := 2) sc_Host_settle.nd rfl (by first | exact .inl rfl | exact .inr rfl)))) (fun _ _ _ _ _ => (ts_one (t_cmp (o_notIn hr.units) (w_of (e_var (pv 2))) (w_of (e_hrun T.h (pv 0)))))) (fun _ _ _ _ _ => (e_tup (a_cons e_str (a_cons (e_var (pv 2)) a_nil)))))))
    (ss_one (s_hrun T.h (pv 0) (e_var (pv 1)))))))
abbrev N_Host_put : List Str := ["self", "part"]
theorem sc_Host_put : FnScope N_Host_put ["self", "part"] (defScope s_Host_put) := ⟨rfl, rfl, rfl, by decide +kernel, rfl, by decide +kernel, by decide +kernel⟩
theorem ok_Host_put {C : Addr} (T : Tb K mg C) {f : Addr} {fd : FuncData} (F : FnM K "put" "Host.put" s_Host_put f fd) : FnOk P w K mg base CX0 9 f fd ["self", "part"] (spHM K 1 m_Host_put) := by
  obtain ⟨f_Host_settle, fd_Host_settle, F_Host_settle, M_Host_settle⟩ := T.d_Host_settle
  have G_Host_settle := ok_Host_settle (P := P) (w := w) (base := base) T F_Host_settle
  have B_Host_settle : Binds K fd_Host_settle ["self"] [] := F_Host_settle.bindsN fun _ _ _ _ _ _ us hl => match us, hl with | [_], _ => rfl
  refine fn_hmm (N := N_Host_put) (k := 8) g_Host_put rfl rfl F sc_Host_put fun cdv A outer s H E hr => ?_
  exact (ss_cons (s_hput hr.units T.h .parts (pv 0) (e_ix hr.units (w_of (e_var (pv 1))) (w_of e_int)) (e_var (pv 1)))
    (ss_cons (s_hpop2 T.h .faulty (pv 0) (e_ix hr.units (w_of (e_var (pv 1))) (w_of e_int)) ⟨rfl, rfl, rfl, rfl⟩)
    (ss_one (s_exprM (m_h0 T.h M_Host_settle G_Host_settle hr B_Host_settle (pv 0))))))
abbrev N_Host_out : List Str := ["self", "name"]
theorem sc_Host_out : FnScope N_Host_out ["self", "name"] (defScope s_Host_out) := ⟨rfl, rfl, rfl, by decide +kernel, rfl, by decide +kernel, by decide +kernel⟩
theorem ok_Host_out {C : Addr} (T : Tb K mg C) {f : Addr} {fd : FuncData} (F : FnM K "out" "Host.out" s_Host_out f fd) : FnOk P w K mg base CX0 9 f fd ["self", "name"] (spHM K 1 m_Host_out) := by
  obtain ⟨f_Host_settle, fd_Host_settle, F_Host_settle, M_Host_settle⟩ := T.d_Host_settle
  have G_Host_settle := ok_Host_settle (P := P) (w := w) (base := base) T F_Host_settle
  have B_Host_settle : Binds K fd_Host_settle ["self"] [] := F_Host_settle.bindsN fun _ _ _ _ _ _ us hl => match us, hl with | [_], _ => rfl
  refine fn_hmm (N := N_Host_out) (k := 8) g_Host_out rfl rfl F sc_Host_out fun cdv A outer s H E hr => ?_
  exact (ss_cons (s_if (t_cmp (o_notIn hr.units) (w_of (e_var (pv 1))) (w_hdict T.h .parts (pv 0))) (ss_one s_no) ss_nil)
    (ss_cons (s_hpop T.h .parts (pv 0) (e_var (pv 1)) ⟨rfl, rfl, rfl, rfl⟩)
    (ss_cons (s_hpop2 T.h .faulty (pv 0) (e_var (pv 1)) ⟨rfl, rfl, rfl, rfl⟩)
    (ss_one (s_exprM (m_h0 T.h M_Host_settle G_Host_settle hr B_Host_settle (pv 0)))))))
abbrev N_Host_broken : List Str := ["self"]
theorem sc_Host_broken : FnScope N_Host_broken ["self"] (defScope s_Host_broken) := ⟨rfl, rfl, rfl, by decide +kernel, rfl, by decide +kernel, by decide +kernel⟩
theorem ok_Host_broken {C : Addr} (T : Tb K mg C) {f : Addr} {fd : FuncData} (F : FnM K "broken" "Host.broken" s_Host_broken f fd) : FnOk P w K mg base CX0 1 f fd ["self"] (spHP K m_Host_broken) := by
  refine fn_hpm (N := N_Host_broken) (k := 0) g_Host_broken rfl F sc_Host_broken fun cdv A outer s H E hr => ?_
  exact (ss_one (s_ret (e_t1 c_tuple rfl T.b_tuple boot_tuple (w_ofF (f_b1 (c_sorted rfl hr.units) rfl T.b_sorted boot_sorted (w_hdict T.h .faulty (pv 0)))))))
abbrev N_Host_live : List Str := ["self"]
theorem sc_Host_live : FnScope N_Host_live ["self"] (defScope s_Host_live) := ⟨rfl, rfl, rfl, by decide +kernel, rfl, by decide +kernel, by decide +kernel⟩
theorem ok_Host_live {C : Addr} (T : Tb K mg C) {f : Addr} {fd : FuncData} (F : FnM K "live" "Host.live" s_Host_live f fd) : FnOk P w K mg base CX0 1 f fd ["self"] (spHP K m_Host_live) := by
  refine fn_hpm (N := N_Host_live) (k := 0) g_Host_live rfl F sc_Host_live fun cdv A outer s H E hr => ?_
  exact (ss_one (s_ret (e_hrun T.h (pv 0))))
abbrev N_Host_pull : List Str := ["self", "hook", "worth", "found", "name"]
theorem sc_Host_pull : FnScope N_Host_pull ["self", "hook", "worth"] (defScope s_Host_pull) := ⟨rfl, rfl, rfl, by decide +kernel, rfl, by decide +kernel, by decide +kernel⟩
theorem ok_Host_pull {C : Addr} (T : Tb K mg C) {f : Addr} {fd : FuncData} (F : FnM K "pull" "Host.pull" s_Host_pull f fd) : FnOk P w K mg base CX0 10 f fd ["self", "hook", "worth"] (spHM K 2 m_Host_pull) := by
  obtain ⟨f_pulled, fd_pulled, F_pulled, g_pulled⟩ := T.d_pulled
  have G_pulled := ok_pulled (P := P) (w := w) (base := base) T F_pulled
  have B_pulled : Binds K fd_pulled ["house", "hook", "worth"] [] := F_pulled.bindsN fun _ _ _ _ _ _ us hl => match us, hl with | [_, _, _], _ => rfl
  obtain ⟨f_Host_sound, fd_Host_sound, F_Host_sound, M_Host_sound⟩ := T.d_Host_sound
  have G_Host_sound := ok_Host_sound (P := P) (w := w) (base := base) T F_Host_sound
  have B_Host_sound : Binds K fd_Host_sound ["self"] [] := F_Host_sound.bindsN fun _ _ _ _ _ _ us hl => match us, hl with | [_], _ => rfl
  obtain ⟨f_Host_settle, fd_Host_settle, F_Host_settle, M_Host_settle⟩ := T.d_Host_settle
  have G_Host_settle := ok_Host_settle (P := P) (w := w) (base := base) T F_Host_settle
  have B_Host_settle : Binds K fd_Host_settle ["self"] [] := F_Host_settle.bindsN fun _ _ _ _ _ _ us hl => match us, hl with | [_], _ => rfl
  refine fn_hrm (N := N_Host_pull) (k := 9) g_Host_pull r_Host_pull rfl rfl F sc_Host_pull fun cdv A outer s H E hr => ?_
  exact (ss_body (s_asg (vs := [3, 4]) (e_call G_pulled hr rfl g_pulled F_pulled.kp B_pulled (a_cons (e_hp T.h M_Host_sound G_Host_sound (hr.mono (by decide)) B_Host_sound (pv 0)) (a_cons (e_var (pv 1)) (a_cons (e_var (pv 2)) a_nil)))) (g_tup rfl (g_cons (g_name (pg_name (i := 3) sc_Host_pull.nd rfl (by first | exact .inl rfl | exact .inr rfl))) (g_cons (g_name (pg_name (i := 4) sc_Host_pull.nd rfl (by first | exact .inl rfl | exact .inr rfl))) g_nil)) (len_cons (len_cons (fun _ _ _ => len_nil)))))
    (ss_body (s_while 100000 PassesOwn.never (t_cmp o_notN (w_of (e_var (pv 4))) (w_of e_none)) (ss_cons (s_hput hr.units T.h .faulty (pv 0) (e_var (pv 4)) e_bool)
    (ss_cons (s_exprM (m_h0 T.h M_Host_settle G_Host_settle (hr.mono (by decide)) B_Host_settle (pv 0)))
    (ss_one (s_asg (vs := [3, 4]) (e_call G_pulled hr rfl g_pulled F_pulled.kp B_pulled (a_cons (e_hp T.h M_Host_sound G_Host_sound (hr.mono (by decide)) B_Host_sound (pv 0)) (a_cons (e_var (pv 1)) (a_cons (e_var (pv 2)) a_nil)))) (g_tup rfl (g_cons (g_name (pg_name (i := 3) sc_Host_pull.nd rfl (by first | exact .inl rfl | exact .inr rfl))) (g_cons (g_name (pg_name (i := 4) sc_Host_pull.nd rfl (by first | exact .inl rfl | exact .inr rfl))) g_nil)) (len_cons (len_cons (fun _ _ _ => len_nil)))))))))
    (ss_body1 (e_var (pv 3)))))
abbrev N_Host_mend : List Str := ["self", "name"]
theorem sc_Host_mend : FnScope N_Host_mend ["self", "name"] (defScope s_Host_mend) := ⟨rfl, rfl, rfl, by decide +kernel, rfl, by decide +kernel, by decide +kernel⟩
theorem ok_Host_mend {C : Addr} (T : Tb K mg C) {f : Addr} {fd : FuncData} (F : FnM K "mend" "Host.mend" s_Host_mend f fd) : FnOk P w K mg base CX0 9 f fd ["self", "name"] (spHM K 1 m_Host_mend) := by
  obtain ⟨f_Host_settle, fd_Host_settle, F_Host_settle, M_Host_settle⟩ := T.d_Host_settle
  have G_Host_settle := ok_Host_settle (P := P) (w := w) (base := base) T F_Host_settle
  have B_Host_settle : Binds K fd_Host_settle ["self"] [] := F_Host_settle.bindsN fun _ _ _ _ _ _ us hl => match us, hl with | [_], _ => rfl
  refine fn_hmm (N := N_Host_mend) (k := 8) g_Host_mend rfl rfl F sc_Host_mend fun cdv A outer s H E hr => ?_
  exact (ss_cons (s_if (t_cmp (o_notIn hr.units) (w_of (e_var (pv 1))) (w_hdict T.h .faulty (pv 0))) (ss_one s_no) ss_nil)
    (ss_cons (s_hpop T.h .faulty (pv 0) (e_var (pv 1)) ⟨rfl, rfl, rfl, rfl⟩)
    (ss_one (s_exprM (m_h0 T.h M_Host_settle G_Host_settle hr B_Host_settle (pv 0))))))
abbrev N_Host_said : List Str := ["self"]
theorem sc_Host_said : FnScope N_Host_said ["self"] (defScope s_Host_said) := ⟨rfl, rfl, rfl, by decide +kernel, rfl, by decide +kernel, by decide +kernel⟩
theorem ok_Host_said {C : Addr} (T : Tb K mg C) {f : Addr} {fd : FuncData} (F : FnM K "said" "Host.said" s_Host_said f fd) : FnOk P w K mg base CX0 1 f fd ["self"] (spHP K m_Host_said) := by
  refine fn_hpm (N := N_Host_said) (k := 0) g_Host_said rfl F sc_Host_said fun cdv A outer s H E hr => ?_
  exact (ss_one (s_ret (e_t1 c_tuple rfl T.b_tuple boot_tuple (w_hrows T.h (pv 0)))))
abbrev N__law_cell_at : List Str := ["_law_script", "_law_k"]
theorem sc__law_cell_at : FnScope N__law_cell_at ["_law_script", "_law_k"] (defScope s__law_cell_at) := ⟨rfl, rfl, rfl, by decide +kernel, rfl, by decide +kernel, by decide +kernel⟩
theorem ok__law_cell_at {C : Addr} (T : Tb K mg C) {f : Addr} {fd : FuncData} (F : FnP K "_law_cell_at" s__law_cell_at f fd) : FnOk P w K mg base CX0 1 f fd ["_law_script", "_law_k"] (spD K 2 m__law_cell_at) := by
  refine fn_dm (N := N__law_cell_at) (k := 0) g__law_cell_at rfl rfl F sc__law_cell_at fun cdv A outer s H E hr => ?_
  exact (ss_cons (s_if (t_cmp (o_lt hr.units) (w_of (e_var (pv 1))) (w_of (e_b1 c_len rfl T.b_len boot_len (w_of (e_var (pv 0)))))) (ss_one (s_ret (e_ix hr.units (w_of (e_var (pv 0))) (w_of (e_var (pv 1)))))) ss_nil)
    (ss_one (s_ret e_int)))
abbrev N__law_mixed : List Str := ["_law_script", "_law_k", "_law_drawn_here"]
theorem sc__law_mixed : FnScope N__law_mixed ["_law_script", "_law_k"] (defScope s__law_mixed) := ⟨rfl, rfl, rfl, by decide +kernel, rfl, by decide +kernel, by decide +kernel⟩
theorem ok__law_mixed {C : Addr} (T : Tb K mg C) {f : Addr} {fd : FuncData} (F : FnP K "_law_mixed" s__law_mixed f fd) : FnOk P w K mg base CX0 2 f fd ["_law_script", "_law_k"] (spD K 2 m__law_mixed) := by
  obtain ⟨f__law_cell_at, fd__law_cell_at, F__law_cell_at, g__law_cell_at⟩ := T.d__law_cell_at
  have G__law_cell_at := ok__law_cell_at (P := P) (w := w) (base := base) T F__law_cell_at
  have B__law_cell_at : Binds K fd__law_cell_at ["_law_script", "_law_k"] [] := F__law_cell_at.bindsN fun _ _ _ _ _ _ us hl => match us, hl with | [_, _], _ => rfl
  refine fn_dm (N := N__law_mixed) (k := 1) g__law_mixed rfl rfl F sc__law_mixed fun cdv A outer s H E hr => ?_
  exact (ss_cons (s_set sc__law_mixed.nd (i := 2) rfl (.inl rfl) (e_op o_mod (w_of (e_op o_mul (w_of (e_op o_add (w_of (e_op o_add (w_of (e_call G__law_cell_at hr rfl g__law_cell_at F__law_cell_at.kp B__law_cell_at (a_cons (e_var (pv 0)) (a_cons (e_var (pv 1)) a_nil)))) (w_of (e_op o_mul (w_of e_int) (w_of (e_var (pv 1))))))) (w_of e_int))) (w_of e_int))) (w_of e_int)))
    (ss_one (s_ret (e_op o_mod (w_of (e_op o_add (w_of (e_op o_add (w_of (e_op o_mul (w_of (e_var (pv 2))) (w_of (e_var (pv 2))))) (w_of (e_op o_mul (w_of e_int) (w_of (e_var (pv 2))))))) (w_of (e_var (pv 1))))) (w_of e_int)))))
abbrev N__law_drawn : List Str := ["_law_number", "_law_k", "_law_drawn_here"]
theorem sc__law_drawn : FnScope N__law_drawn ["_law_number", "_law_k"] (defScope s__law_drawn) := ⟨rfl, rfl, rfl, by decide +kernel, rfl, by decide +kernel, by decide +kernel⟩
theorem ok__law_drawn {C : Addr} (T : Tb K mg C) {f : Addr} {fd : FuncData} (F : FnP K "_law_drawn" s__law_drawn f fd) : FnOk P w K mg base CX0 1 f fd ["_law_number", "_law_k"] (spD K 2 m__law_drawn) := by
  refine fn_dm (N := N__law_drawn) (k := 0) g__law_drawn rfl rfl F sc__law_drawn fun cdv A outer s H E hr => ?_
  exact (ss_cons (s_set sc__law_drawn.nd (i := 2) rfl (.inl rfl) (e_op o_mod (w_of (e_op o_mul (w_of (e_op o_add (w_of (e_op o_add (w_of (e_var (pv 0))) (w_of (e_op o_mul (w_of e_int) (w_of (e_var (pv 1))))))) (w_of e_int))) (w_of e_int))) (w_of e_int)))
    (ss_one (s_ret (e_op o_mod (w_of (e_op o_add (w_of (e_op o_add (w_of (e_op o_mul (w_of (e_var (pv 2))) (w_of (e_var (pv 2))))) (w_of (e_op o_mul (w_of e_int) (w_of (e_var (pv 2))))))) (w_of (e_var (pv 1))))) (w_of e_int)))))
abbrev N__law_part : List Str := ["_law_number", "_law_name", "_law_faces", "_law_wants", "_law_hooks", "_law_k", "_law_face", "_law_drawn_here", "_law_low", "_law_want", "_law_words", "_law_word", "_law_deed", "_law_hook"]
theorem sc__law_part : FnScope N__law_part ["_law_number", "_law_name"] (defScope s__law_part) := ⟨rfl, rfl, rfl, by decide +kernel, rfl, by decide +kernel, by decide +kernel⟩
theorem ok__law_part {C : Addr} (T : Tb K mg C) {f : Addr} {fd : FuncData} (F : FnP K "_law_part" s__law_part f fd) : FnOk P w K mg base CX0 2 f fd ["_law_number", "_law_name"] (spD K 2 m__law_part) := by
  obtain ⟨f__law_drawn, fd__law_drawn, F__law_drawn, g__law_drawn⟩ := T.d__law_drawn
  have G__law_drawn := ok__law_drawn (P := P) (w := w) (base := base) T F__law_drawn
  have B__law_drawn : Binds K fd__law_drawn ["_law_number", "_law_k"] [] := F__law_drawn.bindsN fun _ _ _ _ _ _ us hl => match us, hl with | [_, _], _ => rfl
  refine fn_dm (N := N__law_part) (k := 1) g__law_part rfl rfl F sc__law_part fun cdv A outer s H E hr => ?_
  exact (ss_cons (s_set sc__law_part.nd (i := 2) rfl (.inl rfl) (e_tup a_nil))
    (ss_cons (s_set sc__law_part.nd (i := 3) rfl (.inl rfl) (e_tup a_nil))
    (ss_cons (s_set sc__law_part.nd (i := 4) rfl (.inl rfl) (e_tup a_nil))
    (ss_cons (s_for (vs := [5, 6]) PassesOwn.never rfl (i_enum rfl T.b_enumerate (e_tup (a_cons e_str (a_cons e_str (a_cons e_str a_nil))))) (g_tup rfl (g_cons (g_name (pg_name (i := 5) sc__law_part.nd rfl (by first | exact .inl rfl | exact .inr rfl))) (g_cons (g_name (pg_name (i := 6) sc__law_part.nd rfl (by first | exact .inl rfl | exact .inr rfl))) g_nil)) (len_cons (len_cons (fun _ _ _ => len_nil)))) (ss_cons (s_set sc__law_part.nd (i := 7) rfl (.inl rfl) (e_op o_fdiv (w_of (e_call G__law_drawn hr rfl g__law_drawn F__law_drawn.kp B__law_drawn (a_cons (e_var (pv 0)) (a_cons (e_var (pv 5)) a_nil)))) (w_of e_int)))
    (ss_cons (s_if (t_cmp (o_eq hr.units) (w_of (e_op o_mod (w_of (e_var (pv 7))) (w_of e_int))) (w_of e_int)) (ss_one (s_set sc__law_part.nd (i := 2) rfl (.inl rfl) (e_op o_add (w_of (e_var (pv 2))) (w_of (e_tup (a_cons (e_tup (a_cons (e_var (pv 6)) (a_cons (e_op o_add (w_of e_int) (w_of (e_op o_mod (w_of (e_op o_fdiv (w_of (e_var (pv 7))) (w_of e_int))) (w_of e_int)))) a_nil))) a_nil)))))) ss_nil)
    (ss_one (s_if (t_cmp (o_eq hr.units) (w_of (e_op o_mod (w_of (e_var (pv 7))) (w_of e_int))) (w_of e_int)) (ss_cons (s_set sc__law_part.nd (i := 8) rfl (.inl rfl) (e_op o_add (w_of e_int) (w_of (e_op o_mod (w_of (e_op o_fdiv (w_of (e_var (pv 7))) (w_of e_int))) (w_of e_int)))))
    (ss_cons (s_set sc__law_part.nd (i := 9) rfl (.inl rfl) (e_tup (a_cons (e_var (pv 6)) (a_cons (e_var (pv 8)) (a_cons (e_b2 (c_min rfl) rfl T.b_min boot_min e_int (e_op o_add (w_of (e_var (pv 8))) (w_of (e_op o_mod (w_of (e_op o_fdiv (w_of (e_var (pv 7))) (w_of e_int))) (w_of e_int))))) (a_cons (e_cmp (o_gt hr.units) (w_of (e_op o_mod (w_of (e_op o_fdiv (w_of (e_var (pv 7))) (w_of e_int))) (w_of e_int))) (w_of e_int)) a_nil))))))
    (ss_one (s_set sc__law_part.nd (i := 3) rfl (.inl rfl) (e_op o_add (w_of (e_var (pv 3))) (w_of (e_tup (a_cons (e_var (pv 9)) a_nil)))))))) ss_nil)))))
    (ss_cons (s_for (vs := [5]) PassesOwn.never rfl (i_range1 rfl T.b_range (e_op o_mod (w_of (e_var (pv 0))) (w_of e_int))) (g_name (pg_name (i := 5) sc__law_part.nd rfl (by first | exact .inl rfl | exact .inr rfl))) (ss_cons (s_set sc__law_part.nd (i := 7) rfl (.inl rfl) (e_op o_fdiv (w_of (e_call G__law_drawn hr rfl g__law_drawn F__law_drawn.kp B__law_drawn (a_cons (e_var (pv 0)) (a_cons (e_op o_add (w_of e_int) (w_of (e_var (pv 5)))) a_nil)))) (w_of e_int)))
    (ss_cons (s_set sc__law_part.nd (i := 10) rfl (.inl rfl) (e_tup (a_cons e_str (a_cons e_str (a_cons e_str (a_cons e_str (a_cons e_str (a_cons e_str a_nil))))))))
    (ss_cons (s_set sc__law_part.nd (i := 11) rfl (.inl rfl) (e_ix hr.units (w_of (e_var (pv 10))) (w_of (e_op o_mod (w_of (e_var (pv 7))) (w_of e_int)))))
    (ss_cons (s_set sc__law_part.nd (i := 12) rfl (.inl rfl) (e_op o_add (w_of (e_tup (a_cons (e_var (pv 11)) a_nil))) (w_of (e_op o_mul (w_of (e_tup (a_cons (e_op o_mod (w_of (e_op o_fdiv (w_of (e_var (pv 7))) (w_of e_int))) (w_of (e_ix hr.units (w_of (e_tup (a_cons e_int (a_cons e_int a_nil)))) (w_of (e_op o_mod (w_of (e_op o_fdiv (w_of (e_var (pv 7))) (w_of e_int))) (w_of e_int)))))) a_nil))) (w_of (e_t1 c_int rfl T.b_int boot_int (w_of (e_cmp (o_ne hr.units) (w_of (e_var (pv 11))) (w_of e_str)))))))))
    (ss_cons (s_set sc__law_part.nd (i := 13) rfl (.inl rfl) (e_ix hr.units (w_of (e_tup (a_cons e_str (a_cons e_str a_nil)))) (w_of (e_op o_mod (w_of (e_op o_fdiv (w_of (e_var (pv 7))) (w_of e_int))) (w_of e_int)))))
    (ss_one (s_set sc__law_part.nd (i := 4) rfl (.inl rfl) (e_op o_add (w_of (e_var (pv 4))) (w_of (e_tup (a_cons (e_tup (a_cons (e_var (pv 13)) (a_cons (e_ix hr.units (w_of (e_tup (a_cons e_int (a_cons (e_neg (w_of e_int)) (a_cons e_int (a_cons (e_neg (w_of e_int)) a_nil)))))) (w_of (e_op o_mod (w_of (e_op o_fdiv (w_of (e_var (pv 7))) (w_of e_int))) (w_of e_int)))) (a_cons (e_var (pv 12)) a_nil)))) a_nil))))))))))))
    (ss_one (s_ret (e_tup (a_cons (e_var (pv 1)) (a_cons (e_op o_add (w_of e_int) (w_of (e_op o_mod (w_of (e_op o_fdiv (w_of (e_var (pv 0))) (w_of e_int))) (w_of e_int)))) (a_cons (e_var (pv 2)) (a_cons (e_slice (w_of (e_var (pv 3))) (p_some (w_of (e_op o_mod (w_of (e_op o_fdiv (w_of (e_var (pv 0))) (w_of e_int))) (w_of e_int)))) p_none) (a_cons (e_var (pv 4)) a_nil)))))))))))))
abbrev N__law_house : List Str := ["_law_number", "_law_found", "_law_k", "_law_name", "_law_drawn_here"]
theorem sc__law_house : FnScope N__law_house ["_law_number"] (defScope s__law_house) := ⟨rfl, rfl, rfl, by decide +kernel, rfl, by decide +kernel, by decide +kernel⟩
theorem ok__law_house {C : Addr} (T : Tb K mg C) {f : Addr} {fd : FuncData} (F : FnP K "_law_house" s__law_house f fd) : FnOk P w K mg base CX0 3 f fd ["_law_number"] (spD K 1 m__law_house) := by
  obtain ⟨f__law_drawn, fd__law_drawn, F__law_drawn, g__law_drawn⟩ := T.d__law_drawn
  have G__law_drawn := ok__law_drawn (P := P) (w := w) (base := base) T F__law_drawn
  have B__law_drawn : Binds K fd__law_drawn ["_law_number", "_law_k"] [] := F__law_drawn.bindsN fun _ _ _ _ _ _ us hl => match us, hl with | [_, _], _ => rfl
  obtain ⟨f__law_part, fd__law_part, F__law_part, g__law_part⟩ := T.d__law_part
  have G__law_part := ok__law_part (P := P) (w := w) (base := base) T F__law_part
  have B__law_part : Binds K fd__law_part ["_law_number", "_law_name"] [] := F__law_part.bindsN fun _ _ _ _ _ _ us hl => match us, hl with | [_, _], _ => rfl
  refine fn_dm (N := N__law_house) (k := 2) g__law_house rfl rfl F sc__law_house fun cdv A outer s H E hr => ?_
  exact (ss_cons (s_set sc__law_house.nd (i := 1) rfl (.inl rfl) (e_tup a_nil))
    (ss_cons (s_for (vs := [2, 3]) PassesOwn.never rfl (i_enum rfl T.b_enumerate (e_tup (a_cons e_str (a_cons e_str (a_cons e_str (a_cons e_str (a_cons e_str (a_cons e_str a_nil)))))))) (g_tup rfl (g_cons (g_name (pg_name (i := 2) sc__law_house.nd rfl (by first | exact .inl rfl | exact .inr rfl))) (g_cons (g_name (pg_name (i := 3) sc__law_house.nd rfl (by first | exact .inl rfl | exact .inr rfl))) g_nil)) (len_cons (len_cons (fun _ _ _ => len_nil)))) (ss_cons (s_set sc__law_house.nd (i := 4) rfl (.inl rfl) (e_op o_fdiv (w_of (e_call G__law_drawn (hr.mono (by decide)) rfl g__law_drawn F__law_drawn.kp B__law_drawn (a_cons (e_var (pv 0)) (a_cons (e_op o_add (w_of e_int) (w_of (e_var (pv 2)))) a_nil)))) (w_of e_int)))
    (ss_one (s_if (t_cmp (o_gt hr.units) (w_of (e_op o_mod (w_of (e_var (pv 4))) (w_of e_int))) (w_of (e_op o_mod (w_of (e_var (pv 0))) (w_of e_int)))) (ss_one (s_set sc__law_house.nd (i := 1) rfl (.inl rfl) (e_op o_add (w_of (e_var (pv 1))) (w_of (e_tup (a_cons (e_call G__law_part hr rfl g__law_part F__law_part.kp B__law_part (a_cons (e_op o_fdiv (w_of (e_var (pv 4))) (w_of e_int)) (a_cons (e_var (pv 3)) a_nil))) a_nil)))))) ss_nil))))
    (ss_one (s_ret (e_var (pv 1))))))
abbrev N__law_filled : List Str := ["_law_house_here", "_law_others", "_law_number", "_law_host", "_law_places", "_law_at", "_law_other", "_law_place"]
theorem sc__law_filled : FnScope N__law_filled ["_law_house_here", "_law_others", "_law_number"] (defScope s__law_filled) := ⟨rfl, rfl, rfl, by decide +kernel, rfl, by decide +kernel, by decide +kernel⟩
theorem ok__law_filled {C : Addr} (T : Tb K mg C) {f : Addr} {fd : FuncData} (F : FnP K "_law_filled" s__law_filled f fd) : FnOk P w K mg base CX0 10 f fd ["_law_house_here", "_law_others", "_law_number"] (spO K 3 m__law_filled) := by
  obtain ⟨f_Host___init__, fd_Host___init__, F_Host___init__, K_init⟩ := T.d_Host___init__
  have G_Host___init__ := ok_Host___init__ (P := P) (w := w) (base := base) T F_Host___init__
  have B_Host___init__ : Binds K fd_Host___init__ ["self"] [] := F_Host___init__.bindsN fun _ _ _ _ _ _ us hl => match us, hl with | [_], _ => rfl
  obtain ⟨f_Host_put, fd_Host_put, F_Host_put, M_Host_put⟩ := T.d_Host_put
  have G_Host_put := ok_Host_put (P := P) (w := w) (base := base) T F_Host_put
  have B_Host_put : Binds K fd_Host_put ["self", "part"] [] := F_Host_put.bindsN fun _ _ _ _ _ _ us hl => match us, hl with | [_, _], _ => rfl
  refine fn_om (N := N__law_filled) (k := 9) g__law_filled rfl rfl F sc__law_filled fun cdv A outer s H E hr => ?_
  exact (so_cons (s_obj sc__law_filled.nd (i := 3) rfl (.inl rfl) (o_new T.h K_init G_Host___init__ (hr.mono (by decide)) rfl T.hm B_Host___init__))
    (so_cons (s_set sc__law_filled.nd (i := 4) rfl (.inl rfl) (d_ofF (f_listRg rfl rfl T.b_list rfl T.b_range (e_b1 c_len rfl T.b_len boot_len (w_of (e_var (pv 0)))))))
    (so_cons (s_while 100000 PassesOwn.never (t_cmp (o_ne hr.units) (w_of (e_var (pv 4))) (w_ofF (f_lst a_nil))) (ss_cons (s_set sc__law_filled.nd (i := 5) rfl (.inr rfl) (e_ix hr.units (w_of (e_var (pv 4))) (w_of (e_op o_mod (w_of (e_var (pv 2))) (w_of (e_b1 c_len rfl T.b_len boot_len (w_of (e_var (pv 4)))))))))
    (ss_cons (s_setLc (i := 4) (own := [("_law_place", 7)]) rfl sc__law_filled.nd rfl rfl (sw_true rfl rfl rfl (by decide +kernel)) (ih_of (i_seq (e_var (pv 4)))) (blkOk_by (N := N__law_filled) (sc := defScope s__law_filled) (by decide +kernel)) (fun _ _ _ _ _ => (g_name (pg_name (i := 7) sc__law_filled.nd rfl (by first | exact .inl rfl | exact .inr rfl)))) (fun _ _ _ _ _ => (ts_one (t_cmp (o_ne hr.units) (w_of (e_var (pv 7))) (w_of (e_var (pv 5)))))) (fun _ _ _ _ _ => (e_var (pv 7))))
    (ss_cons (s_for (vs := [6]) PassesOwn.never rfl (i_seq (e_slice (w_of (e_var (pv 1))) (p_some (w_of (e_var (pv 5)))) (p_some (w_of (e_op o_add (w_of (e_var (pv 5))) (w_of e_int)))))) (g_name (pg_name (i := 6) sc__law_filled.nd rfl (by first | exact .inl rfl | exact .inr rfl))) (ss_one (s_exprM (m_h T.h M_Host_put G_Host_put hr B_Host_put (pv 3) (a_cons (e_op o_add (w_of (e_tup (a_cons (e_ix hr.units (w_of (e_ix hr.units (w_of (e_var (pv 0))) (w_of (e_var (pv 5))))) (w_of e_int)) a_nil))) (w_of (e_slice (w_of (e_var (pv 6))) (p_some (w_of e_int)) p_none))) a_nil)))))
    (ss_cons (s_exprM (m_h T.h M_Host_put G_Host_put hr B_Host_put (pv 3) (a_cons (e_ix hr.units (w_of (e_var (pv 0))) (w_of (e_var (pv 5)))) a_nil)))
    (ss_one (s_set sc__law_filled.nd (i := 2) rfl (.inl rfl) (e_op o_add (w_of (e_op o_fdiv (w_of (e_var (pv 2))) (w_of e_int))) (w_of e_int)))))))))
    (so_one (pv 3)))))
abbrev N__law_now : List Str := ["_law_host", "_law_found", "_law_word", "_law_name", "_law_one"]
theorem sc__law_now : FnScope N__law_now ["_law_host"] (defScope s__law_now) := ⟨rfl, rfl, rfl, by decide +kernel, rfl, by decide +kernel, by decide +kernel⟩
theorem ok__law_now {C : Addr} (T : Tb K mg C) {f : Addr} {fd : FuncData} (F : FnP K "_law_now" s__law_now f fd) : FnOk P w K mg base CX0 2 f fd ["_law_host"] (spHB K 0 m__law_now) := by
  obtain ⟨f_Host_said, fd_Host_said, F_Host_said, M_Host_said⟩ := T.d_Host_said
  have G_Host_said := ok_Host_said (P := P) (w := w) (base := base) T F_Host_said
  have B_Host_said : Binds K fd_Host_said ["self"] [] := F_Host_said.bindsN fun _ _ _ _ _ _ us hl => match us, hl with | [_], _ => rfl
  refine fn_hbm (N := N__law_now) (k := 1) g__law_now rfl rfl F sc__law_now fun cdv A outer s H E hr => ?_
  exact (ss_cons (s_set sc__law_now.nd (i := 1) rfl (.inl rfl) (d_ofF (f_lst a_nil)))
    (ss_cons (s_for (vs := [2, 3]) PassesOwn.never rfl (i_seq (e_hp T.h M_Host_said G_Host_said hr B_Host_said (pv 0))) (g_tup rfl (g_cons (g_name (pg_name (i := 2) sc__law_now.nd rfl (by first | exact .inl rfl | exact .inr rfl))) (g_cons (g_name (pg_name (i := 3) sc__law_now.nd rfl (by first | exact .inl rfl | exact .inr rfl))) g_nil)) (len_cons (len_cons (fun _ _ _ => len_nil)))) (ss_cons (s_if (PW.pt (t_or (PW.pt (t_and (t_cmp (o_eq hr.units) (w_of (e_var (pv 2))) (w_of e_str)) (t_and1 (t_cmp (o_in hr.units) (w_of (e_var (pv 3))) (w_of (e_var (pv 1))))))) (t_or1 (PW.pt (t_and (t_cmp (o_eq hr.units) (w_of (e_var (pv 2))) (w_of e_str)) (t_and1 (t_cmp (o_notIn hr.units) (w_of (e_var (pv 3))) (w_of (e_var (pv 1)))))))))) (ss_one (s_ret e_none)) ss_nil)
    (ss_one (s_set sc__law_now.nd (i := 1) rfl (.inl rfl) (d_ofF (f_op o_catL (w_ofF (f_lc (own := [("_law_one", 4)]) rfl sc__law_now.nd (ih_of (i_seq (e_var (pv 1)))) (blkOk_by (N := N__law_now) (sc := defScope s__law_now) (by decide +kernel)) (fun _ _ _ _ _ => (g_name (pg_name (i := 4) sc__law_now.nd rfl (by first | exact .inl rfl | exact .inr rfl)))) (fun _ _ _ _ _ => (ts_one (t_cmp (o_ne hr.units) (w_of (e_var (pv 4))) (w_of (e_var (pv 3)))))) (fun _ _ _ _ _ => (e_var (pv 4))))) (w_ofF (f_mulL (f_lst (a_cons (e_var (pv 3)) a_nil)) (e_t1 c_int rfl T.b_int boot_int (w_of (e_cmp (o_eq hr.units) (w_of (e_var (pv 2))) (w_of e_str))))))))))))
    (ss_one (s_ret (d_ofF (f_b1 (c_sorted rfl hr.units) rfl T.b_sorted boot_sorted (w_of (e_var (pv 1)))))))))
abbrev N_law : List Str := ["_law_script", "_law_house_here", "_law_others", "_law_one", "_law_other", "_law_hook", "_law_worth", "_law_sound", "_law_part_here", "_law_name"]
theorem sc_law : FnScope N_law ["_law_script"] (defScope s_law) := ⟨rfl, rfl, rfl, by decide +kernel, rfl, by decide +kernel, by decide +kernel⟩
theorem ok_law {C : Addr} (T : Tb K mg C) {f : Addr} {fd : FuncData} (F : FnP K "law" s_law f fd) : FnOk P w K mg base CX0 11 f fd ["_law_script"] (spD K 1 m_law) := by
  obtain ⟨f_Host_broken, fd_Host_broken, F_Host_broken, M_Host_broken⟩ := T.d_Host_broken
  have G_Host_broken := ok_Host_broken (P := P) (w := w) (base := base) T F_Host_broken
  have B_Host_broken : Binds K fd_Host_broken ["self"] [] := F_Host_broken.bindsN fun _ _ _ _ _ _ us hl => match us, hl with | [_], _ => rfl
  obtain ⟨f__law_house, fd__law_house, F__law_house, g__law_house⟩ := T.d__law_house
  have G__law_house := ok__law_house (P := P) (w := w) (base := base) T F__law_house
  have B__law_house : Binds K fd__law_house ["_law_number"] [] := F__law_house.bindsN fun _ _ _ _ _ _ us hl => match us, hl with | [_], _ => rfl
  obtain ⟨f__law_filled, fd__law_filled, F__law_filled, g__law_filled⟩ := T.d__law_filled
  have G__law_filled := ok__law_filled (P := P) (w := w) (base := base) T F__law_filled
  have B__law_filled : Binds K fd__law_filled ["_law_house_here", "_law_others", "_law_number"] [] := F__law_filled.bindsN fun _ _ _ _ _ _ us hl => match us, hl with | [_, _, _], _ => rfl
  obtain ⟨f_Host_live, fd_Host_live, F_Host_live, M_Host_live⟩ := T.d_Host_live
  have G_Host_live := ok_Host_live (P := P) (w := w) (base := base) T F_Host_live
  have B_Host_live : Binds K fd_Host_live ["self"] [] := F_Host_live.bindsN fun _ _ _ _ _ _ us hl => match us, hl with | [_], _ => rfl
  obtain ⟨f_Host_mend, fd_Host_mend, F_Host_mend, M_Host_mend⟩ := T.d_Host_mend
  have G_Host_mend := ok_Host_mend (P := P) (w := w) (base := base) T F_Host_mend
  have B_Host_mend : Binds K fd_Host_mend ["self", "name"] [] := F_Host_mend.bindsN fun _ _ _ _ _ _ us hl => match us, hl with | [_, _], _ => rfl
  obtain ⟨f__law_mixed, fd__law_mixed, F__law_mixed, g__law_mixed⟩ := T.d__law_mixed
  have G__law_mixed := ok__law_mixed (P := P) (w := w) (base := base) T F__law_mixed
  have B__law_mixed : Binds K fd__law_mixed ["_law_script", "_law_k"] [] := F__law_mixed.bindsN fun _ _ _ _ _ _ us hl => match us, hl with | [_, _], _ => rfl
  obtain ⟨f_Host_house, fd_Host_house, F_Host_house, M_Host_house⟩ := T.d_Host_house
  have G_Host_house := ok_Host_house (P := P) (w := w) (base := base) T F_Host_house
  have B_Host_house : Binds K fd_Host_house ["self"] [] := F_Host_house.bindsN fun _ _ _ _ _ _ us hl => match us, hl with | [_], _ => rfl
  obtain ⟨f_Host_pull, fd_Host_pull, F_Host_pull, M_Host_pull⟩ := T.d_Host_pull
  have G_Host_pull := ok_Host_pull (P := P) (w := w) (base := base) T F_Host_pull
  have B_Host_pull : Binds K fd_Host_pull ["self", "hook", "worth"] [] := F_Host_pull.bindsN fun _ _ _ _ _ _ us hl => match us, hl with | [_, _, _], _ => rfl
  obtain ⟨f_Host_out, fd_Host_out, F_Host_out, M_Host_out⟩ := T.d_Host_out
  have G_Host_out := ok_Host_out (P := P) (w := w) (base := base) T F_Host_out
  have B_Host_out : Binds K fd_Host_out ["self", "name"] [] := F_Host_out.bindsN fun _ _ _ _ _ _ us hl => match us, hl with | [_, _], _ => rfl
  obtain ⟨f_Host_put, fd_Host_put, F_Host_put, M_Host_put⟩ := T.d_Host_put
  have G_Host_put := ok_Host_put (P := P) (w := w) (base := base) T F_Host_put
  have B_Host_put : Binds K fd_Host_put ["self", "part"] [] := F_Host_put.bindsN fun _ _ _ _ _ _ us hl => match us, hl with | [_, _], _ => rfl
  obtain ⟨f_order, fd_order, F_order, g_order⟩ := T.d_order
  have G_order := ok_order (P := P) (w := w) (base := base) T F_order
  have B_order : Binds K fd_order ["house"] [] := F_order.bindsN fun _ _ _ _ _ _ us hl => match us, hl with | [_], _ => rfl
  obtain ⟨f__law_now, fd__law_now, F__law_now, g__law_now⟩ := T.d__law_now
  have G__law_now := ok__law_now (P := P) (w := w) (base := base) T F__law_now
  have B__law_now : Binds K fd__law_now ["_law_host"] [] := F__law_now.bindsN fun _ _ _ _ _ _ us hl => match us, hl with | [_], _ => rfl
  refine fn_dm (N := N_law) (k := 10) g_law rfl rfl F sc_law fun cdv A outer s H E hr => ?_
  exact (ss_cons (s_set sc_law.nd (i := 1) rfl (.inl rfl) (e_call G__law_house (hr.mono (by decide)) rfl g__law_house F__law_house.kp B__law_house (a_cons (e_call G__law_mixed (hr.mono (by decide)) rfl g__law_mixed F__law_mixed.kp B__law_mixed (a_cons (e_var (pv 0)) (a_cons e_int a_nil))) a_nil)))
    (ss_cons (s_set sc_law.nd (i := 2) rfl (.inl rfl) (e_call G__law_house (hr.mono (by decide)) rfl g__law_house F__law_house.kp B__law_house (a_cons (e_call G__law_mixed (hr.mono (by decide)) rfl g__law_mixed F__law_mixed.kp B__law_mixed (a_cons (e_var (pv 0)) (a_cons e_int a_nil))) a_nil)))
    (ss_cons (s_obj sc_law.nd (i := 3) rfl (.inr rfl) (o_call G__law_filled hr rfl g__law_filled F__law_filled.kp B__law_filled (a_cons (e_var (pv 1)) (a_cons (e_tup a_nil) (a_cons (e_call G__law_mixed (hr.mono (by decide)) rfl g__law_mixed F__law_mixed.kp B__law_mixed (a_cons (e_var (pv 0)) (a_cons e_int a_nil))) a_nil)))))
    (ss_cons (s_obj sc_law.nd (i := 4) rfl (.inl rfl) (o_call G__law_filled hr rfl g__law_filled F__law_filled.kp B__law_filled (a_cons (e_var (pv 1)) (a_cons (e_var (pv 2)) (a_cons (e_call G__law_mixed (hr.mono (by decide)) rfl g__law_mixed F__law_mixed.kp B__law_mixed (a_cons (e_var (pv 0)) (a_cons e_int a_nil))) a_nil)))))
    (ss_cons (s_if (PW.pt (t_or (t_cmp (o_ne hr.units) (w_of (e_hp T.h M_Host_house G_Host_house (hr.mono (by decide)) B_Host_house (pv 3))) (w_of (e_var (pv 1)))) (t_or (t_cmp (o_ne hr.units) (w_of (e_hp T.h M_Host_house G_Host_house (hr.mono (by decide)) B_Host_house (pv 4))) (w_of (e_var (pv 1)))) (t_or (t_cmp (o_ne hr.units) (w_of (e_hp T.h M_Host_live G_Host_live (hr.mono (by decide)) B_Host_live (pv 3))) (w_of (e_call G_order (hr.mono (by decide)) rfl g_order F_order.kp B_order (a_cons (e_var (pv 1)) a_nil)))) (t_or1 (t_cmp (o_ne hr.units) (w_of (e_hp T.h M_Host_live G_Host_live (hr.mono (by decide)) B_Host_live (pv 4))) (w_of (e_call G_order (hr.mono (by decide)) rfl g_order F_order.kp B_order (a_cons (e_var (pv 1)) a_nil))))))))) (ss_one (s_ret e_bool)) ss_nil)
    (ss_cons (s_set sc_law.nd (i := 5) rfl (.inl rfl) (e_ix hr.units (w_of (e_tup (a_cons e_str (a_cons e_str a_nil)))) (w_of (e_op o_mod (w_of (e_call G__law_mixed (hr.mono (by decide)) rfl g__law_mixed F__law_mixed.kp B__law_mixed (a_cons (e_var (pv 0)) (a_cons e_int a_nil)))) (w_of e_int)))))
    (ss_cons (s_set sc_law.nd (i := 6) rfl (.inl rfl) (e_op o_mod (w_of (e_call G__law_mixed (hr.mono (by decide)) rfl g__law_mixed F__law_mixed.kp B__law_mixed (a_cons (e_var (pv 0)) (a_cons e_int a_nil)))) (w_of e_int)))
    (ss_cons (s_ifM (PW.pt (mt_or (mt_cmp (o_ne hr.units) (m_h T.h M_Host_pull G_Host_pull hr B_Host_pull (pv 3) (a_cons (e_var (pv 5)) (a_cons (e_var (pv 6)) a_nil))) (m_h T.h M_Host_pull G_Host_pull hr B_Host_pull (pv 4) (a_cons (e_var (pv 5)) (a_cons (e_var (pv 6)) a_nil)))) (mt_or1 (mt_of (t_cmp (o_ne hr.units) (w_of (e_hp T.h M_Host_broken G_Host_broken (hr.mono (by decide)) B_Host_broken (pv 3))) (w_of (e_hp T.h M_Host_broken G_Host_broken (hr.mono (by decide)) B_Host_broken (pv 4)))))))) (ss_one (s_ret e_bool)) ss_nil)
    (ss_cons (s_set sc_law.nd (i := 7) rfl (.inl rfl) (e_t1 c_tuple rfl T.b_tuple boot_tuple (w_ofF (f_lc (own := [("_law_part_here", 8)]) rfl sc_law.nd (ih_of (i_seq (e_var (pv 1)))) (blkOk_by (N := N_law) (sc := defScope s_law) (by decide +kernel)) (fun _ _ _ _ _ => (g_name (pg_name (i := 8) sc_law.nd rfl (by first | exact .inl rfl | exact .inr rfl)))) (fun _ _ _ _ _ => (ts_one (t_cmp (o_notIn hr.units) (w_of (e_ix hr.units (w_of (e_var (pv 8))) (w_of e_int))) (w_of (e_hp T.h M_Host_broken G_Host_broken (hr.mono (by decide)) B_Host_broken (pv 3)))))) (fun _ _ _ _ _ => (e_var (pv 8)))))))
    (ss_cons (s_if (PW.pt (t_or (t_cmp (o_ne hr.units) (w_of (e_hp T.h M_Host_live G_Host_live (hr.mono (by decide)) B_Host_live (pv 3))) (w_of (e_call G_order (hr.mono (by decide)) rfl g_order F_order.kp B_order (a_cons (e_var (pv 7)) a_nil)))) (t_or (t_cmp (o_ne hr.units) (w_of (e_hb G__law_now (hr.mono (by decide)) rfl g__law_now F__law_now.kp B__law_now (pv 3) a_nil)) (w_ofF (f_b1 (c_sorted rfl hr.units) rfl T.b_sorted boot_sorted (w_of (e_hp T.h M_Host_live G_Host_live (hr.mono (by decide)) B_Host_live (pv 3)))))) (t_or1 (t_cmp (o_ne hr.units) (w_of (e_hb G__law_now (hr.mono (by decide)) rfl g__law_now F__law_now.kp B__law_now (pv 4) a_nil)) (w_ofF (f_b1 (c_sorted rfl hr.units) rfl T.b_sorted boot_sorted (w_of (e_hp T.h M_Host_live G_Host_live (hr.mono (by decide)) B_Host_live (pv 4)))))))))) (ss_one (s_ret e_bool)) ss_nil)
    (ss_cons (s_ifM (PW.pt (mt_or (mt_cmp (o_ne hr.units) (m_h T.h M_Host_pull G_Host_pull hr B_Host_pull (pv 3) (a_cons (e_var (pv 5)) (a_cons (e_var (pv 6)) a_nil))) (m_h T.h M_Host_pull G_Host_pull hr B_Host_pull (pv 4) (a_cons (e_var (pv 5)) (a_cons (e_var (pv 6)) a_nil)))) (mt_or1 (mt_of (t_cmp (o_ne hr.units) (w_of (e_hp T.h M_Host_live G_Host_live (hr.mono (by decide)) B_Host_live (pv 3))) (w_of (e_hp T.h M_Host_live G_Host_live (hr.mono (by decide)) B_Host_live (pv 4)))))))) (ss_one (s_ret e_bool)) ss_nil)
    (ss_cons (s_for (vs := [8]) PassesOwn.never rfl (i_seq (e_var (pv 1))) (g_name (pg_name (i := 8) sc_law.nd rfl (by first | exact .inl rfl | exact .inr rfl))) (ss_one (s_if (t_cmp (o_notIn hr.units) (w_of (e_ix hr.units (w_of (e_var (pv 8))) (w_of e_int))) (w_of (e_hp T.h M_Host_broken G_Host_broken (hr.mono (by decide)) B_Host_broken (pv 3)))) (ss_cons (s_exprM (m_h T.h M_Host_out G_Host_out (hr.mono (by decide)) B_Host_out (pv 3) (a_cons (e_ix hr.units (w_of (e_var (pv 8))) (w_of e_int)) a_nil)))
    (ss_one (s_exprM (m_h T.h M_Host_put G_Host_put (hr.mono (by decide)) B_Host_put (pv 3) (a_cons (e_var (pv 8)) a_nil))))) ss_nil)))
    (ss_cons (s_if (t_cmp (o_ne hr.units) (w_of (e_hp T.h M_Host_live G_Host_live (hr.mono (by decide)) B_Host_live (pv 3))) (w_of (e_call G_order (hr.mono (by decide)) rfl g_order F_order.kp B_order (a_cons (e_var (pv 7)) a_nil)))) (ss_one (s_ret e_bool)) ss_nil)
    (ss_cons (s_for (vs := [9]) PassesOwn.never rfl (i_seq (e_hp T.h M_Host_broken G_Host_broken (hr.mono (by decide)) B_Host_broken (pv 3))) (g_name (pg_name (i := 9) sc_law.nd rfl (by first | exact .inl rfl | exact .inr rfl))) (ss_one (s_exprM (m_h T.h M_Host_mend G_Host_mend (hr.mono (by decide)) B_Host_mend (pv 3) (a_cons (e_var (pv 9)) a_nil)))))
    (ss_one (s_retM (m_and (m_of (e_cmp (o_eq hr.units) (w_of (e_hp T.h M_Host_broken G_Host_broken (hr.mono (by decide)) B_Host_broken (pv 3))) (w_of (e_tup a_nil)))) (m_and (m_of (e_cmp (o_eq hr.units) (w_of (e_hp T.h M_Host_live G_Host_live (hr.mono (by decide)) B_Host_live (pv 3))) (w_of (e_call G_order (hr.mono (by decide)) rfl g_order F_order.kp B_order (a_cons (e_var (pv 1)) a_nil))))) (m_one (m_cmp (o_eq hr.units) (m_h T.h M_Host_pull G_Host_pull hr B_Host_pull (pv 3) (a_cons (e_var (pv 5)) (a_cons (e_var (pv 6)) a_nil))) (m_h T.h M_Host_pull G_Host_pull hr B_Host_pull (pv 4) (a_cons (e_var (pv 5)) (a_cons (e_var (pv 6)) a_nil)))))))))))))))))))))))
end
end PD.W

/-! PARTHOST, THE PLAIN PART 1: houses as plain Lean, their data, what the operations answer at them. -/
namespace PD
open PySem PySem.Spec PyProof.Rows L2

structure Want where
  face : Str
  lo : Int
  hi : Int
  must : Bool
deriving DecidableEq
structure Deed where
  word : Str
  arg : Option Int
deriving DecidableEq
structure Hook where
  hook : Str
  rank : Int
  deed : Deed
deriving DecidableEq
structure Part where
  name : Str
  make : Int
  faces : List (Str × Int)
  wants : List Want
  hooks : List Hook
deriving DecidableEq
abbrev House := List Part

def eF (f : Str × Int) : D := .tuple [.str f.1, .int f.2]
def eW (w : Want) : D := .tuple [.str w.face, .int w.lo, .int w.hi, .bool w.must]
def eDd (d : Deed) : D := .tuple (.str d.word :: (match d.arg with | none => [] | some n => [.int n]))
def eK (k : Hook) : D := .tuple [.str k.hook, .int k.rank, eDd k.deed]
def eP (p : Part) : D := .tuple [.str p.name, .int p.make, .tuple (p.faces.map eF), .tuple (p.wants.map eW), .tuple (p.hooks.map eK)]
def eH (h : House) : D := .tuple (h.map eP)
def eS (x : Str) : D := .str x
def eO : Option Str → D
  | none => .none
  | some x => .str x

/-! ### alike, plain, depth -/
theorem eqvAll_map {α : Type} [DecidableEq α] (e : α → D) (h : ∀ a b, PyData.eqv (e a) (e b) = decide (a = b)) : ∀ xs ys : List α, PyData.eqvAll (xs.map e) (ys.map e) = decide (xs = ys)
  | [], [] => rfl
  | [], _ :: _ => by simp [PyData.eqvAll]
  | _ :: _, [] => by simp [PyData.eqvAll]
  | x :: xs, y :: ys => by
    rw [List.map_cons, List.map_cons, PyData.eqvAll, h, eqvAll_map e h xs ys]
    by_cases e1 : x = y <;> by_cases e2 : xs = ys <;> simp [e1, e2]
theorem eqv_tup {α : Type} [DecidableEq α] (e : α → D) (h : ∀ a b, PyData.eqv (e a) (e b) = decide (a = b)) (xs ys : List α) : PyData.eqv (.tuple (xs.map e)) (.tuple (ys.map e)) = decide (xs = ys) := by
  rw [PyData.eqv]; exact eqvAll_map e h xs ys
theorem eqv_lst {α : Type} [DecidableEq α] (e : α → D) (h : ∀ a b, PyData.eqv (e a) (e b) = decide (a = b)) (xs ys : List α) : PyData.eqv (.list (xs.map e)) (.list (ys.map e)) = decide (xs = ys) := by
  rw [PyData.eqv]; exact eqvAll_map e h xs ys
theorem beq_dec {α : Type} [BEq α] [LawfulBEq α] [DecidableEq α] (a b : α) : (a == b) = decide (a = b) := by
  by_cases h : a = b
  · subst h; simp
  · rw [decide_eq_false h]; exact beq_eq_false_iff_ne.mpr h
theorem eqv_int (a b : Int) : PyData.eqv (.int a) (.int b) = decide (a = b) := by rw [PyData.eqv]; exact beq_dec a b
theorem eqv_bool (a b : Bool) : PyData.eqv (.bool a) (.bool b) = decide (a = b) := by rw [PyData.eqv]; exact beq_dec a b
theorem eqv_str (a b : Str) : PyData.eqv (.str a) (.str b) = decide (a = b) := by
  rw [PyData.eqv]
  by_cases h : a = b
  · subst h; simp
  · rw [decide_eq_false h]; exact beq_eq_false_iff_ne.mpr h
theorem eqv_eS (a b : Str) : PyData.eqv (eS a) (eS b) = decide (a = b) := eqv_str a b
theorem eqv_eO (a b : Option Str) : PyData.eqv (eO a) (eO b) = decide (a = b) := by
  cases a <;> cases b <;> simp [eO, PyData.eqv, eqv_str]
theorem eqv_eF (a b : Str × Int) : PyData.eqv (eF a) (eF b) = decide (a = b) := by
  obtain ⟨a1, a2⟩ := a
  obtain ⟨b1, b2⟩ := b
  simp only [eF, PyData.eqv, PyData.eqvAll, eqv_str, eqv_int, Bool.and_true]
  by_cases h1 : a1 = b1 <;> by_cases h2 : a2 = b2 <;> simp [h1, h2]
theorem eqv_eW (a b : Want) : PyData.eqv (eW a) (eW b) = decide (a = b) := by
  obtain ⟨a1, a2, a3, a4⟩ := a
  obtain ⟨b1, b2, b3, b4⟩ := b
  simp only [eW, PyData.eqv, PyData.eqvAll, eqv_str, eqv_int, eqv_bool, Bool.and_true, Want.mk.injEq]
  by_cases h1 : a1 = b1 <;> by_cases h2 : a2 = b2 <;> by_cases h3 : a3 = b3 <;> by_cases h4 : a4 = b4 <;> simp [h1, h2, h3, h4]
theorem eqv_eDd (a b : Deed) : PyData.eqv (eDd a) (eDd b) = decide (a = b) := by
  obtain ⟨a1, a2⟩ := a
  obtain ⟨b1, b2⟩ := b
  cases a2 <;> cases b2 <;> simp only [eDd, PyData.eqv, PyData.eqvAll, eqv_str, eqv_int, Bool.and_true, Deed.mk.injEq] <;> by_cases h1 : a1 = b1 <;> simp [h1, beq_dec]
theorem eqv_eK (a b : Hook) : PyData.eqv (eK a) (eK b) = decide (a = b) := by
  obtain ⟨a1, a2, a3⟩ := a
  obtain ⟨b1, b2, b3⟩ := b
  simp only [eK, PyData.eqv, PyData.eqvAll, eqv_str, eqv_int, eqv_eDd, Bool.and_true, Hook.mk.injEq]
  by_cases h1 : a1 = b1 <;> by_cases h2 : a2 = b2 <;> by_cases h3 : a3 = b3 <;> simp [h1, h2, h3]
theorem eqv_eP (a b : Part) : PyData.eqv (eP a) (eP b) = decide (a = b) := by
  obtain ⟨a1, a2, a3, a4, a5⟩ := a
  obtain ⟨b1, b2, b3, b4, b5⟩ := b
  simp only [eP, PyData.eqv, PyData.eqvAll, eqv_str, eqv_int, eqvAll_map _ eqv_eF, eqvAll_map _ eqv_eW, eqvAll_map _ eqv_eK, Bool.and_true, Part.mk.injEq]
  by_cases h1 : a1 = b1 <;> by_cases h2 : a2 = b2 <;> by_cases h3 : a3 = b3 <;> by_cases h4 : a4 = b4 <;> by_cases h5 : a5 = b5 <;> simp [h1, h2, h3, h4, h5]
theorem eqv_eH (a b : House) : PyData.eqv (eH a) (eH b) = decide (a = b) := eqv_tup eP eqv_eP a b

theorem plainAll_map {α : Type} (e : α → D) (h : ∀ a, (e a).plain = true) : ∀ xs : List α, PyData.plainAll (xs.map e) = true
  | [] => rfl
  | x :: xs => by rw [List.map_cons, PyData.plainAll, h, plainAll_map e h xs]; rfl
theorem plain_tup {α : Type} (e : α → D) (h : ∀ a, (e a).plain = true) (xs : List α) : (PyData.tuple (xs.map e)).plain = true := by rw [PyData.plain]; exact plainAll_map e h xs
theorem plain_lst {α : Type} (e : α → D) (h : ∀ a, (e a).plain = true) (xs : List α) : (PyData.list (xs.map e)).plain = true := by rw [PyData.plain]; exact plainAll_map e h xs
theorem depthAll_map {α : Type} (e : α → D) (n : Nat) (h : ∀ a, (e a).depth ≤ n) : ∀ xs : List α, PyData.depthAll (xs.map e) ≤ n
  | [] => Nat.zero_le _
  | x :: xs => by rw [List.map_cons, PyData.depthAll]; exact Nat.max_le.mpr ⟨h x, depthAll_map e n h xs⟩
theorem depth_tup {α : Type} (e : α → D) (n : Nat) (h : ∀ a, (e a).depth ≤ n) (xs : List α) : (PyData.tuple (xs.map e)).depth ≤ n + 1 := by
  rw [PyData.depth]; exact Nat.succ_le_succ (depthAll_map e n h xs)
theorem depth_lst {α : Type} (e : α → D) (n : Nat) (h : ∀ a, (e a).depth ≤ n) (xs : List α) : (PyData.list (xs.map e)).depth ≤ n + 1 := by
  rw [PyData.depth]; exact Nat.succ_le_succ (depthAll_map e n h xs)
theorem plain_eS (x : Str) : (eS x).plain = true := rfl
theorem depth_eS (x : Str) : (eS x).depth ≤ 0 := by simp [eS, PyData.depth]
theorem plain_eO (x : Option Str) : (eO x).plain = true := by cases x <;> rfl
theorem depth_eO (x : Option Str) : (eO x).depth ≤ 0 := by cases x <;> simp [eO, PyData.depth]
theorem plain_eF (x : Str × Int) : (eF x).plain = true := rfl
theorem depth_eF (x : Str × Int) : (eF x).depth ≤ 1 := by simp [eF, PyData.depth, PyData.depthAll]
theorem plain_eW (x : Want) : (eW x).plain = true := rfl
theorem depth_eW (x : Want) : (eW x).depth ≤ 1 := by simp [eW, PyData.depth, PyData.depthAll]
theorem plain_eDd (x : Deed) : (eDd x).plain = true := by obtain ⟨a, b⟩ := x; cases b <;> rfl
theorem depth_eDd (x : Deed) : (eDd x).depth ≤ 1 := by obtain ⟨a, b⟩ := x; cases b <;> simp [eDd, PyData.depth, PyData.depthAll]
theorem plain_eK (x : Hook) : (eK x).plain = true := by simp [eK, PyData.plain, PyData.plainAll, plain_eDd]
theorem depth_eK (x : Hook) : (eK x).depth ≤ 2 := by
  have := depth_eDd x.deed
  simp [eK, PyData.depth, PyData.depthAll]; omega
theorem plain_eP (x : Part) : (eP x).plain = true := by
  simp [eP, PyData.plain, PyData.plainAll, plainAll_map _ plain_eF, plainAll_map _ plain_eW, plainAll_map _ plain_eK]
theorem depth_eP (x : Part) : (eP x).depth ≤ 4 := by
  have h1 := depth_tup eF 1 depth_eF x.faces
  have h2 := depth_tup eW 1 depth_eW x.wants
  have h3 := depth_tup eK 2 depth_eK x.hooks
  simp only [eP, PyData.depth, PyData.depthAll] at *
  omega
/-- comparable data -/
theorem roomD_of {d e : D} (h1 : d.plain = true) (h2 : e.plain = true) (h3 : d.depth ≤ 60) : roomD d e = true := by
  unfold roomD
  rw [h1, h2, decide_eq_true (by omega)]; rfl
theorem eqD_of {d e : D} {b : Bool} (h1 : d.plain = true) (h2 : e.plain = true) (h3 : d.depth ≤ 60) (h : PyData.eqv d e = b) : eqD d e = some (.bool b) := by
  unfold eqD; rw [if_pos (roomD_of h1 h2 h3), h]
theorem neD_of {d e : D} {b : Bool} (h1 : d.plain = true) (h2 : e.plain = true) (h3 : d.depth ≤ 60) (h : PyData.eqv d e = b) : neD d e = some (.bool (!b)) := by
  unfold neD; rw [if_pos (roomD_of h1 h2 h3), h]
theorem eqD_int (a b : Int) : eqD (.int a) (.int b) = some (.bool (decide (a = b))) := eqD_of rfl rfl (by simp [PyData.depth]) (eqv_int a b)
theorem neD_int (a b : Int) : neD (.int a) (.int b) = some (.bool (!decide (a = b))) := neD_of rfl rfl (by simp [PyData.depth]) (eqv_int a b)
theorem eqD_str (a b : Str) : eqD (.str a) (.str b) = some (.bool (decide (a = b))) := eqD_of rfl rfl (by simp [PyData.depth]) (eqv_str a b)
theorem neD_str (a b : Str) : neD (.str a) (.str b) = some (.bool (!decide (a = b))) := neD_of rfl rfl (by simp [PyData.depth]) (eqv_str a b)
theorem ltRoom_int (a b : Int) : ltRoom (.int a) (.int b) = true := by simp [ltRoom, PySem.W.alike, PyData.plain, PyData.depth]
theorem dataLt_int (a b : Int) : PySem.W.dataLt (.int a) (.int b) = decide (a < b) := by
  simp [PySem.W.dataLt, PySem.W.keyToks, PyProof.Rows.lexLt, PyProof.Rows.itemLt]
theorem ltD_int (a b : Int) : ltD (.int a) (.int b) = some (.bool (decide (a < b))) := by unfold ltD; rw [if_pos (ltRoom_int a b), dataLt_int]
theorem gtD_int (a b : Int) : gtD (.int a) (.int b) = some (.bool (decide (b < a))) := by unfold gtD; rw [if_pos (ltRoom_int a b), dataLt_int]
theorem leD_int (a b : Int) : leD (.int a) (.int b) = some (.bool (decide (a ≤ b))) := by
  unfold leD; rw [if_pos (ltRoom_int a b), dataLt_int]
  by_cases h : a ≤ b
  · rw [decide_eq_true h, decide_eq_false (by omega)]; rfl
  · rw [decide_eq_false h, decide_eq_true (by omega)]; rfl
theorem geD_int (a b : Int) : geD (.int a) (.int b) = some (.bool (decide (b ≤ a))) := by
  unfold geD; rw [if_pos (ltRoom_int a b), dataLt_int]
  by_cases h : b ≤ a
  · rw [decide_eq_true h, decide_eq_false (by omega)]; rfl
  · rw [decide_eq_false h, decide_eq_true (by omega)]; rfl
theorem any_map_eqv {α : Type} [DecidableEq α] (e : α → D) (h : ∀ a b, PyData.eqv (e a) (e b) = decide (a = b)) (xs : List α) (a : α) : ((xs.map e).any fun y => PyData.eqv y (e a)) = decide (a ∈ xs) := by
  rw [List.any_map]
  have : ((fun y => PyData.eqv y (e a)) ∘ e) = fun b => decide (b = a) := funext fun b => h b a
  rw [this]
  by_cases hm : a ∈ xs
  · rw [decide_eq_true hm]; exact List.any_eq_true.mpr ⟨a, hm, by simp⟩
  · rw [decide_eq_false hm]
    refine List.any_eq_false.mpr fun b hb => ?_
    simp only [decide_eq_true_eq]
    exact fun e => hm (e ▸ hb)
theorem inB_lst {α : Type} [DecidableEq α] (e : α → D) (h : ∀ a b, PyData.eqv (e a) (e b) = decide (a = b)) (hp : ∀ a, (e a).plain = true) (hd : ∀ a, (e a).depth ≤ 60) (xs : List α) (a : α) : inB (e a) (.list (xs.map e)) = some (decide (a ∈ xs)) := by
  show (if (e a).plain && PyData.plainAll (xs.map e) && decide ((e a).depth ≤ 60) then some ((xs.map e).any fun y => PyData.eqv y (e a)) else none) = _
  rw [hp, plainAll_map e hp, decide_eq_true (hd a), any_map_eqv e h]
  rfl
theorem inB_tup {α : Type} [DecidableEq α] (e : α → D) (h : ∀ a b, PyData.eqv (e a) (e b) = decide (a = b)) (hp : ∀ a, (e a).plain = true) (hd : ∀ a, (e a).depth ≤ 60) (xs : List α) (a : α) : inB (e a) (.tuple (xs.map e)) = some (decide (a ∈ xs)) := by
  show (if (e a).plain && PyData.plainAll (xs.map e) && decide ((e a).depth ≤ 60) then some ((xs.map e).any fun y => PyData.eqv y (e a)) else none) = _
  rw [hp, plainAll_map e hp, decide_eq_true (hd a), any_map_eqv e h]
  rfl
theorem inD_lst {α : Type} [DecidableEq α] (e : α → D) (h : ∀ a b, PyData.eqv (e a) (e b) = decide (a = b)) (hp : ∀ a, (e a).plain = true) (hd : ∀ a, (e a).depth ≤ 60) (xs : List α) (a : α) : inD (e a) (.list (xs.map e)) = some (.bool (decide (a ∈ xs))) := by
  unfold inD; rw [inB_lst e h hp hd]; rfl
theorem notInD_lst {α : Type} [DecidableEq α] (e : α → D) (h : ∀ a b, PyData.eqv (e a) (e b) = decide (a = b)) (hp : ∀ a, (e a).plain = true) (hd : ∀ a, (e a).depth ≤ 60) (xs : List α) (a : α) : notInD (e a) (.list (xs.map e)) = some (.bool (!decide (a ∈ xs))) := by
  unfold notInD; rw [inB_lst e h hp hd]; rfl
theorem inD_tup {α : Type} [DecidableEq α] (e : α → D) (h : ∀ a b, PyData.eqv (e a) (e b) = decide (a = b)) (hp : ∀ a, (e a).plain = true) (hd : ∀ a, (e a).depth ≤ 60) (xs : List α) (a : α) : inD (e a) (.tuple (xs.map e)) = some (.bool (decide (a ∈ xs))) := by
  unfold inD; rw [inB_tup e h hp hd]; rfl
theorem notInD_tup {α : Type} [DecidableEq α] (e : α → D) (h : ∀ a b, PyData.eqv (e a) (e b) = decide (a = b)) (hp : ∀ a, (e a).plain = true) (hd : ∀ a, (e a).depth ≤ 60) (xs : List α) (a : α) : notInD (e a) (.tuple (xs.map e)) = some (.bool (!decide (a ∈ xs))) := by
  unfold notInD; rw [inB_tup e h hp hd]; rfl

/-! ### the operations at what they take -/
theorem lenD_l (xs : List D) : lenD (.list xs) = some (.int xs.length) := rfl
theorem lenD_t (xs : List D) : lenD (.tuple xs) = some (.int xs.length) := rfl
theorem lenD_s (x : Str) : lenD (.str x) = some (.int x.length) := rfl
theorem lstD_l (xs : List D) : lstD' (.list xs) = some (.list xs) := rfl
theorem lstD_t (xs : List D) : lstD' (.tuple xs) = some (.list xs) := rfl
theorem tupD_l (xs : List D) : tupD (.list xs) = some (.tuple xs) := rfl
theorem tupD_t (xs : List D) : tupD (.tuple xs) = some (.tuple xs) := rfl
theorem itemsD_l (xs : List D) : itemsD (.list xs) = some xs := rfl
theorem itemsD_t (xs : List D) : itemsD (.tuple xs) = some xs := rfl
theorem seqD_l (xs : List D) : seqD (.list xs) = some xs := rfl
theorem seqD_t (xs : List D) : seqD (.tuple xs) = some xs := rfl
theorem addD_i (i j : Int) : addD (.int i) (.int j) = some (.int (i + j)) := rfl
theorem addD_s (x y : Str) : addD (.str x) (.str y) = if x.length + y.length ≤ sizeLine then some (.str (x ++ y)) else none := rfl
theorem addD_t (xs ys : List D) : addD (.tuple xs) (.tuple ys) = if xs.length + ys.length ≤ sizeLine then some (.tuple (xs ++ ys)) else none := rfl
theorem catD_l (xs ys : List D) : catD (.list xs) (.list ys) = if xs.length + ys.length ≤ sizeLine then some (.list (xs ++ ys)) else none := rfl
theorem subD_i (i j : Int) : subD (.int i) (.int j) = some (.int (i - j)) := rfl
theorem modD_i (i j : Int) : modD (.int i) (.int j) = if 0 < j then some (.int (i % j)) else none := rfl
theorem fdivD_i (i j : Int) : fdivD (.int i) (.int j) = if 0 < j ∧ j < 1073741824 then some (.int (i / j)) else none := rfl
theorem timesD_i (i j : Int) : timesD (.int i) (.int j) = if (-(2 ^ 64) < i ∧ i < 2 ^ 64) ∨ (-(2 ^ 64) < j ∧ j < 2 ^ 64) then some (.int (i * j)) else none := rfl
theorem timesD_t (xs : List D) (k : Int) : timesD (.tuple xs) (.int k) = if 0 ≤ k ∧ k ≤ 1000 ∧ xs.length ≤ 1000 ∧ 0 < xs.length then some (.tuple (List.replicate k.toNat xs).flatten) else none := rfl
theorem min2_i (i j : Int) : min2D (.int i) (.int j) = some (.int (if j < i then j else i)) := rfl
theorem max2_i (i j : Int) : max2D (.int i) (.int j) = some (.int (if j > i then j else i)) := rfl
theorem negD_i (i : Int) : negD (.int i) = some (.int (-i)) := rfl
theorem intD_i (i : Int) : intD (.int i) = some (.int i) := rfl
theorem intD_b (b : Bool) : intD (.bool b) = some (.int (if b then 1 else 0)) := rfl
theorem asB_b (b : Bool) : asB (.bool b) = some b := rfl
theorem isND_n (d : D) : isND d .none = some (.bool (isNone d)) := rfl
theorem notND_n (d : D) : notND d .none = some (.bool (!isNone d)) := rfl
theorem isNone_n : isNone .none = true := rfl
theorem isNone_s (x : Str) : isNone (.str x) = false := rfl
theorem isNone_i (x : Int) : isNone (.int x) = false := rfl
theorem isNone_b (x : Bool) : isNone (.bool x) = false := rfl
theorem isNone_l (xs : List D) : isNone (.list xs) = false := rfl
theorem isNone_t (xs : List D) : isNone (.tuple xs) = false := rfl
theorem isNone_p (p : Part) : isNone (eP p) = false := rfl
theorem isNone_o (x : Option Str) : isNone (eO x) = x.isNone := by cases x <;> rfl
theorem sTup_t (t : List D → Env → Option Env) (ds : List D) (env : Env) : sTup t (.tuple ds) env = t ds env := rfl

/-! ### places -/
theorem ixP0 (p : Part) : ixD (eP p) (.int 0) = some (.str p.name) := rfl
theorem ixP1 (p : Part) : ixD (eP p) (.int 1) = some (.int p.make) := rfl
theorem ixP2 (p : Part) : ixD (eP p) (.int 2) = some (.tuple (p.faces.map eF)) := rfl
theorem ixP3 (p : Part) : ixD (eP p) (.int 3) = some (.tuple (p.wants.map eW)) := rfl
theorem ixP4 (p : Part) : ixD (eP p) (.int 4) = some (.tuple (p.hooks.map eK)) := rfl
theorem itemsH (h : House) : itemsD (eH h) = some (h.map eP) := rfl
theorem lstH (h : House) : lstD' (eH h) = some (.list (h.map eP)) := rfl
theorem lenH (h : House) : lenD (eH h) = some (.int h.length) := by show some (PyData.int ((h.map eP).length)) = _; rw [List.length_map]
theorem ixW0 (w : Want) : ixD (eW w) (.int 0) = some (.str w.face) := rfl
theorem ixW1 (w : Want) : ixD (eW w) (.int 1) = some (.int w.lo) := rfl
theorem ixW2 (w : Want) : ixD (eW w) (.int 2) = some (.int w.hi) := rfl
theorem ixW3 (w : Want) : ixD (eW w) (.int 3) = some (.bool w.must) := rfl
theorem ixF0 (f : Str × Int) : ixD (eF f) (.int 0) = some (.str f.1) := rfl
theorem ixF1 (f : Str × Int) : ixD (eF f) (.int 1) = some (.int f.2) := rfl
theorem ixK0 (k : Hook) : ixD (eK k) (.int 0) = some (.str k.hook) := rfl
theorem ixK1 (k : Hook) : ixD (eK k) (.int 1) = some (.int k.rank) := rfl
theorem ixK2 (k : Hook) : ixD (eK k) (.int 2) = some (eDd k.deed) := rfl
theorem atI_cons0 {α : Type} (x : α) (xs : List α) : L2.atI (x :: xs) 0 = some x := by
  unfold L2.atI L2.ixN
  rw [if_pos (by omega), if_pos (by rw [List.length_cons]; omega)]; rfl
theorem ixT0 (x : D) (xs : List D) : ixD (.tuple (x :: xs)) (.int 0) = some x := atI_cons0 x xs
theorem ixL0 (x : D) (xs : List D) : ixD (.list (x :: xs)) (.int 0) = some x := atI_cons0 x xs
theorem ixT1 (x y : D) (xs : List D) : ixD (.tuple (x :: y :: xs)) (.int 1) = some y := by
  show L2.atI _ 1 = _
  unfold L2.atI L2.ixN
  rw [if_pos (by omega), if_pos (by simp only [List.length_cons]; omega)]; rfl
theorem ixT2 (x y z : D) (xs : List D) : ixD (.tuple (x :: y :: z :: xs)) (.int 2) = some z := by
  show L2.atI _ 2 = _
  unfold L2.atI L2.ixN
  rw [if_pos (by omega), if_pos (by simp only [List.length_cons]; omega)]; rfl
theorem ixT3 (x y z u : D) (xs : List D) : ixD (.tuple (x :: y :: z :: u :: xs)) (.int 3) = some u := by
  show L2.atI _ 3 = _
  unfold L2.atI L2.ixN
  rw [if_pos (by omega), if_pos (by simp only [List.length_cons]; omega)]; rfl

/-! ### walking through -/
/-- a comprehension, item by item -/
theorem compL_map {α : Type} (e : α → D) {t : D → Env → Option Env} {tt : Env → Option Bool} {te : Env → Option D} {env : Env} (p : α → Bool) (g : α → D) : ∀ (xs : List α),
    (∀ x ∈ xs, ∃ env1, t (e x) env = some env1 ∧ tt env1 = some (p x) ∧ (p x = true → te env1 = some (g x))) → compL t tt te env (xs.map e) = some ((xs.filter p).map g)
  | [], _ => rfl
  | x :: xs, h => by
    obtain ⟨env1, h1, h2, h3⟩ := h x List.mem_cons_self
    have ih := compL_map e p g xs fun y hy => h y (List.mem_cons_of_mem _ hy)
    show (t (e x) env).bind (fun env1 => (tt env1).bind fun b => if b = true then (te env1).bind fun y => (compL t tt te env (xs.map e)).bind fun r => some (y :: r) else compL t tt te env (xs.map e)) = _
    rw [h1, Option.bind_some, h2, Option.bind_some, ih]
    cases hp : p x with
    | true => rw [if_pos rfl, h3 hp, List.filter_cons, hp]; rfl
    | false => rw [if_neg Bool.false_ne_true, List.filter_cons, hp]; rfl
/-- a loop without a way out, by what it keeps -/
theorem loopS_fold {α S : Type} (e : α → D) {t : D → Env → Option Env} {g : Env → Option Res} (R : S → Env → Prop) (step : S → α → S) : ∀ (xs : List α),
    (∀ x ∈ xs, ∀ s env, R s env → ∃ env1 env2, t (e x) env = some env1 ∧ (g env1 = some (.next env2) ∨ g env1 = some (.cont env2)) ∧ R (step s x) env2) → ∀ s env, R s env → ∃ env', loopS t g (xs.map e) env = some (.next env') ∧ R (xs.foldl step s) env'
  | [], _, s, env, r => ⟨env, rfl, r⟩
  | x :: xs, h, s, env, r => by
    obtain ⟨env1, env2, h1, h2, h3⟩ := h x List.mem_cons_self s env r
    obtain ⟨env', h4, h5⟩ := loopS_fold e R step xs (fun y hy => h y (List.mem_cons_of_mem _ hy)) _ env2 h3
    refine ⟨env', ?_, h5⟩
    rw [List.map_cons, loopS, h1, Option.bind_some]
    rcases h2 with h2 | h2 <;> rw [h2] <;> exact h4
/-- .. that counts its turns -/
theorem loopS_foldN {α S : Type} (e : α → D) {t : D → Env → Option Env} {g : Env → Option Res} (R : Nat → S → Env → Prop) (step : S → α → S) : ∀ (xs : List α) (i : Nat),
    (∀ x ∈ xs, ∀ j s env, R j s env → j < i + xs.length → ∃ env1 env2, t (e x) env = some env1 ∧ (g env1 = some (.next env2) ∨ g env1 = some (.cont env2)) ∧ R (j + 1) (step s x) env2) → ∀ s env, R i s env → ∃ env', loopS t g (xs.map e) env = some (.next env') ∧ R (i + xs.length) (xs.foldl step s) env'
  | [], i, _, s, env, r => ⟨env, rfl, r⟩
  | x :: xs, i, h, s, env, r => by
    obtain ⟨env1, env2, h1, h2, h3⟩ := h x List.mem_cons_self i s env r (by rw [List.length_cons]; omega)
    obtain ⟨env', h4, h5⟩ := loopS_foldN e R step xs (i + 1) (fun y hy j s env r hj => h y (List.mem_cons_of_mem _ hy) j s env r (by rw [List.length_cons]; omega)) _ env2 h3
    refine ⟨env', ?_, by rw [List.length_cons, show i + (xs.length + 1) = i + 1 + xs.length by omega]; exact h5⟩
    rw [List.map_cons, loopS, h1, Option.bind_some]
    rcases h2 with h2 | h2 <;> rw [h2] <;> exact h4
theorem foldl_flat {α β : Type} (f : α → List β) : ∀ (xs : List α) (s : List β), xs.foldl (fun s x => s ++ f x) s = s ++ xs.flatMap f
  | [], s => by simp
  | x :: xs, s => by rw [List.foldl_cons, foldl_flat f xs, List.flatMap_cons, List.append_assoc]
/-! ### sorted -/
/-- sorted, as the data are -/
def sortT {α : Type} (e : α → D) (xs : List α) : List α := xs.mergeSort fun a b => !PySem.W.dataLt (e b) (e a)
def isAtom : D → Bool
  | .tuple _ => false
  | .none => false
  | _ => true
theorem sortL_map {α : Type} (e : α → D) (xs : List α) : sortL (xs.map e) = (sortT e xs).map e := by
  unfold sortL sortT
  rw [List.map_mergeSort (s := fun a b => !PySem.W.dataLt b a)]
  intro a _ b _
  rfl
theorem sortOk_map {α : Type} (e : α → D) (h1 : ∀ a b, PySem.W.alike (e a) (e b) = true) (h2 : ∀ a, (e a).plain = true) (h3 : ∀ a, (e a).depth ≤ 50) (h4 : (∀ a, ∃ x r, e a = .tuple (x :: r)) ∨ ∀ a, isAtom (e a) = true) (xs : List α) : sortOk (xs.map e) = true := by
  unfold sortOk
  simp only [Bool.and_eq_true, Bool.or_eq_true, List.all_eq_true, List.mem_map]
  refine ⟨⟨?_, ?_⟩, ?_⟩
  · rintro _ ⟨a, _, rfl⟩ _ ⟨b, _, rfl⟩; exact h1 a b
  · rintro _ ⟨a, _, rfl⟩; exact ⟨h2 a, decide_eq_true (h3 a)⟩
  · rcases h4 with h4 | h4
    · refine .inl ?_
      rintro _ ⟨a, _, rfl⟩
      obtain ⟨x, r, e1⟩ := h4 a
      rw [e1]
    · refine .inr ?_
      rintro _ ⟨a, _, rfl⟩
      have := h4 a
      cases q : e a <;> rw [q] at this <;> first | rfl | cases this
theorem sortD_lst {α : Type} (e : α → D) (h1 : ∀ a b, PySem.W.alike (e a) (e b) = true) (h2 : ∀ a, (e a).plain = true) (h3 : ∀ a, (e a).depth ≤ 50) (h4 : (∀ a, ∃ x r, e a = .tuple (x :: r)) ∨ ∀ a, isAtom (e a) = true) (xs : List α) : sortD (.list (xs.map e)) = some (.list ((sortT e xs).map e)) := by
  show (if sortOk (xs.map e) = true then some (PyData.list (sortL (xs.map e))) else none) = _
  rw [if_pos (sortOk_map e h1 h2 h3 h4 xs), sortL_map]
theorem sortD_tup {α : Type} (e : α → D) (h1 : ∀ a b, PySem.W.alike (e a) (e b) = true) (h2 : ∀ a, (e a).plain = true) (h3 : ∀ a, (e a).depth ≤ 50) (h4 : (∀ a, ∃ x r, e a = .tuple (x :: r)) ∨ ∀ a, isAtom (e a) = true) (xs : List α) : sortD (.tuple (xs.map e)) = some (.list ((sortT e xs).map e)) := by
  show (if sortOk (xs.map e) = true then some (PyData.list (sortL (xs.map e))) else none) = _
  rw [if_pos (sortOk_map e h1 h2 h3 h4 xs), sortL_map]
/-- pairs of names -/
def eSS (p : Str × Str) : D := .tuple [.str p.1, .str p.2]
theorem sortD_SS (xs : List (Str × Str)) : sortD (.list (xs.map eSS)) = some (.list ((sortT eSS xs).map eSS)) :=
  sortD_lst eSS (fun _ _ => rfl) (fun _ => rfl) (fun _ => by simp [eSS, PyData.depth, PyData.depthAll]) (.inl fun _ => ⟨_, _, rfl⟩) xs
theorem sortD_S (xs : List Str) : sortD (.list (xs.map eS)) = some (.list ((sortT eS xs).map eS)) :=
  sortD_lst eS (fun _ _ => rfl) (fun _ => rfl) (fun _ => by simp [eS, PyData.depth]) (.inr fun _ => rfl) xs
theorem sortD_Stup (xs : List Str) : sortD (.tuple (xs.map eS)) = some (.list ((sortT eS xs).map eS)) :=
  sortD_tup eS (fun _ _ => rfl) (fun _ => rfl) (fun _ => by simp [eS, PyData.depth]) (.inr fun _ => rfl) xs
theorem eqv_eSS (a b : Str × Str) : PyData.eqv (eSS a) (eSS b) = decide (a = b) := by
  obtain ⟨a1, a2⟩ := a
  obtain ⟨b1, b2⟩ := b
  simp only [eSS, PyData.eqv, PyData.eqvAll, eqv_str, Bool.and_true]
  by_cases h1 : a1 = b1 <;> by_cases h2 : a2 = b2 <;> simp [h1, h2]
theorem plain_eSS (x : Str × Str) : (eSS x).plain = true := rfl
theorem depth_eSS (x : Str × Str) : (eSS x).depth ≤ 1 := by simp [eSS, PyData.depth, PyData.depthAll]
theorem neD_O (a b : Option Str) : neD (eO a) (eO b) = some (.bool (!decide (a = b))) := neD_of (plain_eO a) (plain_eO b) (Nat.le_trans (depth_eO a) (by omega)) (eqv_eO a b)
theorem eqD_O (a b : Option Str) : eqD (eO a) (eO b) = some (.bool (decide (a = b))) := eqD_of (plain_eO a) (plain_eO b) (Nat.le_trans (depth_eO a) (by omega)) (eqv_eO a b)
theorem eqv_self {d : D} (h : d.plain = true) : PyData.eqv d d = true := SeqAt.eqv_refl_plain d h
theorem neD_self {d : D} (h : d.plain = true) (h2 : d.depth ≤ 60) : neD d d = some (.bool false) := neD_of h h h2 (eqv_self h)
theorem eqD_self {d : D} (h : d.plain = true) (h2 : d.depth ≤ 60) : eqD d d = some (.bool true) := eqD_of h h h2 (eqv_self h)
/-! ### step by step -/
theorem qSeq_next {g h : Env → Option Res} {env env' : Env} {r : Option Res} (e : g env = some (.next env')) (k : h env' = r) : qSeq g h env = r := by
  show (g env).bind _ = _
  rw [e]; exact k
theorem qSeq_ret {g h : Env → Option Res} {env : Env} {d : D} (e : g env = some (.ret d)) : qSeq g h env = some (.ret d) := by
  show (g env).bind _ = _
  rw [e]; rfl
theorem bodyD_ret {N : Nat} {g : Env → Option Res} {ds : List D} {d : D} (e : g (startE N ds) = some (.ret d)) : bodyD N g ds = some d := by
  unfold bodyD
  rw [e]; rfl
end PD

namespace PD
open PySem PySem.Spec PyProof.Rows L2
/-- the pairs of a list of (text, datum) -/
theorem pairsD_map {α : Type} (k : α → Str) (v : α → D) : ∀ xs : List α, pairsD (xs.map fun a => .tuple [.str (k a), v a]) = some (xs.map fun a => (.inr (k a), v a))
  | [] => rfl
  | x :: xs => by
    rw [List.map_cons, pairsD, pairsD_map k v xs]; rfl
theorem getKV_append (kvs more : List (D × D)) (key : Key) : getKV (kvs ++ more) key = (getKV kvs key).or (getKV more key) := by
  induction kvs with
  | nil => simp [getKV]
  | cons p kvs ih =>
    obtain ⟨k, d⟩ := p
    rw [List.cons_append, getKV, getKV]
    split
    · simp
    · exact ih
theorem getKV_rep (kvs : List (D × D)) (key key' : Key) (e : D) : getKV (repKV kvs key e) key' = if key = key' then (if (getKV kvs key).isSome = true then some e else none) else getKV kvs key' := by
  induction kvs with
  | nil => simp [repKV, getKV]
  | cons p kvs ih =>
    obtain ⟨k, d⟩ := p
    rw [repKV]
    by_cases h : toKey k = some key
    · rw [if_pos h, getKV]
      by_cases h2 : key = key'
      · subst h2; rw [if_pos h, if_pos rfl, getKV, if_pos h]; rfl
      · rw [if_neg (fun z => h2 (by rw [h] at z; exact Option.some.inj z)), if_neg h2, ih, if_neg h2, getKV, if_neg (fun z => h2 (by rw [h] at z; exact Option.some.inj z))]
    · rw [if_neg h, getKV]
      by_cases h3 : toKey k = some key'
      · rw [if_pos h3, if_neg (fun z => h (by rw [z]; exact h3)), getKV, if_pos h3]
      · rw [if_neg h3, ih, getKV, if_neg h, getKV, if_neg h3]
theorem getKV_put (kvs : List (D × D)) (key key' : Key) (e : D) : getKV (putKV kvs key e) key' = if key = key' then some e else getKV kvs key' := by
  unfold putKV
  split
  · rename_i h; rw [getKV_rep, h]; simp
  · rename_i h
    rw [getKV_append]
    by_cases h2 : key = key'
    · subst h2
      have : getKV kvs key = none := by cases q : getKV kvs key with | none => rfl | some _ => rw [q] at h; exact absurd rfl h
      rw [this, if_pos rfl]; simp [getKV, toKey_keyD]
    · rw [if_neg h2]
      have : getKV [(keyD key, e)] key' = none := by simp [getKV, toKey_keyD, h2]
      rw [this]; simp
/-- what stands first at a key -/
def look {α β : Type} [DecidableEq α] : List (α × β) → α → Option β
  | [], _ => none
  | p :: r, a => if p.1 = a then some p.2 else look r a
theorem look_append {α β : Type} [DecidableEq α] (a : α) : ∀ xs ys : List (α × β), look (xs ++ ys) a = (look xs a).or (look ys a)
  | [], ys => by simp [look]
  | p :: xs, ys => by
    rw [List.cons_append, look, look]
    split
    · simp
    · exact look_append a xs ys
/-- the last of a key wins -/
theorem getKV_merge : ∀ (l : List (Key × D)) (kvs : List (D × D)) (key : Key), getKV (mergeD kvs l) key = ((look l.reverse key).or (getKV kvs key))
  | [], kvs, key => by simp [mergeD, look]
  | (k, d) :: l, kvs, key => by
    show getKV (mergeD (putKV kvs k d) l) key = _
    rw [getKV_merge l, List.reverse_cons, look_append, getKV_put]
    by_cases h : k = key
    · subst h; cases look l.reverse k <;> simp [look]
    · rw [if_neg h]; cases look l.reverse key <;> simp [look, h]
/-- the make of a face of a part, or nothing -/
def makeOf (p : Part) (f : Str) : Int := (look p.faces.reverse f).getD 0
theorem look_map_key (xs : List (Str × Int)) (f : Str) : look (xs.map fun a => ((.inr a.1, .int a.2) : Key × D)) (.inr f) = (look xs f).map .int := by
  induction xs with
  | nil => rfl
  | cons a xs ih =>
    rw [List.map_cons, look, look, ih]
    by_cases h : a.1 = f
    · rw [if_pos h, if_pos (by rw [h])]; rfl
    · rw [if_neg h, if_neg (fun z => h (Sum.inr.inj z))]
theorem ev_make_of (p : Part) (f : Str) : m_make_of [eP p, .str f] = some (.int (makeOf p f)) := by
  have e1 : dictD (.tuple (p.faces.map eF)) = some (.dict (mergeD [] (p.faces.map fun a => (.inr a.1, .int a.2)))) := by
    unfold dictD
    show (pairsD (p.faces.map fun a => .tuple [.str a.1, .int a.2])).map _ = _
    rw [pairsD_map]; rfl
  have e2 : getD2 (.dict (mergeD [] (p.faces.map fun a => (.inr a.1, .int a.2)))) (.str f) (.int 0) = some (.int (makeOf p f)) := by
    show some ((getKV _ (.inr f)).getD (.int 0)) = _
    rw [getKV_merge, ← List.map_reverse, look_map_key]
    unfold makeOf
    cases look p.faces.reverse f <;> simp [getKV]
  simp only [m_make_of, bodyD, g_make_of, startE, qRet, fGet2, f1, f2, fV, fC, ixP2, Option.bind_some, List.map_cons, List.map_nil, List.length_cons, List.length_nil, List.replicate, List.append_nil, List.getElem?_cons_zero, List.getElem?_cons_succ]
  simp [e1, e2, ixP2]
def gives (p : Part) (w : Want) : Bool := decide (w.lo ≤ makeOf p w.face) && decide (makeOf p w.face ≤ w.hi)
def giversFor (ps : House) (n : Str) (w : Want) : House := ps.filter fun p => !decide (p.name = n) && gives p w
def lacks (ps : House) (p : Part) : List Str := (p.wants.filter fun w => w.must && decide ((giversFor ps p.name w).length = 0)).map (·.face)
theorem ev_gives (p : Part) (w : Want) : m_gives [eP p, eW w] = some (.bool (gives p w)) := by
  have h := ev_make_of p w.face
  unfold gives
  by_cases h1 : w.lo ≤ makeOf p w.face <;> simp [m_gives, g_gives, bodyD, startE, qSeq, qSet, qOwn, qRet, qIf, qNil, qFor, qApp, qExt, qPut, qRetOwn, qAlias, qAsg, qBrk, qCont, qDrop, qPop, fGet2, f1, f2, fV, fW, fC, fCons, fNil, fTup, fLst, fCall, fB, fAndB, fOrB, fNotB, fAndV, fOrV, fNotV, fIf, fChain, fIt, fLc, fYes, sN, sCons, sNil, wipeE, itemsH, lstH, lenH, ixP0, ixP1, ixP2, ixP3, ixP4, ixW0, ixW1, ixW2, ixW3, ixF0, ixF1, ixK0, ixK1, ixK2, ixT0, ixT1, ixT2, ixT3, ixL0, lenD_l, lenD_t, lenD_s, lstD_l, lstD_t, tupD_l, tupD_t, itemsD_l, itemsD_t, addD_i, addD_s, addD_t, subD_i, catD_l, intD_i, intD_b, isND_n, notND_n, isNone_n, isNone_s, isNone_i, isNone_b, isNone_l, isNone_t, isNone_p, isNone_o, modD_i, fdivD_i, timesD_t, min2_i, max2_i, negD_i, asB_b, Option.bind_some, Option.map_some, List.map_cons, List.map_nil, List.length_cons, List.length_nil, List.replicate, List.append_nil, List.getElem?_cons_zero, List.getElem?_cons_succ, eqD_O, neD_O, eqD_int, neD_int, eqD_str, neD_str, ltD_int, gtD_int, leD_int, geD_int, sizeLine_eq, List.set_cons_zero, List.set_cons_succ, seqD_l, seqD_t, sTup_t, eW, h, h1]
theorem ev_givers_for (ps : House) (n : Str) (w : Want) : m_givers_for [.list (ps.map eP), .str n, eW w] = some (.list ((giversFor ps n w).map eP)) := by
  have h : compL (sN 3) ct_givers_for_0 (fV 3) (wipeE [.dat (.list (ps.map eP)), .dat (.str n), .dat (eW w), .un] [3]) (ps.map eP) = some ((giversFor ps n w).map eP) := by
    refine compL_map eP _ _ ps fun p hp => ⟨_, rfl, ?_, fun _ => rfl⟩
    have h1 := ev_gives p w
    by_cases h2 : p.name = n <;> simp [ct_givers_for_0, bodyD, startE, qSeq, qSet, qOwn, qRet, qIf, qNil, qFor, qApp, qExt, qPut, qRetOwn, qAlias, qAsg, qBrk, qCont, qDrop, qPop, fGet2, f1, f2, fV, fW, fC, fCons, fNil, fTup, fLst, fCall, fB, fAndB, fOrB, fNotB, fAndV, fOrV, fNotV, fIf, fChain, fIt, fLc, fYes, sN, sCons, sNil, wipeE, itemsH, lstH, lenH, ixP0, ixP1, ixP2, ixP3, ixP4, ixW0, ixW1, ixW2, ixW3, ixF0, ixF1, ixK0, ixK1, ixK2, ixT0, ixT1, ixT2, ixT3, ixL0, lenD_l, lenD_t, lenD_s, lstD_l, lstD_t, tupD_l, tupD_t, itemsD_l, itemsD_t, addD_i, addD_s, addD_t, subD_i, catD_l, intD_i, intD_b, isND_n, notND_n, isNone_n, isNone_s, isNone_i, isNone_b, isNone_l, isNone_t, isNone_p, isNone_o, modD_i, fdivD_i, timesD_t, min2_i, max2_i, negD_i, asB_b, Option.bind_some, Option.map_some, List.map_cons, List.map_nil, List.length_cons, List.length_nil, List.replicate, List.append_nil, List.getElem?_cons_zero, List.getElem?_cons_succ, eqD_O, neD_O, eqD_int, neD_int, eqD_str, neD_str, ltD_int, gtD_int, leD_int, geD_int, sizeLine_eq, List.set_cons_zero, List.set_cons_succ, seqD_l, seqD_t, sTup_t, h1, h2]
  simp [m_givers_for, g_givers_for, bodyD, startE, qSeq, qSet, qOwn, qRet, qIf, qNil, qFor, qApp, qExt, qPut, qRetOwn, qAlias, qAsg, qBrk, qCont, qDrop, qPop, fGet2, f1, f2, fV, fW, fC, fCons, fNil, fTup, fLst, fCall, fB, fAndB, fOrB, fNotB, fAndV, fOrV, fNotV, fIf, fChain, fIt, fLc, fYes, sN, sCons, sNil, wipeE, itemsH, lstH, lenH, ixP0, ixP1, ixP2, ixP3, ixP4, ixW0, ixW1, ixW2, ixW3, ixF0, ixF1, ixK0, ixK1, ixK2, ixT0, ixT1, ixT2, ixT3, ixL0, lenD_l, lenD_t, lenD_s, lstD_l, lstD_t, tupD_l, tupD_t, itemsD_l, itemsD_t, addD_i, addD_s, addD_t, subD_i, catD_l, intD_i, intD_b, isND_n, notND_n, isNone_n, isNone_s, isNone_i, isNone_b, isNone_l, isNone_t, isNone_p, isNone_o, modD_i, fdivD_i, timesD_t, min2_i, max2_i, negD_i, asB_b, Option.bind_some, Option.map_some, List.map_cons, List.map_nil, List.length_cons, List.length_nil, List.replicate, List.append_nil, List.getElem?_cons_zero, List.getElem?_cons_succ, eqD_O, neD_O, eqD_int, neD_int, eqD_str, neD_str, ltD_int, gtD_int, leD_int, geD_int, sizeLine_eq, List.set_cons_zero, List.set_cons_succ, seqD_l, seqD_t, sTup_t] at h ⊢
  rw [h]; rfl
theorem ev_lacks (ps : House) (p : Part) : m_lacks [.list (ps.map eP), eP p] = some (.list ((lacks ps p).map eS)) := by
  have h : compL (sN 2) ct_lacks_0 ce_lacks_1 (wipeE [.dat (.list (ps.map eP)), .dat (eP p), .un] [2]) (p.wants.map eW) = some ((p.wants.filter fun w => w.must && decide ((giversFor ps p.name w).length = 0)).map fun w => eS w.face) := by
    refine compL_map eW _ _ p.wants fun w hw => ⟨_, rfl, ?_, fun _ => rfl⟩
    have h1 := ev_givers_for ps p.name w
    cases h2 : w.must <;> simp [ct_lacks_0, bodyD, startE, qSeq, qSet, qOwn, qRet, qIf, qNil, qFor, qApp, qExt, qPut, qRetOwn, qAlias, qAsg, qBrk, qCont, qDrop, qPop, fGet2, f1, f2, fV, fW, fC, fCons, fNil, fTup, fLst, fCall, fB, fAndB, fOrB, fNotB, fAndV, fOrV, fNotV, fIf, fChain, fIt, fLc, fYes, sN, sCons, sNil, wipeE, itemsH, lstH, lenH, ixP0, ixP1, ixP2, ixP3, ixP4, ixW0, ixW1, ixW2, ixW3, ixF0, ixF1, ixK0, ixK1, ixK2, ixT0, ixT1, ixT2, ixT3, ixL0, lenD_l, lenD_t, lenD_s, lstD_l, lstD_t, tupD_l, tupD_t, itemsD_l, itemsD_t, addD_i, addD_s, addD_t, subD_i, catD_l, intD_i, intD_b, isND_n, notND_n, isNone_n, isNone_s, isNone_i, isNone_b, isNone_l, isNone_t, isNone_p, isNone_o, modD_i, fdivD_i, timesD_t, min2_i, max2_i, negD_i, asB_b, Option.bind_some, Option.map_some, List.map_cons, List.map_nil, List.length_cons, List.length_nil, List.replicate, List.append_nil, List.getElem?_cons_zero, List.getElem?_cons_succ, eqD_O, neD_O, eqD_int, neD_int, eqD_str, neD_str, ltD_int, gtD_int, leD_int, geD_int, sizeLine_eq, List.set_cons_zero, List.set_cons_succ, seqD_l, seqD_t, sTup_t, h1, h2]
  unfold lacks
  rw [List.map_map]
  simp [m_lacks, g_lacks, bodyD, startE, qSeq, qSet, qOwn, qRet, qIf, qNil, qFor, qApp, qExt, qPut, qRetOwn, qAlias, qAsg, qBrk, qCont, qDrop, qPop, fGet2, f1, f2, fV, fW, fC, fCons, fNil, fTup, fLst, fCall, fB, fAndB, fOrB, fNotB, fAndV, fOrV, fNotV, fIf, fChain, fIt, fLc, fYes, sN, sCons, sNil, wipeE, itemsH, lstH, lenH, ixP0, ixP1, ixP2, ixP3, ixP4, ixW0, ixW1, ixW2, ixW3, ixF0, ixF1, ixK0, ixK1, ixK2, ixT0, ixT1, ixT2, ixT3, ixL0, lenD_l, lenD_t, lenD_s, lstD_l, lstD_t, tupD_l, tupD_t, itemsD_l, itemsD_t, addD_i, addD_s, addD_t, subD_i, catD_l, intD_i, intD_b, isND_n, notND_n, isNone_n, isNone_s, isNone_i, isNone_b, isNone_l, isNone_t, isNone_p, isNone_o, modD_i, fdivD_i, timesD_t, min2_i, max2_i, negD_i, asB_b, Option.bind_some, Option.map_some, List.map_cons, List.map_nil, List.length_cons, List.length_nil, List.replicate, List.append_nil, List.getElem?_cons_zero, List.getElem?_cons_succ, eqD_O, neD_O, eqD_int, neD_int, eqD_str, neD_str, ltD_int, gtD_int, leD_int, geD_int, sizeLine_eq, List.set_cons_zero, List.set_cons_succ, seqD_l, seqD_t, sTup_t] at h ⊢
  rw [h]; rfl
/-- one turn: those that lack nothing -/
def step (ps : House) : House := ps.filter fun p => decide ((lacks ps p).length = 0)
def standN : Nat → House → House
  | 0, ps => ps
  | n + 1, ps => if (step ps).length < ps.length then standN n (step ps) else ps
def stand (h : House) : House := standN h.length h
theorem ev_step (ps : House) (a b c : Slot) : compL (sN 3) ct_standing_parts_0 (fV 3) (wipeE [a, .dat (.list (ps.map eP)), b, c] [3]) (ps.map eP) = some ((step ps).map eP) := by
  refine compL_map eP _ _ ps fun p hp => ⟨_, rfl, ?_, fun _ => rfl⟩
  have h1 := ev_lacks ps p
  simp [ct_standing_parts_0, bodyD, startE, qSeq, qSet, qOwn, qRet, qIf, qNil, qFor, qApp, qExt, qPut, qRetOwn, qAlias, qAsg, qBrk, qCont, qDrop, qPop, fGet2, f1, f2, fV, fW, fC, fCons, fNil, fTup, fLst, fCall, fB, fAndB, fOrB, fNotB, fAndV, fOrV, fNotV, fIf, fChain, fIt, fLc, fYes, sN, sCons, sNil, wipeE, itemsH, lstH, lenH, ixP0, ixP1, ixP2, ixP3, ixP4, ixW0, ixW1, ixW2, ixW3, ixF0, ixF1, ixK0, ixK1, ixK2, ixT0, ixT1, ixT2, ixT3, ixL0, lenD_l, lenD_t, lenD_s, lstD_l, lstD_t, tupD_l, tupD_t, itemsD_l, itemsD_t, addD_i, addD_s, addD_t, subD_i, catD_l, intD_i, intD_b, isND_n, notND_n, isNone_n, isNone_s, isNone_i, isNone_b, isNone_l, isNone_t, isNone_p, isNone_o, modD_i, fdivD_i, timesD_t, min2_i, max2_i, negD_i, asB_b, Option.bind_some, Option.map_some, List.map_cons, List.map_nil, List.length_cons, List.length_nil, List.replicate, List.append_nil, List.getElem?_cons_zero, List.getElem?_cons_succ, eqD_O, neD_O, eqD_int, neD_int, eqD_str, neD_str, ltD_int, gtD_int, leD_int, geD_int, sizeLine_eq, List.set_cons_zero, List.set_cons_succ, seqD_l, seqD_t, sTup_t, h1]
theorem ev_stand_loop (hd c : Slot) : ∀ (n m : Nat) (ps : House), ps.length ≤ n → n < m →
    ∃ ps' : House, whileS lc_standing_parts_1 lb_standing_parts_2 m [hd, .dat (.list (ps.map eP)), .dat (.list ((step ps).map eP)), c] = some (.next [hd, .dat (.list ((standN n ps).map eP)), .dat (.list (ps'.map eP)), c])
  | n, 0, ps, _, hm => absurd hm (Nat.not_lt_zero _)
  | n, m + 1, ps, hn, hm => by
    rw [whileS]
    by_cases hlt : (step ps).length < ps.length
    · cases n with
      | zero => omega
      | succ n =>
        obtain ⟨ps', ih⟩ := ev_stand_loop hd c n m (step ps) (by omega) (by omega)
        refine ⟨ps', ?_⟩
        have h2 := ev_step (step ps) hd (.dat (.list ((step ps).map eP))) c
        rw [standN, if_pos hlt, ← ih]
        simp [lc_standing_parts_1, lb_standing_parts_2, bodyD, startE, qSeq, qSet, qOwn, qRet, qIf, qNil, qFor, qApp, qExt, qPut, qRetOwn, qAlias, qAsg, qBrk, qCont, qDrop, qPop, fGet2, f1, f2, fV, fW, fC, fCons, fNil, fTup, fLst, fCall, fB, fAndB, fOrB, fNotB, fAndV, fOrV, fNotV, fIf, fChain, fIt, fLc, fYes, sN, sCons, sNil, wipeE, itemsH, lstH, lenH, ixP0, ixP1, ixP2, ixP3, ixP4, ixW0, ixW1, ixW2, ixW3, ixF0, ixF1, ixK0, ixK1, ixK2, ixT0, ixT1, ixT2, ixT3, ixL0, lenD_l, lenD_t, lenD_s, lstD_l, lstD_t, tupD_l, tupD_t, itemsD_l, itemsD_t, addD_i, addD_s, addD_t, subD_i, catD_l, intD_i, intD_b, isND_n, notND_n, isNone_n, isNone_s, isNone_i, isNone_b, isNone_l, isNone_t, isNone_p, isNone_o, modD_i, fdivD_i, timesD_t, min2_i, max2_i, negD_i, asB_b, Option.bind_some, Option.map_some, List.map_cons, List.map_nil, List.length_cons, List.length_nil, List.replicate, List.append_nil, List.getElem?_cons_zero, List.getElem?_cons_succ, eqD_O, neD_O, eqD_int, neD_int, eqD_str, neD_str, ltD_int, gtD_int, leD_int, geD_int, sizeLine_eq, List.set_cons_zero, List.set_cons_succ, seqD_l, seqD_t, sTup_t, hlt] at h2 ⊢
        rw [h2]; rfl
    · refine ⟨step ps, ?_⟩
      have e : standN n ps = ps := by cases n with
        | zero => rfl
        | succ n => rw [standN, if_neg hlt]
      rw [e]
      simp [lc_standing_parts_1, bodyD, startE, qSeq, qSet, qOwn, qRet, qIf, qNil, qFor, qApp, qExt, qPut, qRetOwn, qAlias, qAsg, qBrk, qCont, qDrop, qPop, fGet2, f1, f2, fV, fW, fC, fCons, fNil, fTup, fLst, fCall, fB, fAndB, fOrB, fNotB, fAndV, fOrV, fNotV, fIf, fChain, fIt, fLc, fYes, sN, sCons, sNil, wipeE, itemsH, lstH, lenH, ixP0, ixP1, ixP2, ixP3, ixP4, ixW0, ixW1, ixW2, ixW3, ixF0, ixF1, ixK0, ixK1, ixK2, ixT0, ixT1, ixT2, ixT3, ixL0, lenD_l, lenD_t, lenD_s, lstD_l, lstD_t, tupD_l, tupD_t, itemsD_l, itemsD_t, addD_i, addD_s, addD_t, subD_i, catD_l, intD_i, intD_b, isND_n, notND_n, isNone_n, isNone_s, isNone_i, isNone_b, isNone_l, isNone_t, isNone_p, isNone_o, modD_i, fdivD_i, timesD_t, min2_i, max2_i, negD_i, asB_b, Option.bind_some, Option.map_some, List.map_cons, List.map_nil, List.length_cons, List.length_nil, List.replicate, List.append_nil, List.getElem?_cons_zero, List.getElem?_cons_succ, eqD_O, neD_O, eqD_int, neD_int, eqD_str, neD_str, ltD_int, gtD_int, leD_int, geD_int, sizeLine_eq, List.set_cons_zero, List.set_cons_succ, seqD_l, seqD_t, sTup_t, hlt]
theorem ev_standing_parts (h : House) (hl : h.length < 100000) : m_standing_parts [eH h] = some (.list ((stand h).map eP)) := by
  obtain ⟨ps', h1⟩ := ev_stand_loop (.dat (eH h)) .un h.length 100000 h (Nat.le_refl _) hl
  have h2 := ev_step h (.dat (eH h)) .un .un
  simp [m_standing_parts, g_standing_parts, bodyD, startE, qSeq, qSet, qOwn, qRet, qIf, qNil, qFor, qApp, qExt, qPut, qRetOwn, qAlias, qAsg, qBrk, qCont, qDrop, qPop, fGet2, f1, f2, fV, fW, fC, fCons, fNil, fTup, fLst, fCall, fB, fAndB, fOrB, fNotB, fAndV, fOrV, fNotV, fIf, fChain, fIt, fLc, fYes, sN, sCons, sNil, wipeE, itemsH, lstH, lenH, ixP0, ixP1, ixP2, ixP3, ixP4, ixW0, ixW1, ixW2, ixW3, ixF0, ixF1, ixK0, ixK1, ixK2, ixT0, ixT1, ixT2, ixT3, ixL0, lenD_l, lenD_t, lenD_s, lstD_l, lstD_t, tupD_l, tupD_t, itemsD_l, itemsD_t, addD_i, addD_s, addD_t, subD_i, catD_l, intD_i, intD_b, isND_n, notND_n, isNone_n, isNone_s, isNone_i, isNone_b, isNone_l, isNone_t, isNone_p, isNone_o, modD_i, fdivD_i, timesD_t, min2_i, max2_i, negD_i, asB_b, Option.bind_some, Option.map_some, List.map_cons, List.map_nil, List.length_cons, List.length_nil, List.replicate, List.append_nil, List.getElem?_cons_zero, List.getElem?_cons_succ, eqD_O, neD_O, eqD_int, neD_int, eqD_str, neD_str, ltD_int, gtD_int, leD_int, geD_int, sizeLine_eq, List.set_cons_zero, List.set_cons_succ, seqD_l, seqD_t, sTup_t] at h1 h2 ⊢
  rw [h2]
  simp [bodyD, startE, qSeq, qSet, qOwn, qRet, qIf, qNil, qFor, qApp, qExt, qPut, qRetOwn, qAlias, qAsg, qBrk, qCont, qDrop, qPop, fGet2, f1, f2, fV, fW, fC, fCons, fNil, fTup, fLst, fCall, fB, fAndB, fOrB, fNotB, fAndV, fOrV, fNotV, fIf, fChain, fIt, fLc, fYes, sN, sCons, sNil, wipeE, itemsH, lstH, lenH, ixP0, ixP1, ixP2, ixP3, ixP4, ixW0, ixW1, ixW2, ixW3, ixF0, ixF1, ixK0, ixK1, ixK2, ixT0, ixT1, ixT2, ixT3, ixL0, lenD_l, lenD_t, lenD_s, lstD_l, lstD_t, tupD_l, tupD_t, itemsD_l, itemsD_t, addD_i, addD_s, addD_t, subD_i, catD_l, intD_i, intD_b, isND_n, notND_n, isNone_n, isNone_s, isNone_i, isNone_b, isNone_l, isNone_t, isNone_p, isNone_o, modD_i, fdivD_i, timesD_t, min2_i, max2_i, negD_i, asB_b, Option.bind_some, Option.map_some, List.map_cons, List.map_nil, List.length_cons, List.length_nil, List.replicate, List.append_nil, List.getElem?_cons_zero, List.getElem?_cons_succ, eqD_O, neD_O, eqD_int, neD_int, eqD_str, neD_str, ltD_int, gtD_int, leD_int, geD_int, sizeLine_eq, List.set_cons_zero, List.set_cons_succ, seqD_l, seqD_t, sTup_t]
  rw [h1]; rfl
theorem filter_true {α : Type} (xs : List α) : xs.filter (fun _ => true) = xs := List.filter_eq_self.mpr fun _ _ => rfl
theorem ev_standing (h : House) (hl : h.length < 100000) : m_standing [eH h] = some (.tuple ((stand h).map fun p => eS p.name)) := by
  have h1 := ev_standing_parts h hl
  have h2 : compL (sN 1) fYes ce_standing_0 (wipeE [.dat (eH h), .un] [1]) ((stand h).map eP) = some (((stand h).filter fun _ => true).map fun p => eS p.name) :=
    compL_map eP _ _ _ fun p hp => ⟨_, rfl, rfl, fun _ => rfl⟩
  rw [filter_true] at h2
  simp [m_standing, g_standing, bodyD, startE, qSeq, qSet, qOwn, qRet, qIf, qNil, qFor, qApp, qExt, qPut, qRetOwn, qAlias, qAsg, qBrk, qCont, qDrop, qPop, fGet2, f1, f2, fV, fW, fC, fCons, fNil, fTup, fLst, fCall, fB, fAndB, fOrB, fNotB, fAndV, fOrV, fNotV, fIf, fChain, fIt, fLc, fYes, sN, sCons, sNil, wipeE, itemsH, lstH, lenH, ixP0, ixP1, ixP2, ixP3, ixP4, ixW0, ixW1, ixW2, ixW3, ixF0, ixF1, ixK0, ixK1, ixK2, ixT0, ixT1, ixT2, ixT3, ixL0, lenD_l, lenD_t, lenD_s, lstD_l, lstD_t, tupD_l, tupD_t, itemsD_l, itemsD_t, addD_i, addD_s, addD_t, subD_i, catD_l, intD_i, intD_b, isND_n, notND_n, isNone_n, isNone_s, isNone_i, isNone_b, isNone_l, isNone_t, isNone_p, isNone_o, modD_i, fdivD_i, timesD_t, min2_i, max2_i, negD_i, asB_b, Option.bind_some, Option.map_some, List.map_cons, List.map_nil, List.length_cons, List.length_nil, List.replicate, List.append_nil, List.getElem?_cons_zero, List.getElem?_cons_succ, eqD_O, neD_O, eqD_int, neD_int, eqD_str, neD_str, ltD_int, gtD_int, leD_int, geD_int, sizeLine_eq, List.set_cons_zero, List.set_cons_succ, seqD_l, seqD_t, sTup_t, h1] at h2 ⊢
  rw [h2]; rfl
/-- bounds -/
structure Sm (h : House) : Prop where
  len : h.length ≤ 100
  faces : ∀ p ∈ h, p.faces.length ≤ 100
  wants : ∀ p ∈ h, p.wants.length ≤ 100
  hooks : ∀ p ∈ h, p.hooks.length ≤ 100
def lackRow (ps : House) (p : Part) : List (Str × Str) := if p ∈ ps then [] else (lacks ps p).map fun f => (p.name, f)
def lackPairs (h : House) : List (Str × Str) := h.flatMap (lackRow (stand h))
def lacking (h : House) : List (Str × Str) := sortT eSS (lackPairs h)
theorem lacks_len (ps : House) (p : Part) : (lacks ps p).length ≤ p.wants.length := by
  unfold lacks; rw [List.length_map]; exact List.length_filter_le _ _
theorem ev_lacking_loop (h : House) (sm : Sm h) : ∃ env', loopS (sN 3) lb_lacking_1 (h.map eP) [.dat (eH h), .dat (.list ((stand h).map eP)), .own (.list []), .un, .un] = some (.next env') ∧
    ∃ j1 j2, env' = [.dat (eH h), .dat (.list ((stand h).map eP)), .own (.list ((lackPairs h).map eSS)), j1, j2] ∧ (lackPairs h).length ≤ 100 * (0 + h.length) := by
  have ef : h.foldl (fun s p => s ++ lackRow (stand h) p) [] = lackPairs h := by rw [foldl_flat]; rfl
  rw [← ef]
  refine loopS_foldN eP (fun i (s : List (Str × Str)) env => ∃ j1 j2, env = [.dat (eH h), .dat (.list ((stand h).map eP)), .own (.list (s.map eSS)), j1, j2] ∧ s.length ≤ 100 * i) (fun s p => s ++ lackRow (stand h) p) h 0 ?_ [] _ ⟨_, _, rfl, Nat.zero_le _⟩
  rintro p hp j s _ ⟨j1, j2, rfl, hs⟩ hj
  have a1 := notInD_lst eP eqv_eP plain_eP (fun a => Nat.le_trans (depth_eP a) (by omega)) (stand h) p
  have a2 := ev_lacks (stand h) p
  have a3 := lacks_len (stand h) p
  have a4 := sm.wants p hp
  have a5 := sm.len
  by_cases hin : p ∈ stand h
  · refine ⟨_, [.dat (eH h), .dat (.list ((stand h).map eP)), .own (.list (s.map eSS)), .dat (eP p), j2], rfl, .inl ?_, .dat (eP p), j2, ?_, ?_⟩
    · simp [lb_lacking_1, bodyD, startE, qSeq, qSet, qOwn, qRet, qIf, qNil, qFor, qApp, qExt, qPut, qRetOwn, qAlias, qAsg, qBrk, qCont, qDrop, qPop, fGet2, f1, f2, fV, fW, fC, fCons, fNil, fTup, fLst, fCall, fB, fAndB, fOrB, fNotB, fAndV, fOrV, fNotV, fIf, fChain, fIt, fLc, fYes, sN, sCons, sNil, wipeE, itemsH, lstH, lenH, ixP0, ixP1, ixP2, ixP3, ixP4, ixW0, ixW1, ixW2, ixW3, ixF0, ixF1, ixK0, ixK1, ixK2, ixT0, ixT1, ixT2, ixT3, ixL0, lenD_l, lenD_t, lenD_s, lstD_l, lstD_t, tupD_l, tupD_t, itemsD_l, itemsD_t, addD_i, addD_s, addD_t, subD_i, catD_l, intD_i, intD_b, isND_n, notND_n, isNone_n, isNone_s, isNone_i, isNone_b, isNone_l, isNone_t, isNone_p, isNone_o, modD_i, fdivD_i, timesD_t, min2_i, max2_i, negD_i, asB_b, Option.bind_some, Option.map_some, List.map_cons, List.map_nil, List.length_cons, List.length_nil, List.replicate, List.append_nil, List.getElem?_cons_zero, List.getElem?_cons_succ, eqD_O, neD_O, eqD_int, neD_int, eqD_str, neD_str, ltD_int, gtD_int, leD_int, geD_int, sizeLine_eq, List.set_cons_zero, List.set_cons_succ, seqD_l, seqD_t, sTup_t, a1, hin]
    · rw [lackRow, if_pos hin, List.append_nil]
    · rw [lackRow, if_pos hin, List.append_nil]; omega
  · have b1 : compL (sN 4) fYes ce_lacking_0 (wipeE [.dat (eH h), .dat (.list ((stand h).map eP)), .own (.list (s.map eSS)), .dat (eP p), j2] [4]) ((lacks (stand h) p).map eS) = some (((lacks (stand h) p).filter fun _ => true).map fun f => eSS (p.name, f)) :=
      compL_map eS _ _ _ fun f hf => ⟨_, rfl, rfl, fun _ => by simp [ce_lacking_0, bodyD, startE, qSeq, qSet, qOwn, qRet, qIf, qNil, qFor, qApp, qExt, qPut, qRetOwn, qAlias, qAsg, qBrk, qCont, qDrop, qPop, fGet2, f1, f2, fV, fW, fC, fCons, fNil, fTup, fLst, fCall, fB, fAndB, fOrB, fNotB, fAndV, fOrV, fNotV, fIf, fChain, fIt, fLc, fYes, sN, sCons, sNil, wipeE, itemsH, lstH, lenH, ixP0, ixP1, ixP2, ixP3, ixP4, ixW0, ixW1, ixW2, ixW3, ixF0, ixF1, ixK0, ixK1, ixK2, ixT0, ixT1, ixT2, ixT3, ixL0, lenD_l, lenD_t, lenD_s, lstD_l, lstD_t, tupD_l, tupD_t, itemsD_l, itemsD_t, addD_i, addD_s, addD_t, subD_i, catD_l, intD_i, intD_b, isND_n, notND_n, isNone_n, isNone_s, isNone_i, isNone_b, isNone_l, isNone_t, isNone_p, isNone_o, modD_i, fdivD_i, timesD_t, min2_i, max2_i, negD_i, asB_b, Option.bind_some, Option.map_some, List.map_cons, List.map_nil, List.length_cons, List.length_nil, List.replicate, List.append_nil, List.getElem?_cons_zero, List.getElem?_cons_succ, eqD_O, neD_O, eqD_int, neD_int, eqD_str, neD_str, ltD_int, gtD_int, leD_int, geD_int, sizeLine_eq, List.set_cons_zero, List.set_cons_succ, seqD_l, seqD_t, sTup_t, eSS, eS]⟩
    rw [filter_true] at b1
    refine ⟨_, [.dat (eH h), .dat (.list ((stand h).map eP)), .own (.list ((s ++ lackRow (stand h) p).map eSS)), .dat (eP p), j2], rfl, .inl ?_, _, _, rfl, ?_⟩
    · simp [lb_lacking_1, bodyD, startE, qSeq, qSet, qOwn, qRet, qIf, qNil, qFor, qApp, qExt, qPut, qRetOwn, qAlias, qAsg, qBrk, qCont, qDrop, qPop, fGet2, f1, f2, fV, fW, fC, fCons, fNil, fTup, fLst, fCall, fB, fAndB, fOrB, fNotB, fAndV, fOrV, fNotV, fIf, fChain, fIt, fLc, fYes, sN, sCons, sNil, wipeE, itemsH, lstH, lenH, ixP0, ixP1, ixP2, ixP3, ixP4, ixW0, ixW1, ixW2, ixW3, ixF0, ixF1, ixK0, ixK1, ixK2, ixT0, ixT1, ixT2, ixT3, ixL0, lenD_l, lenD_t, lenD_s, lstD_l, lstD_t, tupD_l, tupD_t, itemsD_l, itemsD_t, addD_i, addD_s, addD_t, subD_i, catD_l, intD_i, intD_b, isND_n, notND_n, isNone_n, isNone_s, isNone_i, isNone_b, isNone_l, isNone_t, isNone_p, isNone_o, modD_i, fdivD_i, timesD_t, min2_i, max2_i, negD_i, asB_b, Option.bind_some, Option.map_some, List.map_cons, List.map_nil, List.length_cons, List.length_nil, List.replicate, List.append_nil, List.getElem?_cons_zero, List.getElem?_cons_succ, eqD_O, neD_O, eqD_int, neD_int, eqD_str, neD_str, ltD_int, gtD_int, leD_int, geD_int, sizeLine_eq, List.set_cons_zero, List.set_cons_succ, seqD_l, seqD_t, sTup_t, a1, hin, a2] at b1 ⊢
      rw [b1]
      simp [bodyD, startE, qSeq, qSet, qOwn, qRet, qIf, qNil, qFor, qApp, qExt, qPut, qRetOwn, qAlias, qAsg, qBrk, qCont, qDrop, qPop, fGet2, f1, f2, fV, fW, fC, fCons, fNil, fTup, fLst, fCall, fB, fAndB, fOrB, fNotB, fAndV, fOrV, fNotV, fIf, fChain, fIt, fLc, fYes, sN, sCons, sNil, wipeE, itemsH, lstH, lenH, ixP0, ixP1, ixP2, ixP3, ixP4, ixW0, ixW1, ixW2, ixW3, ixF0, ixF1, ixK0, ixK1, ixK2, ixT0, ixT1, ixT2, ixT3, ixL0, lenD_l, lenD_t, lenD_s, lstD_l, lstD_t, tupD_l, tupD_t, itemsD_l, itemsD_t, addD_i, addD_s, addD_t, subD_i, catD_l, intD_i, intD_b, isND_n, notND_n, isNone_n, isNone_s, isNone_i, isNone_b, isNone_l, isNone_t, isNone_p, isNone_o, modD_i, fdivD_i, timesD_t, min2_i, max2_i, negD_i, asB_b, Option.bind_some, Option.map_some, List.map_cons, List.map_nil, List.length_cons, List.length_nil, List.replicate, List.append_nil, List.getElem?_cons_zero, List.getElem?_cons_succ, eqD_O, neD_O, eqD_int, neD_int, eqD_str, neD_str, ltD_int, gtD_int, leD_int, geD_int, sizeLine_eq, List.set_cons_zero, List.set_cons_succ, seqD_l, seqD_t, sTup_t]
      exact ⟨by omega, by rw [lackRow, if_neg hin, List.map_map]; rfl⟩
    · rw [lackRow, if_neg hin, List.length_append, List.length_map]; omega
theorem ev_lacking (h : House) (sm : Sm h) : m_lacking [eH h] = some (.tuple ((lacking h).map eSS)) := by
  have h1 := ev_standing_parts h (by have := sm.len; omega)
  obtain ⟨_, k1, j1, j2, rfl, k3⟩ := ev_lacking_loop h sm
  have h3 := sortD_SS (lackPairs h)
  simp [m_lacking, g_lacking, bodyD, startE, qSeq, qSet, qOwn, qRet, qIf, qNil, qFor, qApp, qExt, qPut, qRetOwn, qAlias, qAsg, qBrk, qCont, qDrop, qPop, fGet2, f1, f2, fV, fW, fC, fCons, fNil, fTup, fLst, fCall, fB, fAndB, fOrB, fNotB, fAndV, fOrV, fNotV, fIf, fChain, fIt, fLc, fYes, sN, sCons, sNil, wipeE, itemsH, lstH, lenH, ixP0, ixP1, ixP2, ixP3, ixP4, ixW0, ixW1, ixW2, ixW3, ixF0, ixF1, ixK0, ixK1, ixK2, ixT0, ixT1, ixT2, ixT3, ixL0, lenD_l, lenD_t, lenD_s, lstD_l, lstD_t, tupD_l, tupD_t, itemsD_l, itemsD_t, addD_i, addD_s, addD_t, subD_i, catD_l, intD_i, intD_b, isND_n, notND_n, isNone_n, isNone_s, isNone_i, isNone_b, isNone_l, isNone_t, isNone_p, isNone_o, modD_i, fdivD_i, timesD_t, min2_i, max2_i, negD_i, asB_b, Option.bind_some, Option.map_some, List.map_cons, List.map_nil, List.length_cons, List.length_nil, List.replicate, List.append_nil, List.getElem?_cons_zero, List.getElem?_cons_succ, eqD_O, neD_O, eqD_int, neD_int, eqD_str, neD_str, ltD_int, gtD_int, leD_int, geD_int, sizeLine_eq, List.set_cons_zero, List.set_cons_succ, seqD_l, seqD_t, sTup_t, h1, k1, h3, lacking]
end PD

/-! PARTHOST, THE PLAIN PART 3: givers, the order. -/
namespace PD
open PySem PySem.Spec PyProof.Rows L2
def eOP : Option Part → D
  | none => .none
  | some p => eP p
def better (f : Str) (best : Option Part) (p : Part) : Option Part := match best with
  | none => some p
  | some b => if makeOf b f < makeOf p f then some p else some b
def giverAmong (ps : House) (n : Str) (w : Want) : Option Str := ((giversFor ps n w).foldl (better w.face) none).map (·.name)
theorem ev_giver_loop (a b : Slot) (w : Want) (qs : House) (j0 : Slot) : ∃ env', loopS (sN 4) lb_giver_among_0 (qs.map eP) [a, b, .dat (eW w), .dat .none, j0] = some (.next env') ∧ ∃ j, env' = [a, b, .dat (eW w), .dat (eOP (qs.foldl (better w.face) none)), j] := by
  refine loopS_fold eP (fun (s : Option Part) env => ∃ j, env = [a, b, .dat (eW w), .dat (eOP s), j]) (better w.face) qs ?_ none _ ⟨_, rfl⟩
  rintro p hp s _ ⟨j, rfl⟩
  have h1 := ev_make_of p w.face
  cases s with
  | none =>
    refine ⟨_, [a, b, .dat (eW w), .dat (eP p), .dat (eP p)], rfl, .inl ?_, _, rfl⟩
    simp [lb_giver_among_0, bodyD, startE, qSeq, qSet, qOwn, qRet, qIf, qNil, qFor, qApp, qExt, qPut, qRetOwn, qAlias, qAsg, qBrk, qCont, qDrop, qPop, fGet2, f1, f2, fV, fW, fC, fCons, fNil, fTup, fLst, fCall, fB, fAndB, fOrB, fNotB, fAndV, fOrV, fNotV, fIf, fChain, fIt, fLc, fYes, sN, sCons, sNil, wipeE, itemsH, lstH, lenH, ixP0, ixP1, ixP2, ixP3, ixP4, ixW0, ixW1, ixW2, ixW3, ixF0, ixF1, ixK0, ixK1, ixK2, ixT0, ixT1, ixT2, ixT3, ixL0, lenD_l, lenD_t, lenD_s, lstD_l, lstD_t, tupD_l, tupD_t, itemsD_l, itemsD_t, addD_i, addD_s, addD_t, subD_i, catD_l, intD_i, intD_b, isND_n, notND_n, isNone_n, isNone_s, isNone_i, isNone_b, isNone_l, isNone_t, isNone_p, isNone_o, modD_i, fdivD_i, timesD_t, min2_i, max2_i, negD_i, asB_b, Option.bind_some, Option.map_some, List.map_cons, List.map_nil, List.length_cons, List.length_nil, List.replicate, List.append_nil, List.getElem?_cons_zero, List.getElem?_cons_succ, eqD_O, neD_O, eqD_int, neD_int, eqD_str, neD_str, ltD_int, gtD_int, leD_int, geD_int, sizeLine_eq, List.set_cons_zero, List.set_cons_succ, seqD_l, seqD_t, sTup_t, eOP, h1]
  | some q =>
    have h2 := ev_make_of q w.face
    refine ⟨_, [a, b, .dat (eW w), .dat (eOP (better w.face (some q) p)), .dat (eP p)], rfl, .inl ?_, _, rfl⟩
    by_cases h3 : makeOf q w.face < makeOf p w.face <;> simp [lb_giver_among_0, bodyD, startE, qSeq, qSet, qOwn, qRet, qIf, qNil, qFor, qApp, qExt, qPut, qRetOwn, qAlias, qAsg, qBrk, qCont, qDrop, qPop, fGet2, f1, f2, fV, fW, fC, fCons, fNil, fTup, fLst, fCall, fB, fAndB, fOrB, fNotB, fAndV, fOrV, fNotV, fIf, fChain, fIt, fLc, fYes, sN, sCons, sNil, wipeE, itemsH, lstH, lenH, ixP0, ixP1, ixP2, ixP3, ixP4, ixW0, ixW1, ixW2, ixW3, ixF0, ixF1, ixK0, ixK1, ixK2, ixT0, ixT1, ixT2, ixT3, ixL0, lenD_l, lenD_t, lenD_s, lstD_l, lstD_t, tupD_l, tupD_t, itemsD_l, itemsD_t, addD_i, addD_s, addD_t, subD_i, catD_l, intD_i, intD_b, isND_n, notND_n, isNone_n, isNone_s, isNone_i, isNone_b, isNone_l, isNone_t, isNone_p, isNone_o, modD_i, fdivD_i, timesD_t, min2_i, max2_i, negD_i, asB_b, Option.bind_some, Option.map_some, List.map_cons, List.map_nil, List.length_cons, List.length_nil, List.replicate, List.append_nil, List.getElem?_cons_zero, List.getElem?_cons_succ, eqD_O, neD_O, eqD_int, neD_int, eqD_str, neD_str, ltD_int, gtD_int, leD_int, geD_int, sizeLine_eq, List.set_cons_zero, List.set_cons_succ, seqD_l, seqD_t, sTup_t, eOP, h1, h2, h3, better]
theorem ev_giver_among (ps : House) (n : Str) (w : Want) : m_giver_among [.list (ps.map eP), .str n, eW w] = some (eO (giverAmong ps n w)) := by
  have h1 := ev_givers_for ps n w
  obtain ⟨_, k1, j, rfl⟩ := ev_giver_loop (.dat (.list (ps.map eP))) (.dat (.str n)) w (giversFor ps n w) .un
  unfold giverAmong
  cases h2 : (giversFor ps n w).foldl (better w.face) none with
  | none => rw [h2] at k1; simp [m_giver_among, g_giver_among, bodyD, startE, qSeq, qSet, qOwn, qRet, qIf, qNil, qFor, qApp, qExt, qPut, qRetOwn, qAlias, qAsg, qBrk, qCont, qDrop, qPop, fGet2, f1, f2, fV, fW, fC, fCons, fNil, fTup, fLst, fCall, fB, fAndB, fOrB, fNotB, fAndV, fOrV, fNotV, fIf, fChain, fIt, fLc, fYes, sN, sCons, sNil, wipeE, itemsH, lstH, lenH, ixP0, ixP1, ixP2, ixP3, ixP4, ixW0, ixW1, ixW2, ixW3, ixF0, ixF1, ixK0, ixK1, ixK2, ixT0, ixT1, ixT2, ixT3, ixL0, lenD_l, lenD_t, lenD_s, lstD_l, lstD_t, tupD_l, tupD_t, itemsD_l, itemsD_t, addD_i, addD_s, addD_t, subD_i, catD_l, intD_i, intD_b, isND_n, notND_n, isNone_n, isNone_s, isNone_i, isNone_b, isNone_l, isNone_t, isNone_p, isNone_o, modD_i, fdivD_i, timesD_t, min2_i, max2_i, negD_i, asB_b, Option.bind_some, Option.map_some, List.map_cons, List.map_nil, List.length_cons, List.length_nil, List.replicate, List.append_nil, List.getElem?_cons_zero, List.getElem?_cons_succ, eqD_O, neD_O, eqD_int, neD_int, eqD_str, neD_str, ltD_int, gtD_int, leD_int, geD_int, sizeLine_eq, List.set_cons_zero, List.set_cons_succ, seqD_l, seqD_t, sTup_t, h1, k1, eOP, eO]
  | some q => rw [h2] at k1; simp [m_giver_among, g_giver_among, bodyD, startE, qSeq, qSet, qOwn, qRet, qIf, qNil, qFor, qApp, qExt, qPut, qRetOwn, qAlias, qAsg, qBrk, qCont, qDrop, qPop, fGet2, f1, f2, fV, fW, fC, fCons, fNil, fTup, fLst, fCall, fB, fAndB, fOrB, fNotB, fAndV, fOrV, fNotV, fIf, fChain, fIt, fLc, fYes, sN, sCons, sNil, wipeE, itemsH, lstH, lenH, ixP0, ixP1, ixP2, ixP3, ixP4, ixW0, ixW1, ixW2, ixW3, ixF0, ixF1, ixK0, ixK1, ixK2, ixT0, ixT1, ixT2, ixT3, ixL0, lenD_l, lenD_t, lenD_s, lstD_l, lstD_t, tupD_l, tupD_t, itemsD_l, itemsD_t, addD_i, addD_s, addD_t, subD_i, catD_l, intD_i, intD_b, isND_n, notND_n, isNone_n, isNone_s, isNone_i, isNone_b, isNone_l, isNone_t, isNone_p, isNone_o, modD_i, fdivD_i, timesD_t, min2_i, max2_i, negD_i, asB_b, Option.bind_some, Option.map_some, List.map_cons, List.map_nil, List.length_cons, List.length_nil, List.replicate, List.append_nil, List.getElem?_cons_zero, List.getElem?_cons_succ, eqD_O, neD_O, eqD_int, neD_int, eqD_str, neD_str, ltD_int, gtD_int, leD_int, geD_int, sizeLine_eq, List.set_cons_zero, List.set_cons_succ, seqD_l, seqD_t, sTup_t, h1, k1, eOP, eO]
theorem ev_giver (h : House) (hl : h.length < 100000) (n f : Str) (p : Part) (w : Want) (r : House) (r' : List Want) (hp : h.filter (fun p => decide (p.name = n)) = p :: r) (hw : p.wants.filter (fun w => decide (w.face = f)) = w :: r') :
    m_giver [eH h, .str n, .str f] = some (eO (giverAmong (stand h) n w)) := by
  have h1 := ev_standing_parts h hl
  have h2 := ev_giver_among (stand h) n w
  have c1 : compL (sN 3) ct_giver_0 (fV 3) (wipeE [.dat (eH h), .dat (.str n), .dat (.str f), .un, .un] [3]) (h.map eP) = some ((h.filter fun p => decide (p.name = n)).map eP) :=
    compL_map eP _ _ _ fun q hq => ⟨_, rfl, by simp [ct_giver_0, bodyD, startE, qSeq, qSet, qOwn, qRet, qIf, qNil, qFor, qApp, qExt, qPut, qRetOwn, qAlias, qAsg, qBrk, qCont, qDrop, qPop, fGet2, f1, f2, fV, fW, fC, fCons, fNil, fTup, fLst, fCall, fB, fAndB, fOrB, fNotB, fAndV, fOrV, fNotV, fIf, fChain, fIt, fLc, fYes, sN, sCons, sNil, wipeE, itemsH, lstH, lenH, ixP0, ixP1, ixP2, ixP3, ixP4, ixW0, ixW1, ixW2, ixW3, ixF0, ixF1, ixK0, ixK1, ixK2, ixT0, ixT1, ixT2, ixT3, ixL0, lenD_l, lenD_t, lenD_s, lstD_l, lstD_t, tupD_l, tupD_t, itemsD_l, itemsD_t, addD_i, addD_s, addD_t, subD_i, catD_l, intD_i, intD_b, isND_n, notND_n, isNone_n, isNone_s, isNone_i, isNone_b, isNone_l, isNone_t, isNone_p, isNone_o, modD_i, fdivD_i, timesD_t, min2_i, max2_i, negD_i, asB_b, Option.bind_some, Option.map_some, List.map_cons, List.map_nil, List.length_cons, List.length_nil, List.replicate, List.append_nil, List.getElem?_cons_zero, List.getElem?_cons_succ, eqD_O, neD_O, eqD_int, neD_int, eqD_str, neD_str, ltD_int, gtD_int, leD_int, geD_int, sizeLine_eq, List.set_cons_zero, List.set_cons_succ, seqD_l, seqD_t, sTup_t], fun _ => rfl⟩
  have c2 : compL (sN 4) ct_giver_1 (fV 4) (wipeE [.dat (eH h), .dat (.str n), .dat (.str f), .dat (eP p), .un] [4]) (p.wants.map eW) = some ((p.wants.filter fun w => decide (w.face = f)).map eW) :=
    compL_map eW _ _ _ fun q hq => ⟨_, rfl, by simp [ct_giver_1, bodyD, startE, qSeq, qSet, qOwn, qRet, qIf, qNil, qFor, qApp, qExt, qPut, qRetOwn, qAlias, qAsg, qBrk, qCont, qDrop, qPop, fGet2, f1, f2, fV, fW, fC, fCons, fNil, fTup, fLst, fCall, fB, fAndB, fOrB, fNotB, fAndV, fOrV, fNotV, fIf, fChain, fIt, fLc, fYes, sN, sCons, sNil, wipeE, itemsH, lstH, lenH, ixP0, ixP1, ixP2, ixP3, ixP4, ixW0, ixW1, ixW2, ixW3, ixF0, ixF1, ixK0, ixK1, ixK2, ixT0, ixT1, ixT2, ixT3, ixL0, lenD_l, lenD_t, lenD_s, lstD_l, lstD_t, tupD_l, tupD_t, itemsD_l, itemsD_t, addD_i, addD_s, addD_t, subD_i, catD_l, intD_i, intD_b, isND_n, notND_n, isNone_n, isNone_s, isNone_i, isNone_b, isNone_l, isNone_t, isNone_p, isNone_o, modD_i, fdivD_i, timesD_t, min2_i, max2_i, negD_i, asB_b, Option.bind_some, Option.map_some, List.map_cons, List.map_nil, List.length_cons, List.length_nil, List.replicate, List.append_nil, List.getElem?_cons_zero, List.getElem?_cons_succ, eqD_O, neD_O, eqD_int, neD_int, eqD_str, neD_str, ltD_int, gtD_int, leD_int, geD_int, sizeLine_eq, List.set_cons_zero, List.set_cons_succ, seqD_l, seqD_t, sTup_t], fun _ => rfl⟩
  rw [hp] at c1
  rw [hw] at c2
  simp [bodyD, startE, qSeq, qSet, qOwn, qRet, qIf, qNil, qFor, qApp, qExt, qPut, qRetOwn, qAlias, qAsg, qBrk, qCont, qDrop, qPop, fGet2, f1, f2, fV, fW, fC, fCons, fNil, fTup, fLst, fCall, fB, fAndB, fOrB, fNotB, fAndV, fOrV, fNotV, fIf, fChain, fIt, fLc, fYes, sN, sCons, sNil, wipeE, itemsH, lstH, lenH, ixP0, ixP1, ixP2, ixP3, ixP4, ixW0, ixW1, ixW2, ixW3, ixF0, ixF1, ixK0, ixK1, ixK2, ixT0, ixT1, ixT2, ixT3, ixL0, lenD_l, lenD_t, lenD_s, lstD_l, lstD_t, tupD_l, tupD_t, itemsD_l, itemsD_t, addD_i, addD_s, addD_t, subD_i, catD_l, intD_i, intD_b, isND_n, notND_n, isNone_n, isNone_s, isNone_i, isNone_b, isNone_l, isNone_t, isNone_p, isNone_o, modD_i, fdivD_i, timesD_t, min2_i, max2_i, negD_i, asB_b, Option.bind_some, Option.map_some, List.map_cons, List.map_nil, List.length_cons, List.length_nil, List.replicate, List.append_nil, List.getElem?_cons_zero, List.getElem?_cons_succ, eqD_O, neD_O, eqD_int, neD_int, eqD_str, neD_str, ltD_int, gtD_int, leD_int, geD_int, sizeLine_eq, List.set_cons_zero, List.set_cons_succ, seqD_l, seqD_t, sTup_t] at c1 c2
  simp [m_giver, g_giver, bodyD, startE, qSeq, qSet, qOwn, qRet, qIf, qNil, qFor, qApp, qExt, qPut, qRetOwn, qAlias, qAsg, qBrk, qCont, qDrop, qPop, fGet2, f1, f2, fV, fW, fC, fCons, fNil, fTup, fLst, fCall, fB, fAndB, fOrB, fNotB, fAndV, fOrV, fNotV, fIf, fChain, fIt, fLc, fYes, sN, sCons, sNil, wipeE, itemsH, lstH, lenH, ixP0, ixP1, ixP2, ixP3, ixP4, ixW0, ixW1, ixW2, ixW3, ixF0, ixF1, ixK0, ixK1, ixK2, ixT0, ixT1, ixT2, ixT3, ixL0, lenD_l, lenD_t, lenD_s, lstD_l, lstD_t, tupD_l, tupD_t, itemsD_l, itemsD_t, addD_i, addD_s, addD_t, subD_i, catD_l, intD_i, intD_b, isND_n, notND_n, isNone_n, isNone_s, isNone_i, isNone_b, isNone_l, isNone_t, isNone_p, isNone_o, modD_i, fdivD_i, timesD_t, min2_i, max2_i, negD_i, asB_b, Option.bind_some, Option.map_some, List.map_cons, List.map_nil, List.length_cons, List.length_nil, List.replicate, List.append_nil, List.getElem?_cons_zero, List.getElem?_cons_succ, eqD_O, neD_O, eqD_int, neD_int, eqD_str, neD_str, ltD_int, gtD_int, leD_int, geD_int, sizeLine_eq, List.set_cons_zero, List.set_cons_succ, seqD_l, seqD_t, sTup_t, c1, c2, h1, h2]

/-! ### books -/
abbrev Book := List (Str × List Str)
def eB (b : Book) : D := .dict (b.map fun x => (.str x.1, .list (x.2.map eS)))
def giversBook (h : House) : Book := (stand h).map fun p => (p.name, p.wants.filterMap (giverAmong (stand h) p.name))
theorem getKV_book (b : Book) (n : Str) : getKV (b.map fun x => ((.str x.1 : D), (.list (x.2.map eS) : D))) (.inr n) = (look b n).map fun l => .list (l.map eS) := by
  induction b with
  | nil => rfl
  | cons x b ih =>
    rw [List.map_cons, getKV, look, ih]
    by_cases h : x.1 = n
    · rw [if_pos h, if_pos (by show some (Sum.inr x.1 : Key) = _; rw [h])]; rfl
    · rw [if_neg h, if_neg (show ¬ toKey (.str x.1) = some (.inr n) from fun z => h (Sum.inr.inj (Option.some.inj z)))]
theorem look_none {b : Book} {n : Str} (h : n ∉ b.map (·.1)) : look b n = none := by
  induction b with
  | nil => rfl
  | cons x b ih =>
    rw [List.map_cons, List.mem_cons, not_or] at h
    rw [look, if_neg (fun z => h.1 z.symm), ih h.2]
theorem put_book (b : Book) (n : Str) (l : List Str) (h : n ∉ b.map (·.1)) : putKV (b.map fun x => ((.str x.1 : D), (.list (x.2.map eS) : D))) (.inr n) (.list (l.map eS)) = (b ++ [(n, l)]).map fun x => ((.str x.1 : D), (.list (x.2.map eS) : D)) := by
  unfold putKV
  rw [getKV_book, look_none h, if_neg (by simp), List.map_append]
  rfl
theorem filterMap_comp (g : Want → Option Str) (ws : List Want) : ((ws.map g).filter (fun o => o.isSome)).map eO = (ws.filterMap g).map eS := by
  induction ws with
  | nil => rfl
  | cons w ws ih =>
    rw [List.map_cons, List.filterMap_cons, List.filter_cons]
    cases q : g w with
    | none => simpa using ih
    | some x => simp [ih, eO, eS]
theorem ev_givers (h : House) (sm : Sm h) (nd : (h.map (·.name)).Nodup) (hs : (stand h).Sublist h) : m_givers [eH h] = some (eB (giversBook h)) := by
  have h1 := ev_standing_parts h (by have := sm.len; omega)
  have nd' : ((stand h).map (·.name)).Nodup := nd.sublist (hs.map _)
  have hlen : (stand h).length ≤ 100 := Nat.le_trans hs.length_le sm.len
  have key : ∀ (qs done : House), done ++ qs = stand h → ∀ j1 j2 j3 j4, ∃ env', loopS (sN 3) lb_givers_2 (qs.map eP) [.dat (eH h), .dat (.list ((stand h).map eP)), .own (eB (done.map fun p => (p.name, p.wants.filterMap (giverAmong (stand h) p.name)))), j1, j2, j3, j4] = some (.next env') ∧
      ∃ j1 j2 j3 j4, env' = [.dat (eH h), .dat (.list ((stand h).map eP)), .own (eB (giversBook h)), j1, j2, j3, j4] := by
    intro qs
    induction qs with
    | nil =>
      intro done hd j1 j2 j3 j4
      rw [List.append_nil] at hd
      subst hd
      exact ⟨_, rfl, _, _, _, _, rfl⟩
    | cons p qs ih =>
      intro done hd j1 j2 j3 j4
      have hd2 : (done ++ [p]) ++ qs = stand h := by rw [← hd, List.append_assoc]; rfl
      have hnot : p.name ∉ done.map (·.name) := by
        rw [← hd, List.map_append, List.nodup_append] at nd'
        intro hm
        exact nd'.2.2 _ hm _ (by rw [List.map_cons]; exact List.mem_cons_self) rfl
      have hdl : done.length < 100 := by
        have := congrArg List.length hd
        rw [List.length_append, List.length_cons] at this
        omega
      have c1 : compL (sN 5) fYes ce_givers_0 (wipeE [.dat (eH h), .dat (.list ((stand h).map eP)), .own (eB (done.map fun p => (p.name, p.wants.filterMap (giverAmong (stand h) p.name)))), .dat (eP p), j2, j3, j4] [5]) (p.wants.map eW) = some ((p.wants.filter fun _ => true).map fun w => eO (giverAmong (stand h) p.name w)) :=
        compL_map eW _ _ _ fun w hw => ⟨_, rfl, rfl, fun _ => by simp [ce_givers_0, bodyD, startE, qSeq, qSet, qOwn, qRet, qIf, qNil, qFor, qApp, qExt, qPut, qRetOwn, qAlias, qAsg, qBrk, qCont, qDrop, qPop, fGet2, f1, f2, fV, fW, fC, fCons, fNil, fTup, fLst, fCall, fB, fAndB, fOrB, fNotB, fAndV, fOrV, fNotV, fIf, fChain, fIt, fLc, fYes, sN, sCons, sNil, wipeE, itemsH, lstH, lenH, ixP0, ixP1, ixP2, ixP3, ixP4, ixW0, ixW1, ixW2, ixW3, ixF0, ixF1, ixK0, ixK1, ixK2, ixT0, ixT1, ixT2, ixT3, ixL0, lenD_l, lenD_t, lenD_s, lstD_l, lstD_t, tupD_l, tupD_t, itemsD_l, itemsD_t, addD_i, addD_s, addD_t, subD_i, catD_l, intD_i, intD_b, isND_n, notND_n, isNone_n, isNone_s, isNone_i, isNone_b, isNone_l, isNone_t, isNone_p, isNone_o, modD_i, fdivD_i, timesD_t, min2_i, max2_i, negD_i, asB_b, Option.bind_some, Option.map_some, List.map_cons, List.map_nil, List.length_cons, List.length_nil, List.replicate, List.append_nil, List.getElem?_cons_zero, List.getElem?_cons_succ, eqD_O, neD_O, eqD_int, neD_int, eqD_str, neD_str, ltD_int, gtD_int, leD_int, geD_int, sizeLine_eq, List.set_cons_zero, List.set_cons_succ, seqD_l, seqD_t, sTup_t, ev_giver_among]⟩
      rw [filter_true] at c1
      have c2 : compL (sN 6) ct_givers_1 (fV 6) (wipeE [.dat (eH h), .dat (.list ((stand h).map eP)), .own (eB (done.map fun p => (p.name, p.wants.filterMap (giverAmong (stand h) p.name)))), .dat (eP p), .dat (.list (p.wants.map fun w => eO (giverAmong (stand h) p.name w))), j3, j4] [6]) ((p.wants.map (giverAmong (stand h) p.name)).map eO) = some ((p.wants.filterMap (giverAmong (stand h) p.name)).map eS) := by
        rw [← filterMap_comp]
        refine compL_map eO _ _ _ fun o ho => ⟨_, rfl, ?_, fun _ => rfl⟩
        cases o <;> simp [ct_givers_1, bodyD, startE, qSeq, qSet, qOwn, qRet, qIf, qNil, qFor, qApp, qExt, qPut, qRetOwn, qAlias, qAsg, qBrk, qCont, qDrop, qPop, fGet2, f1, f2, fV, fW, fC, fCons, fNil, fTup, fLst, fCall, fB, fAndB, fOrB, fNotB, fAndV, fOrV, fNotV, fIf, fChain, fIt, fLc, fYes, sN, sCons, sNil, wipeE, itemsH, lstH, lenH, ixP0, ixP1, ixP2, ixP3, ixP4, ixW0, ixW1, ixW2, ixW3, ixF0, ixF1, ixK0, ixK1, ixK2, ixT0, ixT1, ixT2, ixT3, ixL0, lenD_l, lenD_t, lenD_s, lstD_l, lstD_t, tupD_l, tupD_t, itemsD_l, itemsD_t, addD_i, addD_s, addD_t, subD_i, catD_l, intD_i, intD_b, isND_n, notND_n, isNone_n, isNone_s, isNone_i, isNone_b, isNone_l, isNone_t, isNone_p, isNone_o, modD_i, fdivD_i, timesD_t, min2_i, max2_i, negD_i, asB_b, Option.bind_some, Option.map_some, List.map_cons, List.map_nil, List.length_cons, List.length_nil, List.replicate, List.append_nil, List.getElem?_cons_zero, List.getElem?_cons_succ, eqD_O, neD_O, eqD_int, neD_int, eqD_str, neD_str, ltD_int, gtD_int, leD_int, geD_int, sizeLine_eq, List.set_cons_zero, List.set_cons_succ, seqD_l, seqD_t, sTup_t]
      rw [List.map_map] at c2
      have c2' : compL (sN 6) ct_givers_1 (fV 6) (wipeE [.dat (eH h), .dat (.list ((stand h).map eP)), .own (eB (done.map fun p => (p.name, p.wants.filterMap (giverAmong (stand h) p.name)))), .dat (eP p), .dat (.list (p.wants.map fun w => eO (giverAmong (stand h) p.name w))), j3, j4] [6]) (p.wants.map fun w => eO (giverAmong (stand h) p.name w)) = some ((p.wants.filterMap (giverAmong (stand h) p.name)).map eS) := c2
      have hput := put_book (done.map fun p => (p.name, p.wants.filterMap (giverAmong (stand h) p.name))) p.name (p.wants.filterMap (giverAmong (stand h) p.name)) (by rw [List.map_map]; exact hnot)
      obtain ⟨env', k1, k2⟩ := ih (done ++ [p]) hd2 (.dat (eP p)) (.dat (.list (p.wants.map fun w => eO (giverAmong (stand h) p.name w)))) j3 j4
      refine ⟨env', ?_, k2⟩
      rw [← k1, List.map_cons, loopS]
      simp [bodyD, startE, qSeq, qSet, qOwn, qRet, qIf, qNil, qFor, qApp, qExt, qPut, qRetOwn, qAlias, qAsg, qBrk, qCont, qDrop, qPop, fGet2, f1, f2, fV, fW, fC, fCons, fNil, fTup, fLst, fCall, fB, fAndB, fOrB, fNotB, fAndV, fOrV, fNotV, fIf, fChain, fIt, fLc, fYes, sN, sCons, sNil, wipeE, itemsH, lstH, lenH, ixP0, ixP1, ixP2, ixP3, ixP4, ixW0, ixW1, ixW2, ixW3, ixF0, ixF1, ixK0, ixK1, ixK2, ixT0, ixT1, ixT2, ixT3, ixL0, lenD_l, lenD_t, lenD_s, lstD_l, lstD_t, tupD_l, tupD_t, itemsD_l, itemsD_t, addD_i, addD_s, addD_t, subD_i, catD_l, intD_i, intD_b, isND_n, notND_n, isNone_n, isNone_s, isNone_i, isNone_b, isNone_l, isNone_t, isNone_p, isNone_o, modD_i, fdivD_i, timesD_t, min2_i, max2_i, negD_i, asB_b, Option.bind_some, Option.map_some, List.map_cons, List.map_nil, List.length_cons, List.length_nil, List.replicate, List.append_nil, List.getElem?_cons_zero, List.getElem?_cons_succ, eqD_O, neD_O, eqD_int, neD_int, eqD_str, neD_str, ltD_int, gtD_int, leD_int, geD_int, sizeLine_eq, List.set_cons_zero, List.set_cons_succ, seqD_l, seqD_t, sTup_t, lb_givers_2] at c1 c2' ⊢
      rw [c1]
      simp [bodyD, startE, qSeq, qSet, qOwn, qRet, qIf, qNil, qFor, qApp, qExt, qPut, qRetOwn, qAlias, qAsg, qBrk, qCont, qDrop, qPop, fGet2, f1, f2, fV, fW, fC, fCons, fNil, fTup, fLst, fCall, fB, fAndB, fOrB, fNotB, fAndV, fOrV, fNotV, fIf, fChain, fIt, fLc, fYes, sN, sCons, sNil, wipeE, itemsH, lstH, lenH, ixP0, ixP1, ixP2, ixP3, ixP4, ixW0, ixW1, ixW2, ixW3, ixF0, ixF1, ixK0, ixK1, ixK2, ixT0, ixT1, ixT2, ixT3, ixL0, lenD_l, lenD_t, lenD_s, lstD_l, lstD_t, tupD_l, tupD_t, itemsD_l, itemsD_t, addD_i, addD_s, addD_t, subD_i, catD_l, intD_i, intD_b, isND_n, notND_n, isNone_n, isNone_s, isNone_i, isNone_b, isNone_l, isNone_t, isNone_p, isNone_o, modD_i, fdivD_i, timesD_t, min2_i, max2_i, negD_i, asB_b, Option.bind_some, Option.map_some, List.map_cons, List.map_nil, List.length_cons, List.length_nil, List.replicate, List.append_nil, List.getElem?_cons_zero, List.getElem?_cons_succ, eqD_O, neD_O, eqD_int, neD_int, eqD_str, neD_str, ltD_int, gtD_int, leD_int, geD_int, sizeLine_eq, List.set_cons_zero, List.set_cons_succ, seqD_l, seqD_t, sTup_t]
      rw [c2']
      simp only [Option.map_some, Option.bind_some]
      simp [bodyD, startE, qSeq, qSet, qOwn, qRet, qIf, qNil, qFor, qApp, qExt, qPut, qRetOwn, qAlias, qAsg, qBrk, qCont, qDrop, qPop, fGet2, f1, f2, fV, fW, fC, fCons, fNil, fTup, fLst, fCall, fB, fAndB, fOrB, fNotB, fAndV, fOrV, fNotV, fIf, fChain, fIt, fLc, fYes, sN, sCons, sNil, wipeE, itemsH, lstH, lenH, ixP0, ixP1, ixP2, ixP3, ixP4, ixW0, ixW1, ixW2, ixW3, ixF0, ixF1, ixK0, ixK1, ixK2, ixT0, ixT1, ixT2, ixT3, ixL0, lenD_l, lenD_t, lenD_s, lstD_l, lstD_t, tupD_l, tupD_t, itemsD_l, itemsD_t, addD_i, addD_s, addD_t, subD_i, catD_l, intD_i, intD_b, isND_n, notND_n, isNone_n, isNone_s, isNone_i, isNone_b, isNone_l, isNone_t, isNone_p, isNone_o, modD_i, fdivD_i, timesD_t, min2_i, max2_i, negD_i, asB_b, Option.bind_some, Option.map_some, List.map_cons, List.map_nil, List.length_cons, List.length_nil, List.replicate, List.append_nil, List.getElem?_cons_zero, List.getElem?_cons_succ, eqD_O, neD_O, eqD_int, neD_int, eqD_str, neD_str, ltD_int, gtD_int, leD_int, geD_int, sizeLine_eq, List.set_cons_zero, List.set_cons_succ, seqD_l, seqD_t, sTup_t, eB, toKey]
      rw [if_pos (by omega)]
      simp only [Option.bind_some]
      simp [eB] at hput
      rw [hput]
  obtain ⟨_, k1, j1, j2, j3, j4, rfl⟩ := key (stand h) [] rfl .un .un .un .un
  simp [m_givers, g_givers, bodyD, startE, qSeq, qSet, qOwn, qRet, qIf, qNil, qFor, qApp, qExt, qPut, qRetOwn, qAlias, qAsg, qBrk, qCont, qDrop, qPop, fGet2, f1, f2, fV, fW, fC, fCons, fNil, fTup, fLst, fCall, fB, fAndB, fOrB, fNotB, fAndV, fOrV, fNotV, fIf, fChain, fIt, fLc, fYes, sN, sCons, sNil, wipeE, itemsH, lstH, lenH, ixP0, ixP1, ixP2, ixP3, ixP4, ixW0, ixW1, ixW2, ixW3, ixF0, ixF1, ixK0, ixK1, ixK2, ixT0, ixT1, ixT2, ixT3, ixL0, lenD_l, lenD_t, lenD_s, lstD_l, lstD_t, tupD_l, tupD_t, itemsD_l, itemsD_t, addD_i, addD_s, addD_t, subD_i, catD_l, intD_i, intD_b, isND_n, notND_n, isNone_n, isNone_s, isNone_i, isNone_b, isNone_l, isNone_t, isNone_p, isNone_o, modD_i, fdivD_i, timesD_t, min2_i, max2_i, negD_i, asB_b, Option.bind_some, Option.map_some, List.map_cons, List.map_nil, List.length_cons, List.length_nil, List.replicate, List.append_nil, List.getElem?_cons_zero, List.getElem?_cons_succ, eqD_O, neD_O, eqD_int, neD_int, eqD_str, neD_str, ltD_int, gtD_int, leD_int, geD_int, sizeLine_eq, List.set_cons_zero, List.set_cons_succ, seqD_l, seqD_t, sTup_t, h1, eB] at k1 ⊢
  rw [k1]; rfl
/-! ### the order -/
def ready (b : Book) (found : List Str) : List Str := (b.filter fun x => !decide (x.1 ∈ found) && x.2.all fun y => decide (y ∈ found)).map (·.1)
def orderStep (b : Book) (found : List Str) : List Str := match ready b found with
  | [] => found
  | x :: _ => found ++ [x]
def orderB (b : Book) : List Str := b.foldl (fun f _ => orderStep b f) []
def order (h : House) : List Str := orderB (giversBook h)
theorem boolsD_map {α : Type} (g : α → Bool) : ∀ xs : List α, boolsD (xs.map fun x => .bool (g x)) = some (xs.map g)
  | [] => rfl
  | x :: xs => by rw [List.map_cons, boolsD, boolsD_map g xs]; rfl
theorem allD_map {α : Type} (g : α → Bool) (xs : List α) : allD (.list (xs.map fun x => .bool (g x))) = some (.bool (xs.all g)) := by
  show (boolsD _).map _ = _
  rw [boolsD_map]
  simp [List.all_map]
theorem keysOk_book (b : Book) (hb : ∀ x ∈ b, x.1.length ≤ 1000) : keysOk (b.map fun x => ((.str x.1 : D), (.list (x.2.map eS) : D))) = true := by
  unfold keysOk
  rw [List.all_map, List.all_eq_true]
  intro x hx
  have := hb x hx
  exact decide_eq_true (by rw [sizeLine_eq]; omega)
theorem keys_book (b : Book) (hb : ∀ x ∈ b, x.1.length ≤ 1000) (env : Env) (f : Env → Option D) (hf : f env = some (eB b)) : fKeys f env = some (b.map fun x => eS x.1) := by
  unfold fKeys
  rw [hf]
  show (if keysOk _ = true then some _ else none) = _
  rw [if_pos (keysOk_book b hb), List.map_map]; rfl
theorem look_mem {b : Book} (nd : (b.map (·.1)).Nodup) {x : Str × List Str} (hx : x ∈ b) : look b x.1 = some x.2 := by
  induction b with
  | nil => cases hx
  | cons y b ih =>
    rw [List.map_cons, List.nodup_cons] at nd
    rw [look]
    rcases List.mem_cons.mp hx with rfl | hx
    · rw [if_pos rfl]
    · rw [if_neg (fun z => nd.1 (by rw [z]; exact List.mem_map.mpr ⟨x, hx, rfl⟩))]
      exact ih nd.2 hx
theorem ixD_book (b : Book) (n : Str) : ixD (eB b) (.str n) = (look b n).map fun l => .list (l.map eS) := getKV_book b n
theorem inL_S (xs : List Str) (a : Str) : inD (.str a) (.list (xs.map eS)) = some (.bool (decide (a ∈ xs))) := inD_lst eS eqv_eS plain_eS (fun a => Nat.le_trans (depth_eS a) (by omega)) xs a
theorem notInL_S (xs : List Str) (a : Str) : notInD (.str a) (.list (xs.map eS)) = some (.bool (!decide (a ∈ xs))) := notInD_lst eS eqv_eS plain_eS (fun a => Nat.le_trans (depth_eS a) (by omega)) xs a
theorem inT_S (xs : List Str) (a : Str) : inD (.str a) (.tuple (xs.map eS)) = some (.bool (decide (a ∈ xs))) := inD_tup eS eqv_eS plain_eS (fun a => Nat.le_trans (depth_eS a) (by omega)) xs a
theorem notInT_S (xs : List Str) (a : Str) : notInD (.str a) (.tuple (xs.map eS)) = some (.bool (!decide (a ∈ xs))) := notInD_tup eS eqv_eS plain_eS (fun a => Nat.le_trans (depth_eS a) (by omega)) xs a
/-- one turn of the order's loop -/
theorem ev_order_body (b : Book) (nd : (b.map (·.1)).Nodup) (hb : ∀ x ∈ b, x.1.length ≤ 1000) (a : Slot) (found : List Str) (j1 j2 j3 j4 : Slot) (hl : found.length < 10000) :
    ∃ j, lb_order_2 [a, .dat (eB b), .own (.list (found.map eS)), j1, j2, j3, j4] = some (.next [a, .dat (eB b), .own (.list ((orderStep b found).map eS)), j1, j, j3, j4]) := by
  have c1 : compL (sN 5) ct_order_1 (fV 5) (wipeE [a, .dat (eB b), .own (.list (found.map eS)), j1, j2, j3, j4] [5]) (b.map fun x => eS x.1) = some ((ready b found).map eS) := by
    rw [ready, List.map_map]
    refine compL_map (fun x : Str × List Str => eS x.1) (fun x => !decide (x.1 ∈ found) && x.2.all fun y => decide (y ∈ found)) _ b fun x hx => ⟨_, rfl, ?_, fun _ => rfl⟩
    have c2 : compL (sN 6) fYes ce_order_0 (wipeE [a, .dat (eB b), .own (.list (found.map eS)), j1, j2, .dat (eS x.1), j4] [6]) (x.2.map eS) = some ((x.2.filter fun _ => true).map fun y => .bool (decide (y ∈ found))) :=
      compL_map eS _ _ _ fun y hy => ⟨_, rfl, rfl, fun _ => by simp [ce_order_0, bodyD, startE, qSeq, qSet, qOwn, qRet, qIf, qNil, qFor, qApp, qExt, qPut, qRetOwn, qAlias, qAsg, qBrk, qCont, qDrop, qPop, fGet2, f1, f2, fV, fW, fC, fCons, fNil, fTup, fLst, fCall, fB, fAndB, fOrB, fNotB, fAndV, fOrV, fNotV, fIf, fChain, fIt, fLc, fYes, sN, sCons, sNil, wipeE, itemsH, lstH, lenH, ixP0, ixP1, ixP2, ixP3, ixP4, ixW0, ixW1, ixW2, ixW3, ixF0, ixF1, ixK0, ixK1, ixK2, ixT0, ixT1, ixT2, ixT3, ixL0, lenD_l, lenD_t, lenD_s, lstD_l, lstD_t, tupD_l, tupD_t, itemsD_l, itemsD_t, addD_i, addD_s, addD_t, subD_i, catD_l, intD_i, intD_b, isND_n, notND_n, isNone_n, isNone_s, isNone_i, isNone_b, isNone_l, isNone_t, isNone_p, isNone_o, modD_i, fdivD_i, timesD_t, min2_i, max2_i, negD_i, asB_b, Option.bind_some, Option.map_some, List.map_cons, List.map_nil, List.length_cons, List.length_nil, List.replicate, List.append_nil, List.getElem?_cons_zero, List.getElem?_cons_succ, eqD_O, neD_O, eqD_int, neD_int, eqD_str, neD_str, ltD_int, gtD_int, leD_int, geD_int, sizeLine_eq, List.set_cons_zero, List.set_cons_succ, seqD_l, seqD_t, sTup_t, eS, inL_S]⟩
    rw [filter_true] at c2
    have h1 := look_mem nd hx
    have h2 := allD_map (fun y => decide (y ∈ found)) x.2
    by_cases h3 : x.1 ∈ found
    · simp [ct_order_1, bodyD, startE, qSeq, qSet, qOwn, qRet, qIf, qNil, qFor, qApp, qExt, qPut, qRetOwn, qAlias, qAsg, qBrk, qCont, qDrop, qPop, fGet2, f1, f2, fV, fW, fC, fCons, fNil, fTup, fLst, fCall, fB, fAndB, fOrB, fNotB, fAndV, fOrV, fNotV, fIf, fChain, fIt, fLc, fYes, sN, sCons, sNil, wipeE, itemsH, lstH, lenH, ixP0, ixP1, ixP2, ixP3, ixP4, ixW0, ixW1, ixW2, ixW3, ixF0, ixF1, ixK0, ixK1, ixK2, ixT0, ixT1, ixT2, ixT3, ixL0, lenD_l, lenD_t, lenD_s, lstD_l, lstD_t, tupD_l, tupD_t, itemsD_l, itemsD_t, addD_i, addD_s, addD_t, subD_i, catD_l, intD_i, intD_b, isND_n, notND_n, isNone_n, isNone_s, isNone_i, isNone_b, isNone_l, isNone_t, isNone_p, isNone_o, modD_i, fdivD_i, timesD_t, min2_i, max2_i, negD_i, asB_b, Option.bind_some, Option.map_some, List.map_cons, List.map_nil, List.length_cons, List.length_nil, List.replicate, List.append_nil, List.getElem?_cons_zero, List.getElem?_cons_succ, eqD_O, neD_O, eqD_int, neD_int, eqD_str, neD_str, ltD_int, gtD_int, leD_int, geD_int, sizeLine_eq, List.set_cons_zero, List.set_cons_succ, seqD_l, seqD_t, sTup_t, eS, notInL_S, h3]
    · simp [bodyD, startE, qSeq, qSet, qOwn, qRet, qIf, qNil, qFor, qApp, qExt, qPut, qRetOwn, qAlias, qAsg, qBrk, qCont, qDrop, qPop, fGet2, f1, f2, fV, fW, fC, fCons, fNil, fTup, fLst, fCall, fB, fAndB, fOrB, fNotB, fAndV, fOrV, fNotV, fIf, fChain, fIt, fLc, fYes, sN, sCons, sNil, wipeE, itemsH, lstH, lenH, ixP0, ixP1, ixP2, ixP3, ixP4, ixW0, ixW1, ixW2, ixW3, ixF0, ixF1, ixK0, ixK1, ixK2, ixT0, ixT1, ixT2, ixT3, ixL0, lenD_l, lenD_t, lenD_s, lstD_l, lstD_t, tupD_l, tupD_t, itemsD_l, itemsD_t, addD_i, addD_s, addD_t, subD_i, catD_l, intD_i, intD_b, isND_n, notND_n, isNone_n, isNone_s, isNone_i, isNone_b, isNone_l, isNone_t, isNone_p, isNone_o, modD_i, fdivD_i, timesD_t, min2_i, max2_i, negD_i, asB_b, Option.bind_some, Option.map_some, List.map_cons, List.map_nil, List.length_cons, List.length_nil, List.replicate, List.append_nil, List.getElem?_cons_zero, List.getElem?_cons_succ, eqD_O, neD_O, eqD_int, neD_int, eqD_str, neD_str, ltD_int, gtD_int, leD_int, geD_int, sizeLine_eq, List.set_cons_zero, List.set_cons_succ, seqD_l, seqD_t, sTup_t, eS] at c2
      simp [ct_order_1, bodyD, startE, qSeq, qSet, qOwn, qRet, qIf, qNil, qFor, qApp, qExt, qPut, qRetOwn, qAlias, qAsg, qBrk, qCont, qDrop, qPop, fGet2, f1, f2, fV, fW, fC, fCons, fNil, fTup, fLst, fCall, fB, fAndB, fOrB, fNotB, fAndV, fOrV, fNotV, fIf, fChain, fIt, fLc, fYes, sN, sCons, sNil, wipeE, itemsH, lstH, lenH, ixP0, ixP1, ixP2, ixP3, ixP4, ixW0, ixW1, ixW2, ixW3, ixF0, ixF1, ixK0, ixK1, ixK2, ixT0, ixT1, ixT2, ixT3, ixL0, lenD_l, lenD_t, lenD_s, lstD_l, lstD_t, tupD_l, tupD_t, itemsD_l, itemsD_t, addD_i, addD_s, addD_t, subD_i, catD_l, intD_i, intD_b, isND_n, notND_n, isNone_n, isNone_s, isNone_i, isNone_b, isNone_l, isNone_t, isNone_p, isNone_o, modD_i, fdivD_i, timesD_t, min2_i, max2_i, negD_i, asB_b, Option.bind_some, Option.map_some, List.map_cons, List.map_nil, List.length_cons, List.length_nil, List.replicate, List.append_nil, List.getElem?_cons_zero, List.getElem?_cons_succ, eqD_O, neD_O, eqD_int, neD_int, eqD_str, neD_str, ltD_int, gtD_int, leD_int, geD_int, sizeLine_eq, List.set_cons_zero, List.set_cons_succ, seqD_l, seqD_t, sTup_t, eS, notInL_S, h3, ixD_book, h1, c2, h2]
  have h4 := keys_book b hb
  refine ⟨.dat (.list ((ready b found).map eS)), ?_⟩
  have hk : fKeys (fV 1) [a, .dat (eB b), .own (.list (found.map eS)), j1, j2, j3, j4] = some (b.map fun x => eS x.1) := h4 _ _ rfl
  cases hr : ready b found with
  | nil =>
    rw [hr] at c1
    simp only [lb_order_2, bodyD, startE, qSeq, qSet, qOwn, qRet, qIf, qNil, qFor, qApp, qExt, qPut, qRetOwn, qAlias, qAsg, qBrk, qCont, qDrop, qPop, fGet2, f1, f2, fV, fW, fC, fCons, fNil, fTup, fLst, fCall, fB, fAndB, fOrB, fNotB, fAndV, fOrV, fNotV, fIf, fChain, fIt, fLc, fYes, sN, sCons, sNil, wipeE, itemsH, lstH, lenH, ixP0, ixP1, ixP2, ixP3, ixP4, ixW0, ixW1, ixW2, ixW3, ixF0, ixF1, ixK0, ixK1, ixK2, ixT0, ixT1, ixT2, ixT3, ixL0, lenD_l, lenD_t, lenD_s, lstD_l, lstD_t, tupD_l, tupD_t, itemsD_l, itemsD_t, addD_i, addD_s, addD_t, subD_i, catD_l, intD_i, intD_b, isND_n, notND_n, isNone_n, isNone_s, isNone_i, isNone_b, isNone_l, isNone_t, isNone_p, isNone_o, modD_i, fdivD_i, timesD_t, min2_i, max2_i, negD_i, asB_b, Option.bind_some, Option.map_some, List.map_cons, List.map_nil, List.length_cons, List.length_nil, List.replicate, List.append_nil, List.getElem?_cons_zero, List.getElem?_cons_succ, eqD_O, neD_O, eqD_int, neD_int, eqD_str, neD_str, ltD_int, gtD_int, leD_int, geD_int, sizeLine_eq, List.set_cons_zero, List.set_cons_succ, seqD_l, seqD_t, sTup_t] at c1 ⊢
    simp [hk, c1, bodyD, startE, qSeq, qSet, qOwn, qRet, qIf, qNil, qFor, qApp, qExt, qPut, qRetOwn, qAlias, qAsg, qBrk, qCont, qDrop, qPop, fGet2, f1, f2, fV, fW, fC, fCons, fNil, fTup, fLst, fCall, fB, fAndB, fOrB, fNotB, fAndV, fOrV, fNotV, fIf, fChain, fIt, fLc, fYes, sN, sCons, sNil, wipeE, itemsH, lstH, lenH, ixP0, ixP1, ixP2, ixP3, ixP4, ixW0, ixW1, ixW2, ixW3, ixF0, ixF1, ixK0, ixK1, ixK2, ixT0, ixT1, ixT2, ixT3, ixL0, lenD_l, lenD_t, lenD_s, lstD_l, lstD_t, tupD_l, tupD_t, itemsD_l, itemsD_t, addD_i, addD_s, addD_t, subD_i, catD_l, intD_i, intD_b, isND_n, notND_n, isNone_n, isNone_s, isNone_i, isNone_b, isNone_l, isNone_t, isNone_p, isNone_o, modD_i, fdivD_i, timesD_t, min2_i, max2_i, negD_i, asB_b, Option.bind_some, Option.map_some, List.map_cons, List.map_nil, List.length_cons, List.length_nil, List.replicate, List.append_nil, List.getElem?_cons_zero, List.getElem?_cons_succ, eqD_O, neD_O, eqD_int, neD_int, eqD_str, neD_str, ltD_int, gtD_int, leD_int, geD_int, sizeLine_eq, List.set_cons_zero, List.set_cons_succ, seqD_l, seqD_t, sTup_t, orderStep, hr]
  | cons x r =>
    rw [hr] at c1
    simp only [lb_order_2, bodyD, startE, qSeq, qSet, qOwn, qRet, qIf, qNil, qFor, qApp, qExt, qPut, qRetOwn, qAlias, qAsg, qBrk, qCont, qDrop, qPop, fGet2, f1, f2, fV, fW, fC, fCons, fNil, fTup, fLst, fCall, fB, fAndB, fOrB, fNotB, fAndV, fOrV, fNotV, fIf, fChain, fIt, fLc, fYes, sN, sCons, sNil, wipeE, itemsH, lstH, lenH, ixP0, ixP1, ixP2, ixP3, ixP4, ixW0, ixW1, ixW2, ixW3, ixF0, ixF1, ixK0, ixK1, ixK2, ixT0, ixT1, ixT2, ixT3, ixL0, lenD_l, lenD_t, lenD_s, lstD_l, lstD_t, tupD_l, tupD_t, itemsD_l, itemsD_t, addD_i, addD_s, addD_t, subD_i, catD_l, intD_i, intD_b, isND_n, notND_n, isNone_n, isNone_s, isNone_i, isNone_b, isNone_l, isNone_t, isNone_p, isNone_o, modD_i, fdivD_i, timesD_t, min2_i, max2_i, negD_i, asB_b, Option.bind_some, Option.map_some, List.map_cons, List.map_nil, List.length_cons, List.length_nil, List.replicate, List.append_nil, List.getElem?_cons_zero, List.getElem?_cons_succ, eqD_O, neD_O, eqD_int, neD_int, eqD_str, neD_str, ltD_int, gtD_int, leD_int, geD_int, sizeLine_eq, List.set_cons_zero, List.set_cons_succ, seqD_l, seqD_t, sTup_t] at c1 ⊢
    simp [hk, c1, bodyD, startE, qSeq, qSet, qOwn, qRet, qIf, qNil, qFor, qApp, qExt, qPut, qRetOwn, qAlias, qAsg, qBrk, qCont, qDrop, qPop, fGet2, f1, f2, fV, fW, fC, fCons, fNil, fTup, fLst, fCall, fB, fAndB, fOrB, fNotB, fAndV, fOrV, fNotV, fIf, fChain, fIt, fLc, fYes, sN, sCons, sNil, wipeE, itemsH, lstH, lenH, ixP0, ixP1, ixP2, ixP3, ixP4, ixW0, ixW1, ixW2, ixW3, ixF0, ixF1, ixK0, ixK1, ixK2, ixT0, ixT1, ixT2, ixT3, ixL0, lenD_l, lenD_t, lenD_s, lstD_l, lstD_t, tupD_l, tupD_t, itemsD_l, itemsD_t, addD_i, addD_s, addD_t, subD_i, catD_l, intD_i, intD_b, isND_n, notND_n, isNone_n, isNone_s, isNone_i, isNone_b, isNone_l, isNone_t, isNone_p, isNone_o, modD_i, fdivD_i, timesD_t, min2_i, max2_i, negD_i, asB_b, Option.bind_some, Option.map_some, List.map_cons, List.map_nil, List.length_cons, List.length_nil, List.replicate, List.append_nil, List.getElem?_cons_zero, List.getElem?_cons_succ, eqD_O, neD_O, eqD_int, neD_int, eqD_str, neD_str, ltD_int, gtD_int, leD_int, geD_int, sizeLine_eq, List.set_cons_zero, List.set_cons_succ, seqD_l, seqD_t, sTup_t, orderStep, hr]
    omega
/-- a book in order: keys once, short; few -/
structure BOk (b : Book) : Prop where
  nd : (b.map (·.1)).Nodup
  short : ∀ x ∈ b, x.1.length ≤ 1000
  len : b.length ≤ 100
  row : ∀ x ∈ b, x.2.length ≤ 100
theorem lstD_book (b : Book) (hb : ∀ x ∈ b, x.1.length ≤ 1000) : lstD' (eB b) = some (.list (b.map fun x => eS x.1)) := by
  show (if keysOk _ = true then some _ else none) = _
  rw [if_pos (keysOk_book b hb), List.map_map]; rfl
theorem orderStep_len (b : Book) (f : List Str) : (orderStep b f).length ≤ f.length + 1 := by
  unfold orderStep; split
  · omega
  · rw [List.length_append]; exact Nat.le_refl _
theorem ev_order_loop (b : Book) (ok : BOk b) (a : Slot) : ∃ env', loopS (sN 3) lb_order_2 (b.map fun x => eS x.1) [a, .dat (eB b), .own (.list []), .un, .un, .un, .un] = some (.next env') ∧
    ((∃ j1 j2 j3 j4, env' = [a, .dat (eB b), .own (.list ((orderB b).map eS)), j1, j2, j3, j4]) ∧ (orderB b).length ≤ 0 + b.length) := by
  refine loopS_foldN (fun x : Str × List Str => eS x.1) (fun i (s : List Str) env => (∃ j1 j2 j3 j4, env = [a, .dat (eB b), .own (.list (s.map eS)), j1, j2, j3, j4]) ∧ s.length ≤ i) (fun f _ => orderStep b f) b 0 ?_ [] _ ⟨⟨_, _, _, _, rfl⟩, Nat.le_refl _⟩
  rintro x hx j s _ ⟨⟨j1, j2, j3, j4, rfl⟩, hs⟩ hj
  have := ok.len
  obtain ⟨j', h1⟩ := ev_order_body b ok.nd ok.short a s (.dat (eS x.1)) j2 j3 j4 (by omega)
  exact ⟨_, _, rfl, .inl h1, ⟨_, _, _, _, rfl⟩, by have := orderStep_len b s; omega⟩
theorem ev_order (h : House) (hg : m_givers [eH h] = some (eB (giversBook h))) (ok : BOk (giversBook h)) : m_order [eH h] = some (.tuple ((order h).map eS)) := by
  obtain ⟨_, k1, ⟨j1, j2, j3, j4, rfl⟩, _⟩ := ev_order_loop (giversBook h) ok (.dat (eH h))
  have h2 := lstD_book (giversBook h) ok.short
  unfold order
  simp [m_order, g_order, bodyD, startE, qSeq, qSet, qOwn, qRet, qIf, qNil, qFor, qApp, qExt, qPut, qRetOwn, qAlias, qAsg, qBrk, qCont, qDrop, qPop, fGet2, f1, f2, fV, fW, fC, fCons, fNil, fTup, fLst, fCall, fB, fAndB, fOrB, fNotB, fAndV, fOrV, fNotV, fIf, fChain, fIt, fLc, fYes, sN, sCons, sNil, wipeE, itemsH, lstH, lenH, ixP0, ixP1, ixP2, ixP3, ixP4, ixW0, ixW1, ixW2, ixW3, ixF0, ixF1, ixK0, ixK1, ixK2, ixT0, ixT1, ixT2, ixT3, ixL0, lenD_l, lenD_t, lenD_s, lstD_l, lstD_t, tupD_l, tupD_t, itemsD_l, itemsD_t, addD_i, addD_s, addD_t, subD_i, catD_l, intD_i, intD_b, isND_n, notND_n, isNone_n, isNone_s, isNone_i, isNone_b, isNone_l, isNone_t, isNone_p, isNone_o, modD_i, fdivD_i, timesD_t, min2_i, max2_i, negD_i, asB_b, Option.bind_some, Option.map_some, List.map_cons, List.map_nil, List.length_cons, List.length_nil, List.replicate, List.append_nil, List.getElem?_cons_zero, List.getElem?_cons_succ, eqD_O, neD_O, eqD_int, neD_int, eqD_str, neD_str, ltD_int, gtD_int, leD_int, geD_int, sizeLine_eq, List.set_cons_zero, List.set_cons_succ, seqD_l, seqD_t, sTup_t, hg, h2, k1]
def stuck (h : House) : List Str := ((giversBook h).map (·.1)).filter fun n => !decide (n ∈ order h)
theorem ev_stuck (h : House) (hg : m_givers [eH h] = some (eB (giversBook h))) (ok : BOk (giversBook h)) : m_stuck [eH h] = some (.tuple ((stuck h).map eS)) := by
  have h1 := ev_order h hg ok
  have c1 : compL (sN 2) ct_stuck_0 (fV 2) (wipeE [.dat (eH h), .dat (.tuple ((order h).map eS)), .un] [2]) (((giversBook h).map (·.1)).map eS) = some ((stuck h).map eS) :=
    compL_map eS _ _ _ fun n hn => ⟨_, rfl, by simp [ct_stuck_0, bodyD, startE, qSeq, qSet, qOwn, qRet, qIf, qNil, qFor, qApp, qExt, qPut, qRetOwn, qAlias, qAsg, qBrk, qCont, qDrop, qPop, fGet2, f1, f2, fV, fW, fC, fCons, fNil, fTup, fLst, fCall, fB, fAndB, fOrB, fNotB, fAndV, fOrV, fNotV, fIf, fChain, fIt, fLc, fYes, sN, sCons, sNil, wipeE, itemsH, lstH, lenH, ixP0, ixP1, ixP2, ixP3, ixP4, ixW0, ixW1, ixW2, ixW3, ixF0, ixF1, ixK0, ixK1, ixK2, ixT0, ixT1, ixT2, ixT3, ixL0, lenD_l, lenD_t, lenD_s, lstD_l, lstD_t, tupD_l, tupD_t, itemsD_l, itemsD_t, addD_i, addD_s, addD_t, subD_i, catD_l, intD_i, intD_b, isND_n, notND_n, isNone_n, isNone_s, isNone_i, isNone_b, isNone_l, isNone_t, isNone_p, isNone_o, modD_i, fdivD_i, timesD_t, min2_i, max2_i, negD_i, asB_b, Option.bind_some, Option.map_some, List.map_cons, List.map_nil, List.length_cons, List.length_nil, List.replicate, List.append_nil, List.getElem?_cons_zero, List.getElem?_cons_succ, eqD_O, neD_O, eqD_int, neD_int, eqD_str, neD_str, ltD_int, gtD_int, leD_int, geD_int, sizeLine_eq, List.set_cons_zero, List.set_cons_succ, seqD_l, seqD_t, sTup_t, eS, notInT_S], fun _ => rfl⟩
  have hk := keys_book (giversBook h) ok.short [.dat (eH h), .dat (.tuple ((order h).map eS)), .un] (fCall m_givers 1 (fCons (fV 0) fNil)) (by simp [bodyD, startE, qSeq, qSet, qOwn, qRet, qIf, qNil, qFor, qApp, qExt, qPut, qRetOwn, qAlias, qAsg, qBrk, qCont, qDrop, qPop, fGet2, f1, f2, fV, fW, fC, fCons, fNil, fTup, fLst, fCall, fB, fAndB, fOrB, fNotB, fAndV, fOrV, fNotV, fIf, fChain, fIt, fLc, fYes, sN, sCons, sNil, wipeE, itemsH, lstH, lenH, ixP0, ixP1, ixP2, ixP3, ixP4, ixW0, ixW1, ixW2, ixW3, ixF0, ixF1, ixK0, ixK1, ixK2, ixT0, ixT1, ixT2, ixT3, ixL0, lenD_l, lenD_t, lenD_s, lstD_l, lstD_t, tupD_l, tupD_t, itemsD_l, itemsD_t, addD_i, addD_s, addD_t, subD_i, catD_l, intD_i, intD_b, isND_n, notND_n, isNone_n, isNone_s, isNone_i, isNone_b, isNone_l, isNone_t, isNone_p, isNone_o, modD_i, fdivD_i, timesD_t, min2_i, max2_i, negD_i, asB_b, Option.bind_some, Option.map_some, List.map_cons, List.map_nil, List.length_cons, List.length_nil, List.replicate, List.append_nil, List.getElem?_cons_zero, List.getElem?_cons_succ, eqD_O, neD_O, eqD_int, neD_int, eqD_str, neD_str, ltD_int, gtD_int, leD_int, geD_int, sizeLine_eq, List.set_cons_zero, List.set_cons_succ, seqD_l, seqD_t, sTup_t, hg])
  rw [List.map_map] at c1
  simp only [bodyD, startE, qSeq, qSet, qOwn, qRet, qIf, qNil, qFor, qApp, qExt, qPut, qRetOwn, qAlias, qAsg, qBrk, qCont, qDrop, qPop, fGet2, f1, f2, fV, fW, fC, fCons, fNil, fTup, fLst, fCall, fB, fAndB, fOrB, fNotB, fAndV, fOrV, fNotV, fIf, fChain, fIt, fLc, fYes, sN, sCons, sNil, wipeE, itemsH, lstH, lenH, ixP0, ixP1, ixP2, ixP3, ixP4, ixW0, ixW1, ixW2, ixW3, ixF0, ixF1, ixK0, ixK1, ixK2, ixT0, ixT1, ixT2, ixT3, ixL0, lenD_l, lenD_t, lenD_s, lstD_l, lstD_t, tupD_l, tupD_t, itemsD_l, itemsD_t, addD_i, addD_s, addD_t, subD_i, catD_l, intD_i, intD_b, isND_n, notND_n, isNone_n, isNone_s, isNone_i, isNone_b, isNone_l, isNone_t, isNone_p, isNone_o, modD_i, fdivD_i, timesD_t, min2_i, max2_i, negD_i, asB_b, Option.bind_some, Option.map_some, List.map_cons, List.map_nil, List.length_cons, List.length_nil, List.replicate, List.append_nil, List.getElem?_cons_zero, List.getElem?_cons_succ, eqD_O, neD_O, eqD_int, neD_int, eqD_str, neD_str, ltD_int, gtD_int, leD_int, geD_int, sizeLine_eq, List.set_cons_zero, List.set_cons_succ, seqD_l, seqD_t, sTup_t] at c1 hk
  simp [m_stuck, g_stuck, bodyD, startE, qSeq, qSet, qOwn, qRet, qIf, qNil, qFor, qApp, qExt, qPut, qRetOwn, qAlias, qAsg, qBrk, qCont, qDrop, qPop, fGet2, f1, f2, fV, fW, fC, fCons, fNil, fTup, fLst, fCall, fB, fAndB, fOrB, fNotB, fAndV, fOrV, fNotV, fIf, fChain, fIt, fLc, fYes, sN, sCons, sNil, wipeE, itemsH, lstH, lenH, ixP0, ixP1, ixP2, ixP3, ixP4, ixW0, ixW1, ixW2, ixW3, ixF0, ixF1, ixK0, ixK1, ixK2, ixT0, ixT1, ixT2, ixT3, ixL0, lenD_l, lenD_t, lenD_s, lstD_l, lstD_t, tupD_l, tupD_t, itemsD_l, itemsD_t, addD_i, addD_s, addD_t, subD_i, catD_l, intD_i, intD_b, isND_n, notND_n, isNone_n, isNone_s, isNone_i, isNone_b, isNone_l, isNone_t, isNone_p, isNone_o, modD_i, fdivD_i, timesD_t, min2_i, max2_i, negD_i, asB_b, Option.bind_some, Option.map_some, List.map_cons, List.map_nil, List.length_cons, List.length_nil, List.replicate, List.append_nil, List.getElem?_cons_zero, List.getElem?_cons_succ, eqD_O, neD_O, eqD_int, neD_int, eqD_str, neD_str, ltD_int, gtD_int, leD_int, geD_int, sizeLine_eq, List.set_cons_zero, List.set_cons_succ, seqD_l, seqD_t, sTup_t, h1, hg] at hk c1 ⊢
  rw [hk, Option.bind_some]
  have c1' : compL (sN 2) ct_stuck_0 (fV 2) [.dat (eH h), .dat (.tuple ((order h).map eS)), .un] ((giversBook h).map fun x => eS x.1) = some ((stuck h).map eS) := c1
  simp [c1', bodyD, startE, qSeq, qSet, qOwn, qRet, qIf, qNil, qFor, qApp, qExt, qPut, qRetOwn, qAlias, qAsg, qBrk, qCont, qDrop, qPop, fGet2, f1, f2, fV, fW, fC, fCons, fNil, fTup, fLst, fCall, fB, fAndB, fOrB, fNotB, fAndV, fOrV, fNotV, fIf, fChain, fIt, fLc, fYes, sN, sCons, sNil, wipeE, itemsH, lstH, lenH, ixP0, ixP1, ixP2, ixP3, ixP4, ixW0, ixW1, ixW2, ixW3, ixF0, ixF1, ixK0, ixK1, ixK2, ixT0, ixT1, ixT2, ixT3, ixL0, lenD_l, lenD_t, lenD_s, lstD_l, lstD_t, tupD_l, tupD_t, itemsD_l, itemsD_t, addD_i, addD_s, addD_t, subD_i, catD_l, intD_i, intD_b, isND_n, notND_n, isNone_n, isNone_s, isNone_i, isNone_b, isNone_l, isNone_t, isNone_p, isNone_o, modD_i, fdivD_i, timesD_t, min2_i, max2_i, negD_i, asB_b, Option.bind_some, Option.map_some, List.map_cons, List.map_nil, List.length_cons, List.length_nil, List.replicate, List.append_nil, List.getElem?_cons_zero, List.getElem?_cons_succ, eqD_O, neD_O, eqD_int, neD_int, eqD_str, neD_str, ltD_int, gtD_int, leD_int, geD_int, sizeLine_eq, List.set_cons_zero, List.set_cons_succ, seqD_l, seqD_t, sTup_t]
/-! ### whom a part leans on -/
def leansN (b : Book) : Nat → List Str → List Str → List Str
  | 0, found, _ => found
  | n + 1, found, todo => match todo.getLast? with
    | none => found
    | some one => if one ∈ found then leansN b n found todo.dropLast else leansN b n (found ++ [one]) (todo.dropLast ++ (look b one).getD [])
/-- what is still to be pushed -/
def rest (b : Book) (found : List Str) : Nat := ((b.filter fun x => !decide (x.1 ∈ found)).map fun x => x.2.length + 1).sum
def leansB (b : Book) (n : Str) : List Str := sortT eS (leansN b 30000 [] ((look b n).getD []))
def leans (h : House) (n : Str) : List Str := leansB (giversBook h) n
theorem rest_cons (x : Str × List Str) (b : Book) (found : List Str) : rest (x :: b) found = (if x.1 ∈ found then 0 else x.2.length + 1) + rest b found := by
  unfold rest
  rw [List.filter_cons]
  by_cases h : x.1 ∈ found
  · simp [h]
  · simp [h]
theorem rest_mono (b : Book) (found : List Str) (n : Str) : rest b (found ++ [n]) ≤ rest b found := by
  induction b with
  | nil => exact Nat.le_refl _
  | cons x b ih =>
    rw [rest_cons, rest_cons]
    by_cases h : x.1 ∈ found
    · rw [if_pos (List.mem_append_left _ h), if_pos h]; omega
    · rw [if_neg h]; split <;> omega
theorem rest_drop {b : Book} {found : List Str} {n : Str} {r : List Str} (hn : n ∉ found) (hl : look b n = some r) : rest b (found ++ [n]) + r.length + 1 ≤ rest b found := by
  induction b with
  | nil => cases hl
  | cons x b ih =>
    rw [rest_cons, rest_cons]
    rw [look] at hl
    by_cases h : x.1 = n
    · rw [if_pos h] at hl
      cases hl
      rw [if_pos (by rw [h]; simp), if_neg (by rw [h]; exact hn)]
      have := rest_mono b found n
      omega
    · rw [if_neg h] at hl
      have ih := ih hl
      by_cases h2 : x.1 ∈ found
      · rw [if_pos (List.mem_append_left _ h2), if_pos h2]; omega
      · rw [if_neg (by rw [List.mem_append, not_or]; exact ⟨h2, by simpa using h⟩), if_neg h2]; omega
theorem rest_le (b : Book) (ok : BOk b) : rest b [] ≤ 101 * b.length := by
  have h1 : ∀ c : Book, (∀ x ∈ c, x.2.length ≤ 100) → rest c [] ≤ 101 * c.length := fun c => by
    induction c with
    | nil => intro _; exact Nat.le_refl _
    | cons x c ih =>
      intro hc
      have := ih fun y hy => hc y (List.mem_cons_of_mem _ hy)
      have h2 := hc x List.mem_cons_self
      rw [rest_cons, if_neg (by simp), List.length_cons]
      omega
  exact h1 b ok.row
theorem mem_look {b : Book} {n : Str} (h : n ∈ b.map (·.1)) : ∃ r, look b n = some r := by
  induction b with
  | nil => cases h
  | cons x b ih =>
    rw [look]
    by_cases e : x.1 = n
    · exact ⟨_, if_pos e⟩
    · rw [if_neg e]
      rw [List.map_cons, List.mem_cons] at h
      exact ih (h.resolve_left (Ne.symm e))
theorem look_in {b : Book} {n : Str} {r : List Str} (h : look b n = some r) : (n, r) ∈ b := by
  induction b with
  | nil => cases h
  | cons x b ih =>
    rw [look] at h
    by_cases e : x.1 = n
    · rw [if_pos e] at h; cases h; subst e; exact List.mem_cons_self
    · rw [if_neg e] at h; exact List.mem_cons_of_mem _ (ih h)
theorem getLast?_at {α : Type} (xs : List α) : xs.getLast? = xs[xs.length - 1]? := List.getLast?_eq_getElem?
theorem ev_leans_loop (b : Book) (ok : BOk b) (cl : ∀ x ∈ b, ∀ y ∈ x.2, y ∈ b.map (·.1)) (a a' : Slot) : ∀ (n m : Nat) (found todo : List Str) (j : Slot), todo.length + rest b found ≤ n → n < m → found.length + n ≤ 50000 → (∀ y ∈ todo, y ∈ b.map (·.1)) →
    ∃ j', whileS lc_leans_0 lb_leans_1 m [a, a', .dat (eB b), .own (.list (found.map eS)), .own (.list (todo.map eS)), j] = some (.next [a, a', .dat (eB b), .own (.list ((leansN b n found todo).map eS)), .own (.list []), j'])
  | n, 0, _, _, _, _, hm, _, _ => absurd hm (Nat.not_lt_zero _)
  | n, m + 1, found, todo, j, hn, hm, hf, ht => by
    rw [whileS]
    cases hg : todo.getLast? with
    | none =>
      have e := List.getLast?_eq_none_iff.mp hg
      subst e
      have e2 : leansN b n found [] = found := by cases n <;> rfl
      rw [e2]
      exact ⟨j, by simp [lc_leans_0, bodyD, startE, qSeq, qSet, qOwn, qRet, qIf, qNil, qFor, qApp, qExt, qPut, qRetOwn, qAlias, qAsg, qBrk, qCont, qDrop, qPop, fGet2, f1, f2, fV, fW, fC, fCons, fNil, fTup, fLst, fCall, fB, fAndB, fOrB, fNotB, fAndV, fOrV, fNotV, fIf, fChain, fIt, fLc, fYes, sN, sCons, sNil, wipeE, itemsH, lstH, lenH, ixP0, ixP1, ixP2, ixP3, ixP4, ixW0, ixW1, ixW2, ixW3, ixF0, ixF1, ixK0, ixK1, ixK2, ixT0, ixT1, ixT2, ixT3, ixL0, lenD_l, lenD_t, lenD_s, lstD_l, lstD_t, tupD_l, tupD_t, itemsD_l, itemsD_t, addD_i, addD_s, addD_t, subD_i, catD_l, intD_i, intD_b, isND_n, notND_n, isNone_n, isNone_s, isNone_i, isNone_b, isNone_l, isNone_t, isNone_p, isNone_o, modD_i, fdivD_i, timesD_t, min2_i, max2_i, negD_i, asB_b, Option.bind_some, Option.map_some, List.map_cons, List.map_nil, List.length_cons, List.length_nil, List.replicate, List.append_nil, List.getElem?_cons_zero, List.getElem?_cons_succ, eqD_O, neD_O, eqD_int, neD_int, eqD_str, neD_str, ltD_int, gtD_int, leD_int, geD_int, sizeLine_eq, List.set_cons_zero, List.set_cons_succ, seqD_l, seqD_t, sTup_t]⟩
    | some one =>
      have hne : todo ≠ [] := fun z => by rw [z] at hg; cases hg
      have hpos : 0 < todo.length := List.length_pos_iff.mpr hne
      have hmem : one ∈ todo := List.mem_of_getLast? hg
      cases n with
      | zero => omega
      | succ n =>
        have hat : todo[todo.length - 1]? = some one := by rw [← getLast?_at]; exact hg
        have hdl : todo.dropLast.length = todo.length - 1 := List.length_dropLast
        obtain ⟨r, hr⟩ := mem_look (ht one hmem)
        have hrow := ok.row _ (look_in hr)
        have ht' : ∀ y ∈ todo.dropLast, y ∈ b.map (·.1) := fun y hy => ht y (List.dropLast_subset _ hy)
        by_cases hin : one ∈ found
        · obtain ⟨j', ih⟩ := ev_leans_loop b ok cl a a' n m found todo.dropLast (.dat (eS one)) (by omega) (by omega) (by omega) ht'
          refine ⟨j', ?_⟩
          rw [leansN, hg]
          simp only [hin, if_true]
          rw [← ih]
          simp [lc_leans_0, lb_leans_1, bodyD, startE, qSeq, qSet, qOwn, qRet, qIf, qNil, qFor, qApp, qExt, qPut, qRetOwn, qAlias, qAsg, qBrk, qCont, qDrop, qPop, fGet2, f1, f2, fV, fW, fC, fCons, fNil, fTup, fLst, fCall, fB, fAndB, fOrB, fNotB, fAndV, fOrV, fNotV, fIf, fChain, fIt, fLc, fYes, sN, sCons, sNil, wipeE, itemsH, lstH, lenH, ixP0, ixP1, ixP2, ixP3, ixP4, ixW0, ixW1, ixW2, ixW3, ixF0, ixF1, ixK0, ixK1, ixK2, ixT0, ixT1, ixT2, ixT3, ixL0, lenD_l, lenD_t, lenD_s, lstD_l, lstD_t, tupD_l, tupD_t, itemsD_l, itemsD_t, addD_i, addD_s, addD_t, subD_i, catD_l, intD_i, intD_b, isND_n, notND_n, isNone_n, isNone_s, isNone_i, isNone_b, isNone_l, isNone_t, isNone_p, isNone_o, modD_i, fdivD_i, timesD_t, min2_i, max2_i, negD_i, asB_b, Option.bind_some, Option.map_some, List.map_cons, List.map_nil, List.length_cons, List.length_nil, List.replicate, List.append_nil, List.getElem?_cons_zero, List.getElem?_cons_succ, eqD_O, neD_O, eqD_int, neD_int, eqD_str, neD_str, ltD_int, gtD_int, leD_int, geD_int, sizeLine_eq, List.set_cons_zero, List.set_cons_succ, seqD_l, seqD_t, sTup_t, hpos, hat, eS, notInL_S, hin]
        · have hd := rest_drop hin hr
          have hrow' : r.length ≤ 100 := hrow
          obtain ⟨j', ih⟩ := ev_leans_loop b ok cl a a' n m (found ++ [one]) (todo.dropLast ++ r) (.dat (eS one)) (by rw [List.length_append]; omega) (by omega) (by rw [List.length_append, List.length_singleton]; omega) (fun y hy => (List.mem_append.mp hy).elim (ht' y) fun hy => cl _ (look_in hr) y hy)
          refine ⟨j', ?_⟩
          rw [leansN, hg]
          simp only [hin, if_false, hr, Option.getD_some]
          rw [← ih]
          have z1 : found.length < 16777216 := by omega
          have z2 : todo.length - 1 + r.length ≤ 16777216 := by omega
          simp [lc_leans_0, lb_leans_1, bodyD, startE, qSeq, qSet, qOwn, qRet, qIf, qNil, qFor, qApp, qExt, qPut, qRetOwn, qAlias, qAsg, qBrk, qCont, qDrop, qPop, fGet2, f1, f2, fV, fW, fC, fCons, fNil, fTup, fLst, fCall, fB, fAndB, fOrB, fNotB, fAndV, fOrV, fNotV, fIf, fChain, fIt, fLc, fYes, sN, sCons, sNil, wipeE, itemsH, lstH, lenH, ixP0, ixP1, ixP2, ixP3, ixP4, ixW0, ixW1, ixW2, ixW3, ixF0, ixF1, ixK0, ixK1, ixK2, ixT0, ixT1, ixT2, ixT3, ixL0, lenD_l, lenD_t, lenD_s, lstD_l, lstD_t, tupD_l, tupD_t, itemsD_l, itemsD_t, addD_i, addD_s, addD_t, subD_i, catD_l, intD_i, intD_b, isND_n, notND_n, isNone_n, isNone_s, isNone_i, isNone_b, isNone_l, isNone_t, isNone_p, isNone_o, modD_i, fdivD_i, timesD_t, min2_i, max2_i, negD_i, asB_b, Option.bind_some, Option.map_some, List.map_cons, List.map_nil, List.length_cons, List.length_nil, List.replicate, List.append_nil, List.getElem?_cons_zero, List.getElem?_cons_succ, eqD_O, neD_O, eqD_int, neD_int, eqD_str, neD_str, ltD_int, gtD_int, leD_int, geD_int, sizeLine_eq, List.set_cons_zero, List.set_cons_succ, seqD_l, seqD_t, sTup_t, hpos, hat, eS, notInL_S, hin, ixD_book, hr, z1, z2]
theorem ev_leans (h : House) (hg : m_givers [eH h] = some (eB (giversBook h))) (ok : BOk (giversBook h)) (cl : ∀ x ∈ giversBook h, ∀ y ∈ x.2, y ∈ (giversBook h).map (·.1)) (n : Str) (hn : n ∈ (giversBook h).map (·.1)) :
    m_leans [eH h, .str n] = some (.tuple ((leans h n).map eS)) := by
  obtain ⟨r, hr⟩ := mem_look hn
  have hin := look_in hr
  have h1 := ok.row _ hin
  have h1' : r.length ≤ 100 := h1
  have h2 := rest_le _ ok
  have h3 := ok.len
  obtain ⟨j', k1⟩ := ev_leans_loop (giversBook h) ok cl (.dat (eH h)) (.dat (.str n)) 30000 100000 [] r .un (by omega) (by omega) (by rw [List.length_nil]; omega) (fun y hy => cl _ hin y hy)
  have h4 := sortD_S (leansN (giversBook h) 30000 [] r)
  unfold leans leansB
  rw [hr, Option.getD_some]
  simp [m_leans, g_leans, bodyD, startE, qSeq, qSet, qOwn, qRet, qIf, qNil, qFor, qApp, qExt, qPut, qRetOwn, qAlias, qAsg, qBrk, qCont, qDrop, qPop, fGet2, f1, f2, fV, fW, fC, fCons, fNil, fTup, fLst, fCall, fB, fAndB, fOrB, fNotB, fAndV, fOrV, fNotV, fIf, fChain, fIt, fLc, fYes, sN, sCons, sNil, wipeE, itemsH, lstH, lenH, ixP0, ixP1, ixP2, ixP3, ixP4, ixW0, ixW1, ixW2, ixW3, ixF0, ixF1, ixK0, ixK1, ixK2, ixT0, ixT1, ixT2, ixT3, ixL0, lenD_l, lenD_t, lenD_s, lstD_l, lstD_t, tupD_l, tupD_t, itemsD_l, itemsD_t, addD_i, addD_s, addD_t, subD_i, catD_l, intD_i, intD_b, isND_n, notND_n, isNone_n, isNone_s, isNone_i, isNone_b, isNone_l, isNone_t, isNone_p, isNone_o, modD_i, fdivD_i, timesD_t, min2_i, max2_i, negD_i, asB_b, Option.bind_some, Option.map_some, List.map_cons, List.map_nil, List.length_cons, List.length_nil, List.replicate, List.append_nil, List.getElem?_cons_zero, List.getElem?_cons_succ, eqD_O, neD_O, eqD_int, neD_int, eqD_str, neD_str, ltD_int, gtD_int, leD_int, geD_int, sizeLine_eq, List.set_cons_zero, List.set_cons_succ, seqD_l, seqD_t, sTup_t, hg, ixD_book, hr] at k1 ⊢
  simp [k1, h4, bodyD, startE, qSeq, qSet, qOwn, qRet, qIf, qNil, qFor, qApp, qExt, qPut, qRetOwn, qAlias, qAsg, qBrk, qCont, qDrop, qPop, fGet2, f1, f2, fV, fW, fC, fCons, fNil, fTup, fLst, fCall, fB, fAndB, fOrB, fNotB, fAndV, fOrV, fNotV, fIf, fChain, fIt, fLc, fYes, sN, sCons, sNil, wipeE, itemsH, lstH, lenH, ixP0, ixP1, ixP2, ixP3, ixP4, ixW0, ixW1, ixW2, ixW3, ixF0, ixF1, ixK0, ixK1, ixK2, ixT0, ixT1, ixT2, ixT3, ixL0, lenD_l, lenD_t, lenD_s, lstD_l, lstD_t, tupD_l, tupD_t, itemsD_l, itemsD_t, addD_i, addD_s, addD_t, subD_i, catD_l, intD_i, intD_b, isND_n, notND_n, isNone_n, isNone_s, isNone_i, isNone_b, isNone_l, isNone_t, isNone_p, isNone_o, modD_i, fdivD_i, timesD_t, min2_i, max2_i, negD_i, asB_b, Option.bind_some, Option.map_some, List.map_cons, List.map_nil, List.length_cons, List.length_nil, List.replicate, List.append_nil, List.getElem?_cons_zero, List.getElem?_cons_succ, eqD_O, neD_O, eqD_int, neD_int, eqD_str, neD_str, ltD_int, gtD_int, leD_int, geD_int, sizeLine_eq, List.set_cons_zero, List.set_cons_succ, seqD_l, seqD_t, sTup_t]
end PD

/-! PARTHOST, THE PLAIN PART 4: orders of data; who stands; houses that are in order. -/
namespace PD
open PySem PySem.Spec PyProof.Rows L2
/-! ### the order of data -/
theorem lt_irrefl (d : D) : PySem.W.dataLt d d = false := lex_irrefl _
theorem lt_trans {d e f : D} (h : PySem.W.dataLt d e = true) (k : PySem.W.dataLt e f = true) : PySem.W.dataLt d f = true := lex_trans _ _ _ h k
theorem lt_asymm {d e : D} (h : PySem.W.dataLt d e = true) : PySem.W.dataLt e d = false := by
  cases q : PySem.W.dataLt e d with
  | false => rfl
  | true => have := lt_trans h q; rw [lt_irrefl] at this; cases this
theorem le_trans' {d e f : D} (h : (!PySem.W.dataLt e d) = true) (k : (!PySem.W.dataLt f e) = true) : (!PySem.W.dataLt f d) = true := by
  cases q : PySem.W.dataLt f d with
  | false => rfl
  | true =>
    rcases lex_negTrans (O := itemOrd) (PySem.W.keyToks f) (PySem.W.keyToks e) (PySem.W.keyToks d) q with z | z
    · rw [show PySem.W.dataLt f e = true from z] at k; cases k
    · rw [show PySem.W.dataLt e d = true from z] at h; cases h
theorem le_total' (d e : D) : ((!PySem.W.dataLt e d) || (!PySem.W.dataLt d e)) = true := by
  cases q : PySem.W.dataLt e d with
  | false => rfl
  | true => rw [lt_asymm q]; rfl
def nlt (a b : Str) : Bool := PySem.W.dataLt (.str a) (.str b)
theorem nlt_irrefl (a : Str) : nlt a a = false := lt_irrefl _
theorem nlt_trans {a b c : Str} (h : nlt a b = true) (k : nlt b c = true) : nlt a c = true := lt_trans h k
theorem nlt_total {a b : Str} (h : nlt a b = false) (k : nlt b a = false) : a = b := by
  have e := lex_total _ _ h k
  have e1 : (Sum.inr a.cps.toList : Int ⊕ List Nat) = .inr b.cps.toList := by
    have e' : [(Sum.inr a.cps.toList : Int ⊕ List Nat)] = [.inr b.cps.toList] := e
    exact (List.cons.inj e').1
  have e2 := Sum.inr.inj e1
  cases a; cases b
  simp at e2
  rw [e2]
theorem nlt_ne {a b : Str} (h : nlt a b = true) : a ≠ b := fun e => by rw [e, nlt_irrefl] at h; cases h
/-! ### sorted lists -/
theorem sortT_perm {α : Type} (e : α → D) (xs : List α) : (sortT e xs).Perm xs := List.mergeSort_perm _ _
theorem sortT_sorted {α : Type} (e : α → D) (xs : List α) : (sortT e xs).Pairwise fun a b => (!PySem.W.dataLt (e b) (e a)) = true :=
  List.pairwise_mergeSort (le := fun a b => !PySem.W.dataLt (e b) (e a)) (fun a b c h k => le_trans' h k) (fun a b => le_total' (e a) (e b)) xs
theorem sortT_of {α : Type} (e : α → D) {xs : List α} (h : xs.Pairwise fun a b => PySem.W.dataLt (e a) (e b) = true) : sortT e xs = xs :=
  List.mergeSort_of_pairwise (h.imp fun h => by rw [lt_asymm h]; rfl)
theorem sortT_len {α : Type} (e : α → D) (xs : List α) : (sortT e xs).length = xs.length := (sortT_perm e xs).length_eq
theorem mem_sortT {α : Type} (e : α → D) (xs : List α) (a : α) : a ∈ sortT e xs ↔ a ∈ xs := (sortT_perm e xs).mem_iff
/-- sorted of the same things is the same -/
theorem sortT_congr {α : Type} (e : α → D) (inj : ∀ a b, PySem.W.dataLt (e a) (e b) = false → PySem.W.dataLt (e b) (e a) = false → a = b) {xs ys : List α} (h : xs.Perm ys) : sortT e xs = sortT e ys := by
  refine List.Perm.eq_of_pairwise (le := fun a b => (!PySem.W.dataLt (e b) (e a)) = true) (fun a b _ _ h1 h2 => ?_) (sortT_sorted e xs) (sortT_sorted e ys) ((sortT_perm e xs).trans (h.trans (sortT_perm e ys).symm))
  refine inj a b ?_ ?_
  · cases q : PySem.W.dataLt (e a) (e b) with
    | false => rfl
    | true => rw [q] at h2; cases h2
  · cases q : PySem.W.dataLt (e b) (e a) with
    | false => rfl
    | true => rw [q] at h1; cases h1
theorem inj_eS (a b : Str) (h : PySem.W.dataLt (eS a) (eS b) = false) (k : PySem.W.dataLt (eS b) (eS a) = false) : a = b := nlt_total h k
theorem sortT_nodup_eq {xs ys : List Str} (h : ∀ a, a ∈ xs ↔ a ∈ ys) (hx : xs.Nodup) (hy : ys.Nodup) : sortT eS xs = sortT eS ys :=
  sortT_congr eS inj_eS ((List.perm_ext_iff_of_nodup hx hy).mpr h)
/-! ### houses in order -/
def deedOk (d : Deed) : Prop := (d.word = "stop" ∧ d.arg = none) ∨ (d.word ≠ "stop" ∧ d.word ∈ (["plus", "times", "set", "fail"] : List Str) ∧ ∃ n, d.arg = some n ∧ 0 ≤ n ∧ n < 1000)
structure WP (p : Part) : Prop where
  nlen : p.name.length ≤ 1000
  flen : p.faces.length ≤ 100
  wlen : p.wants.length ≤ 100
  klen : p.hooks.length ≤ 100
  fnd : (p.faces.map (·.1)).Nodup
  wnd : (p.wants.map (·.face)).Nodup
  lo : ∀ w ∈ p.wants, 1 ≤ w.lo
  rank : ∀ k ∈ p.hooks, -9 ≤ k.rank ∧ k.rank ≤ 9
  deed : ∀ k ∈ p.hooks, deedOk k.deed
structure WH (h : House) : Prop where
  len : h.length ≤ 100
  parts : ∀ p ∈ h, WP p
  names : (h.map (·.name)).Pairwise fun a b => nlt a b = true
theorem WH.sm {h : House} (w : WH h) : Sm h := ⟨w.len, fun p hp => (w.parts p hp).flen, fun p hp => (w.parts p hp).wlen, fun p hp => (w.parts p hp).klen⟩
theorem WH.nd {h : House} (w : WH h) : (h.map (·.name)).Nodup := w.names.imp fun h => nlt_ne h
theorem WH.sub {h g : House} (w : WH h) (s : g.Sublist h) : WH g := ⟨Nat.le_trans s.length_le w.len, fun p hp => w.parts p (s.subset hp), w.names.sublist (s.map _)⟩
theorem WH.lt {h : House} (w : WH h) : h.length < 100000 := by have := w.len; omega
/-- parts of one house with one name are one -/
theorem name_inj {h : House} (nd : (h.map (·.name)).Nodup) {p q : Part} (hp : p ∈ h) (hq : q ∈ h) (e : p.name = q.name) : p = q := by
  induction h with
  | nil => cases hp
  | cons x h ih =>
    rw [List.map_cons, List.nodup_cons] at nd
    rcases List.mem_cons.mp hp with hp1 | hp
    · rcases List.mem_cons.mp hq with hq1 | hq
      · rw [hp1, hq1]
      · exact absurd (List.mem_map.mpr ⟨q, hq, by rw [← e, hp1]⟩) nd.1
    · rcases List.mem_cons.mp hq with hq1 | hq
      · exact absurd (List.mem_map.mpr ⟨p, hp, by rw [e, hq1]⟩) nd.1
      · exact ih nd.2 hp hq
theorem filter_name {h : House} (nd : (h.map (·.name)).Nodup) {p : Part} (hp : p ∈ h) : h.filter (fun q => decide (q.name = p.name)) = [p] := by
  induction h with
  | nil => cases hp
  | cons x h ih =>
    have nd0 := nd
    rw [List.map_cons, List.nodup_cons] at nd
    rw [List.filter_cons]
    rcases List.mem_cons.mp hp with rfl | hp'
    · rw [if_pos (by simp)]
      have : h.filter (fun q => decide (q.name = p.name)) = [] := List.filter_eq_nil_iff.mpr fun q hq => by
        simp only [decide_eq_true_eq]
        exact fun e => nd.1 (List.mem_map.mpr ⟨q, hq, e⟩)
      rw [this]
    · rw [if_neg (by simp only [decide_eq_true_eq]; exact fun e => nd.1 (List.mem_map.mpr ⟨p, hp', e.symm⟩))]
      exact ih nd.2 hp'
theorem filter_face {ws : List Want} (nd : (ws.map (·.face)).Nodup) {w : Want} (hw : w ∈ ws) : ws.filter (fun q => decide (q.face = w.face)) = [w] := by
  induction ws with
  | nil => cases hw
  | cons x h ih =>
    rw [List.map_cons, List.nodup_cons] at nd
    rw [List.filter_cons]
    rcases List.mem_cons.mp hw with rfl | hp'
    · rw [if_pos (by simp)]
      have : h.filter (fun q => decide (q.face = w.face)) = [] := List.filter_eq_nil_iff.mpr fun q hq => by
        simp only [decide_eq_true_eq]
        exact fun e => nd.1 (List.mem_map.mpr ⟨q, hq, e⟩)
      rw [this]
    · rw [if_neg (by simp only [decide_eq_true_eq]; exact fun e => nd.1 (List.mem_map.mpr ⟨w, hp', e.symm⟩))]
      exact ih nd.2 hp'
/-! ### who stands -/
theorem step_sub (ps : House) : (step ps).Sublist ps := List.filter_sublist
theorem step_fix {ps : House} (h : ¬ (step ps).length < ps.length) : step ps = ps := (step_sub ps).eq_of_length (by have := (step_sub ps).length_le; omega)
def iter : Nat → House → House
  | 0, ps => ps
  | n + 1, ps => iter n (step ps)
theorem iter_fix {ps : House} (h : step ps = ps) : ∀ n, iter n ps = ps
  | 0 => rfl
  | n + 1 => by rw [iter, h, iter_fix h n]
theorem iter_stand : ∀ (n k : Nat) (ps : House), ps.length ≤ n → n ≤ k → iter k ps = standN n ps
  | 0, k, ps, hn, _ => by
    have e := List.eq_nil_of_length_eq_zero (Nat.le_zero.mp hn)
    subst e
    exact iter_fix rfl k
  | n + 1, 0, _, _, hk => absurd hk (by omega)
  | n + 1, k + 1, ps, hn, hk => by
    rw [iter, standN]
    by_cases h : (step ps).length < ps.length
    · rw [if_pos h]; exact iter_stand n k (step ps) (by omega) (by omega)
    · rw [if_neg h, step_fix h]
      exact iter_fix (step_fix h) k
theorem stand_iter {h : House} {k : Nat} (hk : h.length ≤ k) : iter k h = stand h := iter_stand _ _ _ (Nat.le_refl _) hk
theorem standN_sub : ∀ (n : Nat) (ps : House), (standN n ps).Sublist ps
  | 0, _ => List.Sublist.refl _
  | n + 1, ps => by
    rw [standN]; split
    · exact (standN_sub n _).trans (step_sub ps)
    · exact List.Sublist.refl _
theorem stand_sub (h : House) : (stand h).Sublist h := standN_sub _ _
theorem standN_fix : ∀ (n : Nat) (ps : House), ps.length ≤ n → step (standN n ps) = standN n ps
  | 0, ps, hn => by
    have e := List.eq_nil_of_length_eq_zero (Nat.le_zero.mp hn)
    subst e; rfl
  | n + 1, ps, hn => by
    rw [standN]; split
    · exact standN_fix n _ (by omega)
    · rename_i h; exact step_fix h
theorem stand_fix (h : House) : step (stand h) = stand h := standN_fix _ _ (Nat.le_refl _)
theorem WH.stand {h : House} (w : WH h) : WH (stand h) := w.sub (stand_sub h)
/-! ### makes, gifts -/
theorem look_rev {xs : List (Str × Int)} (nd : (xs.map (·.1)).Nodup) (a : Str) : look xs.reverse a = look xs a := by
  induction xs with
  | nil => rfl
  | cons x xs ih =>
    rw [List.map_cons, List.nodup_cons] at nd
    rw [List.reverse_cons, look_append, ih nd.2]
    simp only [look]
    by_cases h : x.1 = a
    · rw [if_pos h, if_pos h]
      have : look xs a = none := by
        clear ih
        induction xs with
        | nil => rfl
        | cons y ys ih2 =>
          simp only [List.map_cons, List.mem_cons, not_or, List.nodup_cons] at nd
          rw [look, if_neg (fun z => nd.1.1 (by rw [h, z]))]
          exact ih2 ⟨nd.1.2, nd.2.2⟩
      rw [this]; rfl
    · rw [if_neg h, if_neg h]; cases look xs a <;> rfl
theorem look_some_mem {β : Type} {xs : List (Str × β)} {a : Str} {b : β} (h : look xs a = some b) : (a, b) ∈ xs := by
  induction xs with
  | nil => cases h
  | cons x xs ih =>
    rw [look] at h
    by_cases e : x.1 = a
    · rw [if_pos e] at h; cases h; subst e; exact List.mem_cons_self
    · rw [if_neg e] at h; exact List.mem_cons_of_mem _ (ih h)
theorem mem_look_some {β : Type} {xs : List (Str × β)} (nd : (xs.map (·.1)).Nodup) {a : Str} {b : β} (h : (a, b) ∈ xs) : look xs a = some b := by
  induction xs with
  | nil => cases h
  | cons x xs ih =>
    rw [List.map_cons, List.nodup_cons] at nd
    rw [look]
    rcases List.mem_cons.mp h with e | h
    · rw [← e, if_pos rfl]
    · rw [if_neg (fun z => nd.1 (by rw [z]; exact List.mem_map.mpr ⟨_, h, rfl⟩))]
      exact ih nd.2 h
/-- a face that gives -/
def lgive (p : Part) (w : Want) : Bool := p.faces.any fun f => decide (f.1 = w.face) && (decide (w.lo ≤ f.2) && decide (f.2 ≤ w.hi))
theorem lgive_eq {p : Part} (nd : (p.faces.map (·.1)).Nodup) {w : Want} (hlo : 1 ≤ w.lo) : lgive p w = gives p w := by
  have hm : makeOf p w.face = (look p.faces w.face).getD 0 := by unfold makeOf; rw [look_rev nd]
  unfold gives
  rw [hm]
  cases q : look p.faces w.face with
  | none =>
    rw [Option.getD_none, decide_eq_false (by omega), Bool.false_and]
    refine List.any_eq_false.mpr fun f hf => ?_
    simp only [Bool.and_eq_true, decide_eq_true_eq, not_and]
    intro e
    rw [← e, mem_look_some nd (b := f.2) hf] at q
    cases q
  | some v =>
    rw [Option.getD_some]
    by_cases h : w.lo ≤ v ∧ v ≤ w.hi
    · rw [decide_eq_true h.1, decide_eq_true h.2]
      exact List.any_eq_true.mpr ⟨_, look_some_mem q, by simp [h.1, h.2]⟩
    · have h0 : (decide (w.lo ≤ v) && decide (v ≤ w.hi)) = false := by
        rw [Bool.and_eq_false_iff, decide_eq_false_iff_not, decide_eq_false_iff_not]
        by_cases h1 : w.lo ≤ v
        · exact .inr fun z => h ⟨h1, z⟩
        · exact .inl h1
      rw [h0]
      refine List.any_eq_false.mpr fun f hf => ?_
      simp only [Bool.and_eq_true, decide_eq_true_eq, not_and]
      intro e h1
      have e2 := mem_look_some nd (a := f.1) (b := f.2) hf
      rw [e, q] at e2
      cases e2
      exact fun z => h ⟨h1, z⟩
/-! ### the first of the greatest make -/
theorem better_none (f : Str) (qs : House) : ∀ b, (qs.foldl (better f) (some b)) ≠ none := by
  induction qs with
  | nil => intro b; simp
  | cons q qs ih =>
    intro b
    rw [List.foldl_cons, better]
    split <;> exact ih _
/-- what the loop finds: of the greatest make the first -/
theorem better_best (f : Str) : ∀ (qs : House) (b : Part), (b :: qs).Pairwise (fun p q => nlt p.name q.name = true) → ∃ r, qs.foldl (better f) (some b) = some r ∧ r ∈ b :: qs ∧ ∀ q ∈ b :: qs, makeOf q f < makeOf r f ∨ (makeOf q f = makeOf r f ∧ (q = r ∨ nlt r.name q.name = true))
  | [], b, _ => ⟨b, rfl, List.mem_cons_self, fun q hq => .inr ⟨by rw [List.mem_singleton.mp hq], .inl (List.mem_singleton.mp hq)⟩⟩
  | x :: qs, b, hp => by
    rw [List.foldl_cons, better]
    rw [List.pairwise_cons] at hp
    by_cases h : makeOf b f < makeOf x f
    · rw [if_pos h]
      obtain ⟨r, h1, h2, h3⟩ := better_best f qs x hp.2
      refine ⟨r, h1, List.mem_cons_of_mem _ h2, fun q hq => ?_⟩
      rcases List.mem_cons.mp hq with rfl | hq
      · left
        rcases h3 x List.mem_cons_self with z | ⟨z, _⟩ <;> omega
      · exact h3 q hq
    · rw [if_neg h]
      have hp2 : (b :: qs).Pairwise (fun p q => nlt p.name q.name = true) := by
        rw [List.pairwise_cons]
        exact ⟨fun q hq => hp.1 q (List.mem_cons_of_mem _ hq), (List.pairwise_cons.mp hp.2).2⟩
      obtain ⟨r, h1, h2, h3⟩ := better_best f qs b hp2
      refine ⟨r, h1, ?_, fun q hq => ?_⟩
      · rcases List.mem_cons.mp h2 with z | z
        · rw [z]; exact List.mem_cons_self
        · exact List.mem_cons_of_mem _ (List.mem_cons_of_mem _ z)
      · rcases List.mem_cons.mp hq with rfl | hq
        · exact h3 _ List.mem_cons_self
        · rcases List.mem_cons.mp hq with rfl | hq
          · rcases h3 b List.mem_cons_self with z | ⟨z, z2⟩
            · left; omega
            · by_cases e : makeOf q f = makeOf r f
              · right
                refine ⟨e, .inr ?_⟩
                have hb := hp.1 q List.mem_cons_self
                rcases z2 with z2 | z2
                · rw [← z2]; exact hb
                · exact nlt_trans z2 hb
              · left; omega
          · exact h3 q (List.mem_cons_of_mem _ hq)
end PD

/-! PARTHOST, THE PLAIN PART 5: the law's own who stands, who gives, in which order. -/
namespace PD
open PySem PySem.Spec PyProof.Rows L2
theorem ev_law_give {p : Part} (wp : WP p) {w : Want} (hlo : 1 ≤ w.lo) : m__law_give [eP p, eW w] = some (.bool (gives p w)) := by
  have c1 : compL (sTup (sCons (sN 2) (sCons (sN 3) sNil))) ct__law_give_0 (fV 3) (wipeE [.dat (eP p), .dat (eW w), .un, .un] [2, 3]) (p.faces.map eF) = some ((p.faces.filter fun f => decide (f.1 = w.face) && (decide (w.lo ≤ f.2) && decide (f.2 ≤ w.hi))).map fun f => .int f.2) := by
    refine compL_map eF _ _ _ fun f hf => ⟨_, rfl, ?_, fun _ => rfl⟩
    by_cases h1 : f.1 = w.face <;> by_cases h2 : w.lo ≤ f.2 <;> simp [ct__law_give_0, bodyD, startE, qSeq, qSet, qOwn, qRet, qIf, qNil, qFor, qApp, qExt, qPut, qRetOwn, qAlias, qAsg, qBrk, qCont, qDrop, qPop, fGet2, f1, f2, fV, fW, fC, fCons, fNil, fTup, fLst, fCall, fB, fAndB, fOrB, fNotB, fAndV, fOrV, fNotV, fIf, fChain, fIt, fLc, fYes, sN, sCons, sNil, wipeE, itemsH, lstH, lenH, ixP0, ixP1, ixP2, ixP3, ixP4, ixW0, ixW1, ixW2, ixW3, ixF0, ixF1, ixK0, ixK1, ixK2, ixT0, ixT1, ixT2, ixT3, ixL0, lenD_l, lenD_t, lenD_s, lstD_l, lstD_t, tupD_l, tupD_t, itemsD_l, itemsD_t, addD_i, addD_s, addD_t, subD_i, catD_l, intD_i, intD_b, isND_n, notND_n, isNone_n, isNone_s, isNone_i, isNone_b, isNone_l, isNone_t, isNone_p, isNone_o, modD_i, fdivD_i, timesD_t, min2_i, max2_i, negD_i, asB_b, Option.bind_some, Option.map_some, List.map_cons, List.map_nil, List.length_cons, List.length_nil, List.replicate, List.append_nil, List.getElem?_cons_zero, List.getElem?_cons_succ, eqD_O, neD_O, eqD_int, neD_int, eqD_str, neD_str, ltD_int, gtD_int, leD_int, geD_int, sizeLine_eq, List.set_cons_zero, List.set_cons_succ, seqD_l, seqD_t, sTup_t, h1, h2]
  rw [← lgive_eq wp.fnd hlo]
  have c2 : ((p.faces.filter fun f => decide (f.1 = w.face) && (decide (w.lo ≤ f.2) && decide (f.2 ≤ w.hi))).map (fun f => (f.2 : Int))).map (fun i => (PyData.int i)) = (p.faces.filter fun f => decide (f.1 = w.face) && (decide (w.lo ≤ f.2) && decide (f.2 ≤ w.hi))).map fun f => .int f.2 := by rw [List.map_map]; rfl
  have c3 := neD_of (d := .list (((p.faces.filter fun f => decide (f.1 = w.face) && (decide (w.lo ≤ f.2) && decide (f.2 ≤ w.hi))).map (fun f => (f.2 : Int))).map (fun i => (PyData.int i)))) (e := .list []) (plain_lst (fun i : Int => (PyData.int i)) (fun _ => rfl) _) rfl (Nat.le_trans (depth_lst (fun i : Int => (PyData.int i)) 0 (fun _ => by simp [PyData.depth]) _) (by omega)) (eqv_lst (fun i : Int => (PyData.int i)) eqv_int _ [])
  rw [c2] at c3
  have c4 : lgive p w = !decide (((p.faces.filter fun f => decide (f.1 = w.face) && (decide (w.lo ≤ f.2) && decide (f.2 ≤ w.hi))).map (fun f => (f.2 : Int))) = []) := by
    unfold lgive
    generalize (fun f : Str × Int => decide (f.1 = w.face) && (decide (w.lo ≤ f.2) && decide (f.2 ≤ w.hi))) = t
    induction p.faces with
    | nil => rfl
    | cons x xs ih =>
      rw [List.any_cons, List.filter_cons]
      cases hx : t x with
      | true => simp
      | false => simpa using ih
  simp only [bodyD, startE, qSeq, qSet, qOwn, qRet, qIf, qNil, qFor, qApp, qExt, qPut, qRetOwn, qAlias, qAsg, qBrk, qCont, qDrop, qPop, fGet2, f1, f2, fV, fW, fC, fCons, fNil, fTup, fLst, fCall, fB, fAndB, fOrB, fNotB, fAndV, fOrV, fNotV, fIf, fChain, fIt, fLc, fYes, sN, sCons, sNil, wipeE, itemsH, lstH, lenH, ixP0, ixP1, ixP2, ixP3, ixP4, ixW0, ixW1, ixW2, ixW3, ixF0, ixF1, ixK0, ixK1, ixK2, ixT0, ixT1, ixT2, ixT3, ixL0, lenD_l, lenD_t, lenD_s, lstD_l, lstD_t, tupD_l, tupD_t, itemsD_l, itemsD_t, addD_i, addD_s, addD_t, subD_i, catD_l, intD_i, intD_b, isND_n, notND_n, isNone_n, isNone_s, isNone_i, isNone_b, isNone_l, isNone_t, isNone_p, isNone_o, modD_i, fdivD_i, timesD_t, min2_i, max2_i, negD_i, asB_b, Option.bind_some, Option.map_some, List.map_cons, List.map_nil, List.length_cons, List.length_nil, List.replicate, List.append_nil, List.getElem?_cons_zero, List.getElem?_cons_succ, eqD_O, neD_O, eqD_int, neD_int, eqD_str, neD_str, ltD_int, gtD_int, leD_int, geD_int, sizeLine_eq, List.set_cons_zero, List.set_cons_succ, seqD_l, seqD_t, sTup_t] at c1
  rw [c4]
  simp [m__law_give, g__law_give, bodyD, startE, qSeq, qSet, qOwn, qRet, qIf, qNil, qFor, qApp, qExt, qPut, qRetOwn, qAlias, qAsg, qBrk, qCont, qDrop, qPop, fGet2, f1, f2, fV, fW, fC, fCons, fNil, fTup, fLst, fCall, fB, fAndB, fOrB, fNotB, fAndV, fOrV, fNotV, fIf, fChain, fIt, fLc, fYes, sN, sCons, sNil, wipeE, itemsH, lstH, lenH, ixP0, ixP1, ixP2, ixP3, ixP4, ixW0, ixW1, ixW2, ixW3, ixF0, ixF1, ixK0, ixK1, ixK2, ixT0, ixT1, ixT2, ixT3, ixL0, lenD_l, lenD_t, lenD_s, lstD_l, lstD_t, tupD_l, tupD_t, itemsD_l, itemsD_t, addD_i, addD_s, addD_t, subD_i, catD_l, intD_i, intD_b, isND_n, notND_n, isNone_n, isNone_s, isNone_i, isNone_b, isNone_l, isNone_t, isNone_p, isNone_o, modD_i, fdivD_i, timesD_t, min2_i, max2_i, negD_i, asB_b, Option.bind_some, Option.map_some, List.map_cons, List.map_nil, List.length_cons, List.length_nil, List.replicate, List.append_nil, List.getElem?_cons_zero, List.getElem?_cons_succ, eqD_O, neD_O, eqD_int, neD_int, eqD_str, neD_str, ltD_int, gtD_int, leD_int, geD_int, sizeLine_eq, List.set_cons_zero, List.set_cons_succ, seqD_l, seqD_t, sTup_t] at c1 c3 ⊢
  simp [c1, bodyD, startE, qSeq, qSet, qOwn, qRet, qIf, qNil, qFor, qApp, qExt, qPut, qRetOwn, qAlias, qAsg, qBrk, qCont, qDrop, qPop, fGet2, f1, f2, fV, fW, fC, fCons, fNil, fTup, fLst, fCall, fB, fAndB, fOrB, fNotB, fAndV, fOrV, fNotV, fIf, fChain, fIt, fLc, fYes, sN, sCons, sNil, wipeE, itemsH, lstH, lenH, ixP0, ixP1, ixP2, ixP3, ixP4, ixW0, ixW1, ixW2, ixW3, ixF0, ixF1, ixK0, ixK1, ixK2, ixT0, ixT1, ixT2, ixT3, ixL0, lenD_l, lenD_t, lenD_s, lstD_l, lstD_t, tupD_l, tupD_t, itemsD_l, itemsD_t, addD_i, addD_s, addD_t, subD_i, catD_l, intD_i, intD_b, isND_n, notND_n, isNone_n, isNone_s, isNone_i, isNone_b, isNone_l, isNone_t, isNone_p, isNone_o, modD_i, fdivD_i, timesD_t, min2_i, max2_i, negD_i, asB_b, Option.bind_some, Option.map_some, List.map_cons, List.map_nil, List.length_cons, List.length_nil, List.replicate, List.append_nil, List.getElem?_cons_zero, List.getElem?_cons_succ, eqD_O, neD_O, eqD_int, neD_int, eqD_str, neD_str, ltD_int, gtD_int, leD_int, geD_int, sizeLine_eq, List.set_cons_zero, List.set_cons_succ, seqD_l, seqD_t, sTup_t, c3]
theorem lacks_zero (ps : House) (p : Part) : decide ((lacks ps p).length = 0) = p.wants.all fun w => decide (giversFor ps p.name w ≠ []) || !w.must := by
  unfold lacks
  rw [List.length_map]
  induction p.wants with
  | nil => rfl
  | cons w ws ih =>
    rw [List.filter_cons, List.all_cons, ← ih]
    cases hm : w.must with
    | false => simp
    | true =>
      by_cases hg : giversFor ps p.name w = []
      · simp [hg]
      · have : ¬ (giversFor ps p.name w).length = 0 := fun z => hg (List.eq_nil_of_length_eq_zero z)
        simp [hg, this]
theorem ev_law_stand_wants {ps : House} (hw : ∀ p ∈ ps, WP p) {p : Part} (a c t : Slot) : ∀ (ws : List Want) (s : Bool) (j1 j2 j3 : Slot), (∀ w ∈ ws, 1 ≤ w.lo) →
    ∃ j1 j2 j3, loopS (sN 6) lb__law_stand_1 (ws.map eW) [a, .dat (.list (ps.map eP)), t, c, .dat (eP p), .dat (.bool s), j1', j2', j3'] = some (.next [a, .dat (.list (ps.map eP)), t, c, .dat (eP p), .dat (.bool (s && ws.all fun w => decide (giversFor ps p.name w ≠ []) || !w.must)), j1, j2, j3]) := by
  intro ws s _ _ _ hlo
  obtain ⟨env', k1, ⟨k2, j1, j2, j3, k3⟩⟩ := loopS_fold eW (t := sN 6) (g := lb__law_stand_1) (fun (s : Bool) env => True ∧ ∃ j1 j2 j3, env = [a, .dat (.list (ps.map eP)), t, c, .dat (eP p), .dat (.bool s), j1, j2, j3]) (fun s w => s && (decide (giversFor ps p.name w ≠ []) || !w.must)) ws (by
    rintro w hwm s _ ⟨_, j1, j2, j3, rfl⟩
    have c1 : compL (sN 8) ct__law_stand_0 (fV 8) (wipeE [a, .dat (.list (ps.map eP)), t, c, .dat (eP p), .dat (.bool s), .dat (eW w), j2, j3] [8]) (ps.map eP) = some ((giversFor ps p.name w).map eP) := by
      refine compL_map eP _ _ ps fun q hq => ⟨_, rfl, ?_, fun _ => rfl⟩
      have h1 := ev_law_give (hw q hq) (hlo w hwm)
      by_cases h2 : q.name = p.name <;> simp [ct__law_stand_0, bodyD, startE, qSeq, qSet, qOwn, qRet, qIf, qNil, qFor, qApp, qExt, qPut, qRetOwn, qAlias, qAsg, qBrk, qCont, qDrop, qPop, fGet2, f1, f2, fV, fW, fC, fCons, fNil, fTup, fLst, fCall, fB, fAndB, fOrB, fNotB, fAndV, fOrV, fNotV, fIf, fChain, fIt, fLc, fYes, sN, sCons, sNil, wipeE, itemsH, lstH, lenH, ixP0, ixP1, ixP2, ixP3, ixP4, ixW0, ixW1, ixW2, ixW3, ixF0, ixF1, ixK0, ixK1, ixK2, ixT0, ixT1, ixT2, ixT3, ixL0, lenD_l, lenD_t, lenD_s, lstD_l, lstD_t, tupD_l, tupD_t, itemsD_l, itemsD_t, addD_i, addD_s, addD_t, subD_i, catD_l, intD_i, intD_b, isND_n, notND_n, isNone_n, isNone_s, isNone_i, isNone_b, isNone_l, isNone_t, isNone_p, isNone_o, modD_i, fdivD_i, timesD_t, min2_i, max2_i, negD_i, asB_b, Option.bind_some, Option.map_some, List.map_cons, List.map_nil, List.length_cons, List.length_nil, List.replicate, List.append_nil, List.getElem?_cons_zero, List.getElem?_cons_succ, eqD_O, neD_O, eqD_int, neD_int, eqD_str, neD_str, ltD_int, gtD_int, leD_int, geD_int, sizeLine_eq, List.set_cons_zero, List.set_cons_succ, seqD_l, seqD_t, sTup_t, h1, h2]
    have c2 := neD_of (e := .list []) (plain_lst eP plain_eP (giversFor ps p.name w)) rfl (Nat.le_trans (depth_lst eP 4 depth_eP _) (by omega)) (eqv_lst eP eqv_eP (giversFor ps p.name w) [])
    refine ⟨_, [a, .dat (.list (ps.map eP)), t, c, .dat (eP p), .dat (.bool (s && (decide (giversFor ps p.name w ≠ []) || !w.must))), .dat (eW w), .dat (.list ((giversFor ps p.name w).map eP)), j3], rfl, .inl ?_, trivial, _, _, _, rfl⟩
    simp only [bodyD, startE, qSeq, qSet, qOwn, qRet, qIf, qNil, qFor, qApp, qExt, qPut, qRetOwn, qAlias, qAsg, qBrk, qCont, qDrop, qPop, fGet2, f1, f2, fV, fW, fC, fCons, fNil, fTup, fLst, fCall, fB, fAndB, fOrB, fNotB, fAndV, fOrV, fNotV, fIf, fChain, fIt, fLc, fYes, sN, sCons, sNil, wipeE, itemsH, lstH, lenH, ixP0, ixP1, ixP2, ixP3, ixP4, ixW0, ixW1, ixW2, ixW3, ixF0, ixF1, ixK0, ixK1, ixK2, ixT0, ixT1, ixT2, ixT3, ixL0, lenD_l, lenD_t, lenD_s, lstD_l, lstD_t, tupD_l, tupD_t, itemsD_l, itemsD_t, addD_i, addD_s, addD_t, subD_i, catD_l, intD_i, intD_b, isND_n, notND_n, isNone_n, isNone_s, isNone_i, isNone_b, isNone_l, isNone_t, isNone_p, isNone_o, modD_i, fdivD_i, timesD_t, min2_i, max2_i, negD_i, asB_b, Option.bind_some, Option.map_some, List.map_cons, List.map_nil, List.length_cons, List.length_nil, List.replicate, List.append_nil, List.getElem?_cons_zero, List.getElem?_cons_succ, eqD_O, neD_O, eqD_int, neD_int, eqD_str, neD_str, ltD_int, gtD_int, leD_int, geD_int, sizeLine_eq, List.set_cons_zero, List.set_cons_succ, seqD_l, seqD_t, sTup_t] at c1
    simp [lb__law_stand_1, bodyD, startE, qSeq, qSet, qOwn, qRet, qIf, qNil, qFor, qApp, qExt, qPut, qRetOwn, qAlias, qAsg, qBrk, qCont, qDrop, qPop, fGet2, f1, f2, fV, fW, fC, fCons, fNil, fTup, fLst, fCall, fB, fAndB, fOrB, fNotB, fAndV, fOrV, fNotV, fIf, fChain, fIt, fLc, fYes, sN, sCons, sNil, wipeE, itemsH, lstH, lenH, ixP0, ixP1, ixP2, ixP3, ixP4, ixW0, ixW1, ixW2, ixW3, ixF0, ixF1, ixK0, ixK1, ixK2, ixT0, ixT1, ixT2, ixT3, ixL0, lenD_l, lenD_t, lenD_s, lstD_l, lstD_t, tupD_l, tupD_t, itemsD_l, itemsD_t, addD_i, addD_s, addD_t, subD_i, catD_l, intD_i, intD_b, isND_n, notND_n, isNone_n, isNone_s, isNone_i, isNone_b, isNone_l, isNone_t, isNone_p, isNone_o, modD_i, fdivD_i, timesD_t, min2_i, max2_i, negD_i, asB_b, Option.bind_some, Option.map_some, List.map_cons, List.map_nil, List.length_cons, List.length_nil, List.replicate, List.append_nil, List.getElem?_cons_zero, List.getElem?_cons_succ, eqD_O, neD_O, eqD_int, neD_int, eqD_str, neD_str, ltD_int, gtD_int, leD_int, geD_int, sizeLine_eq, List.set_cons_zero, List.set_cons_succ, seqD_l, seqD_t, sTup_t] at c1 c2 ⊢
    simp [c1, bodyD, startE, qSeq, qSet, qOwn, qRet, qIf, qNil, qFor, qApp, qExt, qPut, qRetOwn, qAlias, qAsg, qBrk, qCont, qDrop, qPop, fGet2, f1, f2, fV, fW, fC, fCons, fNil, fTup, fLst, fCall, fB, fAndB, fOrB, fNotB, fAndV, fOrV, fNotV, fIf, fChain, fIt, fLc, fYes, sN, sCons, sNil, wipeE, itemsH, lstH, lenH, ixP0, ixP1, ixP2, ixP3, ixP4, ixW0, ixW1, ixW2, ixW3, ixF0, ixF1, ixK0, ixK1, ixK2, ixT0, ixT1, ixT2, ixT3, ixL0, lenD_l, lenD_t, lenD_s, lstD_l, lstD_t, tupD_l, tupD_t, itemsD_l, itemsD_t, addD_i, addD_s, addD_t, subD_i, catD_l, intD_i, intD_b, isND_n, notND_n, isNone_n, isNone_s, isNone_i, isNone_b, isNone_l, isNone_t, isNone_p, isNone_o, modD_i, fdivD_i, timesD_t, min2_i, max2_i, negD_i, asB_b, Option.bind_some, Option.map_some, List.map_cons, List.map_nil, List.length_cons, List.length_nil, List.replicate, List.append_nil, List.getElem?_cons_zero, List.getElem?_cons_succ, eqD_O, neD_O, eqD_int, neD_int, eqD_str, neD_str, ltD_int, gtD_int, leD_int, geD_int, sizeLine_eq, List.set_cons_zero, List.set_cons_succ, seqD_l, seqD_t, sTup_t]
    cases s with
    | false => simp
    | true =>
      simp [c2]
      by_cases hg : giversFor ps p.name w = [] <;> simp [hg]) s _ ⟨trivial, _, _, _, rfl⟩
  refine ⟨j1, j2, j3, ?_⟩
  rw [k1, k3]
  have : ∀ (ws : List Want) (s : Bool), ws.foldl (fun s w => s && (decide (giversFor ps p.name w ≠ []) || !w.must)) s = (s && ws.all fun w => decide (giversFor ps p.name w ≠ []) || !w.must) := fun ws => by
    induction ws with
    | nil => intro s; simp
    | cons w ws ih => intro s; rw [List.foldl_cons, ih, List.all_cons, Bool.and_assoc]
  rw [this]
theorem ev_law_stand_parts {ps : House} (hw : ∀ p ∈ ps, WP p) (hl : ps.length ≤ 1000) (a t : Slot) (i1 i2 i3 i4 i5 : Slot) :
    ∃ j1 j2 j3 j4 j5, loopS (sN 4) lb__law_stand_2 (ps.map eP) [a, .dat (.list (ps.map eP)), t, .own (.list []), i1, i2, i3, i4, i5] = some (.next [a, .dat (.list (ps.map eP)), t, .own (.list ((step ps).map eP)), j1, j2, j3, j4, j5]) := by
  obtain ⟨env', k1, ⟨k2, j1, j2, j3, j4, j5, k3⟩⟩ := loopS_foldN eP (t := sN 4) (g := lb__law_stand_2) (fun n (s : House) env => s.length ≤ n ∧ ∃ j1 j2 j3 j4 j5, env = [a, .dat (.list (ps.map eP)), t, .own (.list (s.map eP)), j1, j2, j3, j4, j5]) (fun s p => if (p.wants.all fun w => decide (giversFor ps p.name w ≠ []) || !w.must) = true then s ++ [p] else s) ps 0 (by
    rintro p hp n s _ ⟨hs, j1, j2, j3, j4, j5, rfl⟩ hn
    obtain ⟨m1, m2, m3, k⟩ := ev_law_stand_wants hw (p := p) a (.own (.list (s.map eP))) t p.wants true .un .un .un (hw p hp).lo (j1' := j3) (j2' := j4) (j3' := j5)
    rw [Bool.true_and] at k
    by_cases hg : (p.wants.all fun w => decide (giversFor ps p.name w ≠ []) || !w.must) = true
    · rw [hg] at k
      refine ⟨_, [a, .dat (.list (ps.map eP)), t, .own (.list ((s ++ [p]).map eP)), .dat (eP p), .dat (.bool true), m1, m2, m3], rfl, .inl ?_, ?_⟩
      · simp [lb__law_stand_2, bodyD, startE, qSeq, qSet, qOwn, qRet, qIf, qNil, qFor, qApp, qExt, qPut, qRetOwn, qAlias, qAsg, qBrk, qCont, qDrop, qPop, fGet2, f1, f2, fV, fW, fC, fCons, fNil, fTup, fLst, fCall, fB, fAndB, fOrB, fNotB, fAndV, fOrV, fNotV, fIf, fChain, fIt, fLc, fYes, sN, sCons, sNil, wipeE, itemsH, lstH, lenH, ixP0, ixP1, ixP2, ixP3, ixP4, ixW0, ixW1, ixW2, ixW3, ixF0, ixF1, ixK0, ixK1, ixK2, ixT0, ixT1, ixT2, ixT3, ixL0, lenD_l, lenD_t, lenD_s, lstD_l, lstD_t, tupD_l, tupD_t, itemsD_l, itemsD_t, addD_i, addD_s, addD_t, subD_i, catD_l, intD_i, intD_b, isND_n, notND_n, isNone_n, isNone_s, isNone_i, isNone_b, isNone_l, isNone_t, isNone_p, isNone_o, modD_i, fdivD_i, timesD_t, min2_i, max2_i, negD_i, asB_b, Option.bind_some, Option.map_some, List.map_cons, List.map_nil, List.length_cons, List.length_nil, List.replicate, List.append_nil, List.getElem?_cons_zero, List.getElem?_cons_succ, eqD_O, neD_O, eqD_int, neD_int, eqD_str, neD_str, ltD_int, gtD_int, leD_int, geD_int, sizeLine_eq, List.set_cons_zero, List.set_cons_succ, seqD_l, seqD_t, sTup_t, k]
        omega
      · rw [if_pos hg]
        exact ⟨by rw [List.length_append, List.length_singleton]; omega, _, _, _, _, _, rfl⟩
    · have hg' := Bool.not_eq_true _ ▸ hg
      rw [Bool.eq_false_iff.mpr hg] at k
      refine ⟨_, [a, .dat (.list (ps.map eP)), t, .own (.list (s.map eP)), .dat (eP p), .dat (.bool false), m1, m2, m3], rfl, .inl ?_, ?_⟩
      · simp [lb__law_stand_2, bodyD, startE, qSeq, qSet, qOwn, qRet, qIf, qNil, qFor, qApp, qExt, qPut, qRetOwn, qAlias, qAsg, qBrk, qCont, qDrop, qPop, fGet2, f1, f2, fV, fW, fC, fCons, fNil, fTup, fLst, fCall, fB, fAndB, fOrB, fNotB, fAndV, fOrV, fNotV, fIf, fChain, fIt, fLc, fYes, sN, sCons, sNil, wipeE, itemsH, lstH, lenH, ixP0, ixP1, ixP2, ixP3, ixP4, ixW0, ixW1, ixW2, ixW3, ixF0, ixF1, ixK0, ixK1, ixK2, ixT0, ixT1, ixT2, ixT3, ixL0, lenD_l, lenD_t, lenD_s, lstD_l, lstD_t, tupD_l, tupD_t, itemsD_l, itemsD_t, addD_i, addD_s, addD_t, subD_i, catD_l, intD_i, intD_b, isND_n, notND_n, isNone_n, isNone_s, isNone_i, isNone_b, isNone_l, isNone_t, isNone_p, isNone_o, modD_i, fdivD_i, timesD_t, min2_i, max2_i, negD_i, asB_b, Option.bind_some, Option.map_some, List.map_cons, List.map_nil, List.length_cons, List.length_nil, List.replicate, List.append_nil, List.getElem?_cons_zero, List.getElem?_cons_succ, eqD_O, neD_O, eqD_int, neD_int, eqD_str, neD_str, ltD_int, gtD_int, leD_int, geD_int, sizeLine_eq, List.set_cons_zero, List.set_cons_succ, seqD_l, seqD_t, sTup_t, k]
      · rw [if_neg hg]
        exact ⟨by omega, _, _, _, _, _, rfl⟩) [] [a, .dat (.list (ps.map eP)), t, .own (.list []), i1, i2, i3, i4, i5] ⟨Nat.zero_le _, _, _, _, _, _, rfl⟩
  refine ⟨j1, j2, j3, j4, j5, ?_⟩
  rw [k1, k3]
  have : ∀ (qs s : House), qs.foldl (fun s p => if (p.wants.all fun w => decide (giversFor ps p.name w ≠ []) || !w.must) = true then s ++ [p] else s) s = s ++ qs.filter fun p => decide ((lacks ps p).length = 0) := fun qs => by
    induction qs with
    | nil => intro s; simp
    | cons q qs ih =>
      intro s
      rw [List.foldl_cons, ih, List.filter_cons, lacks_zero]
      split <;> simp
  rw [this]
  rfl
theorem ev_law_stand_turns (a : Slot) : ∀ (n : Nat) (l : List D) (ps : House), l.length = n → (∀ p ∈ ps, WP p) → ps.length ≤ 1000 → ∀ (j1 j2 j3 j4 j5 j6 j7 : Slot),
    ∃ j1 j2 j3 j4 j5 j6 j7, loopS (sN 2) lb__law_stand_3 l [a, .dat (.list (ps.map eP)), j1', j2', j3', j4', j5', j6', j7'] = some (.next [a, .dat (.list ((iter n ps).map eP)), j1, j2, j3, j4, j5, j6, j7])
  | 0, [], ps, _, hw, hl, j1, j2, j3, j4, j5, j6, j7 => ⟨_, _, _, _, _, _, _, rfl⟩
  | n + 1, x :: l, ps, hn, hw, hl, j1, j2, j3, j4, j5, j6, j7 => by
    have hw' : ∀ p ∈ step ps, WP p := fun p hp => hw p ((step_sub ps).subset hp)
    obtain ⟨m1, m2, m3, m4, m5, k⟩ := ev_law_stand_parts hw hl a (.dat x) j3' j4' j5' j6' j7'
    obtain ⟨q1, q2, q3, q4, q5, q6, q7, ih⟩ := ev_law_stand_turns a n l (step ps) (by simpa using hn) hw' (Nat.le_trans (step_sub ps).length_le hl) .un .un .un .un .un .un .un (j1' := .dat x) (j2' := .dat (.list ((step ps).map eP))) (j3' := m1) (j4' := m2) (j5' := m3) (j6' := m4) (j7' := m5)
    refine ⟨q1, q2, q3, q4, q5, q6, q7, ?_⟩
    rw [iter, ← ih, loopS]
    simp [lb__law_stand_3, bodyD, startE, qSeq, qSet, qOwn, qRet, qIf, qNil, qFor, qApp, qExt, qPut, qRetOwn, qAlias, qAsg, qBrk, qCont, qDrop, qPop, fGet2, f1, f2, fV, fW, fC, fCons, fNil, fTup, fLst, fCall, fB, fAndB, fOrB, fNotB, fAndV, fOrV, fNotV, fIf, fChain, fIt, fLc, fYes, sN, sCons, sNil, wipeE, itemsH, lstH, lenH, ixP0, ixP1, ixP2, ixP3, ixP4, ixW0, ixW1, ixW2, ixW3, ixF0, ixF1, ixK0, ixK1, ixK2, ixT0, ixT1, ixT2, ixT3, ixL0, lenD_l, lenD_t, lenD_s, lstD_l, lstD_t, tupD_l, tupD_t, itemsD_l, itemsD_t, addD_i, addD_s, addD_t, subD_i, catD_l, intD_i, intD_b, isND_n, notND_n, isNone_n, isNone_s, isNone_i, isNone_b, isNone_l, isNone_t, isNone_p, isNone_o, modD_i, fdivD_i, timesD_t, min2_i, max2_i, negD_i, asB_b, Option.bind_some, Option.map_some, List.map_cons, List.map_nil, List.length_cons, List.length_nil, List.replicate, List.append_nil, List.getElem?_cons_zero, List.getElem?_cons_succ, eqD_O, neD_O, eqD_int, neD_int, eqD_str, neD_str, ltD_int, gtD_int, leD_int, geD_int, sizeLine_eq, List.set_cons_zero, List.set_cons_succ, seqD_l, seqD_t, sTup_t, k]
theorem rangeD_len (lo : Int) (n : Nat) : (rangeD lo n).length = n := by unfold rangeD; simp
theorem ev_law_stand {h : House} (w : WH h) (h7 : h.length ≤ 7) : m__law_stand [eH h] = some (.list ((stand h).map eP)) := by
  obtain ⟨q1, q2, q3, q4, q5, q6, q7, k⟩ := ev_law_stand_turns (.dat (eH h)) 7 (rangeD 0 7) h (rangeD_len 0 7) w.parts (by omega) .un .un .un .un .un .un .un (j1' := .un) (j2' := .un) (j3' := .un) (j4' := .un) (j5' := .un) (j6' := .un) (j7' := .un)
  rw [stand_iter h7] at k
  have hr : fR1 (fC (.int 7)) [.dat (eH h), .dat (.list (h.map eP)), .un, .un, .un, .un, .un, .un, .un] = some (rangeD 0 7) := rfl
  simp [m__law_stand, g__law_stand, bodyD, startE, qSeq, qSet, qOwn, qRet, qIf, qNil, qFor, qApp, qExt, qPut, qRetOwn, qAlias, qAsg, qBrk, qCont, qDrop, qPop, fGet2, f1, f2, fV, fW, fC, fCons, fNil, fTup, fLst, fCall, fB, fAndB, fOrB, fNotB, fAndV, fOrV, fNotV, fIf, fChain, fIt, fLc, fYes, sN, sCons, sNil, wipeE, itemsH, lstH, lenH, ixP0, ixP1, ixP2, ixP3, ixP4, ixW0, ixW1, ixW2, ixW3, ixF0, ixF1, ixK0, ixK1, ixK2, ixT0, ixT1, ixT2, ixT3, ixL0, lenD_l, lenD_t, lenD_s, lstD_l, lstD_t, tupD_l, tupD_t, itemsD_l, itemsD_t, addD_i, addD_s, addD_t, subD_i, catD_l, intD_i, intD_b, isND_n, notND_n, isNone_n, isNone_s, isNone_i, isNone_b, isNone_l, isNone_t, isNone_p, isNone_o, modD_i, fdivD_i, timesD_t, min2_i, max2_i, negD_i, asB_b, Option.bind_some, Option.map_some, List.map_cons, List.map_nil, List.length_cons, List.length_nil, List.replicate, List.append_nil, List.getElem?_cons_zero, List.getElem?_cons_succ, eqD_O, neD_O, eqD_int, neD_int, eqD_str, neD_str, ltD_int, gtD_int, leD_int, geD_int, sizeLine_eq, List.set_cons_zero, List.set_cons_succ, seqD_l, seqD_t, sTup_t] at hr ⊢
  rw [hr, Option.bind_some, k]
  rfl
/-! ### the law's giver -/
def eIS (p : Int × Str) : D := .tuple [.int p.1, .str p.2]
theorem sortD_IS (xs : List (Int × Str)) : sortD (.list (xs.map eIS)) = some (.list ((sortT eIS xs).map eIS)) :=
  sortD_lst eIS (fun _ _ => rfl) (fun _ => rfl) (fun _ => by simp [eIS, PyData.depth, PyData.depthAll]) (.inl fun _ => ⟨_, _, rfl⟩) xs
theorem lt_IS (a b : Int × Str) : PySem.W.dataLt (eIS a) (eIS b) = if a.1 = b.1 then nlt a.2 b.2 else decide (a.1 < b.1) := by
  unfold eIS
  rw [PySem.W.dataLt_pair rfl rfl, eqv_int, eqv_str, dataLt_int]
  by_cases h : a.1 = b.1
  · rw [if_pos h, if_pos (decide_eq_true h)]
    by_cases h2 : a.2 = b.2
    · rw [if_pos (decide_eq_true h2), h2]; exact (nlt_irrefl _).symm
    · rw [if_neg (by simpa using h2)]; rfl
  · rw [if_neg h, if_neg (by simpa using h)]
def keyOf (f : Str) (p : Part) : Int × Str := (0 - makeOf p f, p.name)
theorem giver_head (f : Str) (qs : House) (hp : qs.Pairwise fun p q => nlt p.name q.name = true) : ((sortT eIS (qs.map (keyOf f))).head?).map (·.2) = (qs.foldl (better f) none).map (·.name) := by
  cases qs with
  | nil => simp [sortT]
  | cons b qs =>
    show _ = (qs.foldl (better f) (some b)).map (·.name)
    obtain ⟨r, h1, h2, h3⟩ := better_best f qs b hp
    rw [h1]
    have hperm := sortT_perm eIS ((b :: qs).map (keyOf f))
    have hs := sortT_sorted eIS ((b :: qs).map (keyOf f))
    cases hh : sortT eIS ((b :: qs).map (keyOf f)) with
    | nil =>
      have := hperm.length_eq
      rw [hh] at this
      simp at this
    | cons x xs =>
      rw [hh] at hperm hs
      show some x.2 = some r.name
      have hx : x ∈ (b :: qs).map (keyOf f) := hperm.mem_iff.mp List.mem_cons_self
      obtain ⟨q, hq, rfl⟩ := List.mem_map.mp hx
      have hr : keyOf f r ∈ keyOf f q :: xs := hperm.mem_iff.mpr (List.mem_map.mpr ⟨r, h2, rfl⟩)
      have hle : PySem.W.dataLt (eIS (keyOf f r)) (eIS (keyOf f q)) = false := by
        rcases List.mem_cons.mp hr with e | hr
        · rw [e]; exact lt_irrefl _
        · have := (List.pairwise_cons.mp hs).1 _ hr
          cases z : PySem.W.dataLt (eIS (keyOf f r)) (eIS (keyOf f q)) with
          | false => rfl
          | true => rw [z] at this; cases this
      rw [lt_IS] at hle
      rcases h3 q hq with z | ⟨z, z2⟩
      · rw [if_neg (by simp only [keyOf]; omega), decide_eq_false_iff_not] at hle
        exfalso
        apply hle
        simp only [keyOf]; omega
      · rw [if_pos (by simp only [keyOf]; omega)] at hle
        rcases z2 with z2 | z2
        · rw [z2]; rfl
        · rw [show nlt (keyOf f r).2 (keyOf f q).2 = nlt r.name q.name from rfl, z2] at hle
          cases hle
theorem giversFor_congr {ps : House} (hw : ∀ p ∈ ps, WP p) {n : Str} {w : Want} (hlo : 1 ≤ w.lo) (q : Part) (hq : q ∈ giversFor ps n w) : ∃ v, look q.faces.reverse w.face = some v ∧ makeOf q w.face = v := by
  unfold giversFor at hq
  obtain ⟨hm, hg⟩ := List.mem_filter.mp hq
  rw [Bool.and_eq_true] at hg
  have hg2 := hg.2
  unfold gives at hg2
  rw [Bool.and_eq_true, decide_eq_true_eq, decide_eq_true_eq] at hg2
  cases z : look q.faces.reverse w.face with
  | none =>
    exfalso
    have : makeOf q w.face = 0 := by unfold makeOf; rw [z]; rfl
    omega
  | some v => exact ⟨v, rfl, by unfold makeOf; rw [z]; rfl⟩
theorem ev_law_giver {ps : House} (w' : WH ps) (n : Str) {w : Want} (hlo : 1 ≤ w.lo) : m__law_giver [.list (ps.map eP), .str n, eW w] = some (eO (giverAmong ps n w)) := by
  have c1 : compL (sN 4) ct__law_giver_0 ce__law_giver_1 (wipeE [.dat (.list (ps.map eP)), .dat (.str n), .dat (eW w), .un, .un] [4]) (ps.map eP) = some ((giversFor ps n w).map fun p => eIS (keyOf w.face p)) := by
    refine compL_map eP _ _ ps fun q hq => ⟨_, rfl, ?_, fun hg => ?_⟩
    · have h1 := ev_law_give (w'.parts q hq) hlo
      by_cases h2 : q.name = n <;> simp [ct__law_giver_0, bodyD, startE, qSeq, qSet, qOwn, qRet, qIf, qNil, qFor, qApp, qExt, qPut, qRetOwn, qAlias, qAsg, qBrk, qCont, qDrop, qPop, fGet2, f1, f2, fV, fW, fC, fCons, fNil, fTup, fLst, fCall, fB, fAndB, fOrB, fNotB, fAndV, fOrV, fNotV, fIf, fChain, fIt, fLc, fYes, sN, sCons, sNil, wipeE, itemsH, lstH, lenH, ixP0, ixP1, ixP2, ixP3, ixP4, ixW0, ixW1, ixW2, ixW3, ixF0, ixF1, ixK0, ixK1, ixK2, ixT0, ixT1, ixT2, ixT3, ixL0, lenD_l, lenD_t, lenD_s, lstD_l, lstD_t, tupD_l, tupD_t, itemsD_l, itemsD_t, addD_i, addD_s, addD_t, subD_i, catD_l, intD_i, intD_b, isND_n, notND_n, isNone_n, isNone_s, isNone_i, isNone_b, isNone_l, isNone_t, isNone_p, isNone_o, modD_i, fdivD_i, timesD_t, min2_i, max2_i, negD_i, asB_b, Option.bind_some, Option.map_some, List.map_cons, List.map_nil, List.length_cons, List.length_nil, List.replicate, List.append_nil, List.getElem?_cons_zero, List.getElem?_cons_succ, eqD_O, neD_O, eqD_int, neD_int, eqD_str, neD_str, ltD_int, gtD_int, leD_int, geD_int, sizeLine_eq, List.set_cons_zero, List.set_cons_succ, seqD_l, seqD_t, sTup_t, h1, h2]
    · obtain ⟨v, h1, h2⟩ := giversFor_congr w'.parts (n := n) hlo q (List.mem_filter.mpr ⟨hq, hg⟩)
      have e1 : dictD (.tuple (q.faces.map eF)) = some (.dict (mergeD [] (q.faces.map fun a => (.inr a.1, .int a.2)))) := by
        unfold dictD
        show (pairsD (q.faces.map fun a => .tuple [.str a.1, .int a.2])).map _ = _
        rw [pairsD_map]; rfl
      have e2 : ixD (.dict (mergeD [] (q.faces.map fun a => (.inr a.1, .int a.2)))) (.str w.face) = some (.int (makeOf q w.face)) := by
        show getKV _ (.inr w.face) = _
        rw [getKV_merge, ← List.map_reverse, look_map_key, h1, h2]; rfl
      simp [ce__law_giver_1, bodyD, startE, qSeq, qSet, qOwn, qRet, qIf, qNil, qFor, qApp, qExt, qPut, qRetOwn, qAlias, qAsg, qBrk, qCont, qDrop, qPop, fGet2, f1, f2, fV, fW, fC, fCons, fNil, fTup, fLst, fCall, fB, fAndB, fOrB, fNotB, fAndV, fOrV, fNotV, fIf, fChain, fIt, fLc, fYes, sN, sCons, sNil, wipeE, itemsH, lstH, lenH, ixP0, ixP1, ixP2, ixP3, ixP4, ixW0, ixW1, ixW2, ixW3, ixF0, ixF1, ixK0, ixK1, ixK2, ixT0, ixT1, ixT2, ixT3, ixL0, lenD_l, lenD_t, lenD_s, lstD_l, lstD_t, tupD_l, tupD_t, itemsD_l, itemsD_t, addD_i, addD_s, addD_t, subD_i, catD_l, intD_i, intD_b, isND_n, notND_n, isNone_n, isNone_s, isNone_i, isNone_b, isNone_l, isNone_t, isNone_p, isNone_o, modD_i, fdivD_i, timesD_t, min2_i, max2_i, negD_i, asB_b, Option.bind_some, Option.map_some, List.map_cons, List.map_nil, List.length_cons, List.length_nil, List.replicate, List.append_nil, List.getElem?_cons_zero, List.getElem?_cons_succ, eqD_O, neD_O, eqD_int, neD_int, eqD_str, neD_str, ltD_int, gtD_int, leD_int, geD_int, sizeLine_eq, List.set_cons_zero, List.set_cons_succ, seqD_l, seqD_t, sTup_t, e1, e2, eIS, keyOf]
  have c2 := sortD_IS ((giversFor ps n w).map (keyOf w.face))
  rw [List.map_map] at c2
  have c2' : sortD (.list ((giversFor ps n w).map fun p => eIS (keyOf w.face p))) = some (.list ((sortT eIS ((giversFor ps n w).map (keyOf w.face))).map eIS)) := c2
  have hsub : (giversFor ps n w).Sublist ps := List.filter_sublist
  have hp : (giversFor ps n w).Pairwise fun p q => nlt p.name q.name = true := (List.pairwise_map.mp w'.names).sublist hsub
  have h3 := giver_head w.face (giversFor ps n w) hp
  have hlen : (sortT eIS ((giversFor ps n w).map (keyOf w.face))).length ≤ 100 := by
    rw [sortT_len, List.length_map]; exact Nat.le_trans hsub.length_le w'.len
  unfold giverAmong
  rw [← h3]
  simp only [bodyD, startE, qSeq, qSet, qOwn, qRet, qIf, qNil, qFor, qApp, qExt, qPut, qRetOwn, qAlias, qAsg, qBrk, qCont, qDrop, qPop, fGet2, f1, f2, fV, fW, fC, fCons, fNil, fTup, fLst, fCall, fB, fAndB, fOrB, fNotB, fAndV, fOrV, fNotV, fIf, fChain, fIt, fLc, fYes, sN, sCons, sNil, wipeE, itemsH, lstH, lenH, ixP0, ixP1, ixP2, ixP3, ixP4, ixW0, ixW1, ixW2, ixW3, ixF0, ixF1, ixK0, ixK1, ixK2, ixT0, ixT1, ixT2, ixT3, ixL0, lenD_l, lenD_t, lenD_s, lstD_l, lstD_t, tupD_l, tupD_t, itemsD_l, itemsD_t, addD_i, addD_s, addD_t, subD_i, catD_l, intD_i, intD_b, isND_n, notND_n, isNone_n, isNone_s, isNone_i, isNone_b, isNone_l, isNone_t, isNone_p, isNone_o, modD_i, fdivD_i, timesD_t, min2_i, max2_i, negD_i, asB_b, Option.bind_some, Option.map_some, List.map_cons, List.map_nil, List.length_cons, List.length_nil, List.replicate, List.append_nil, List.getElem?_cons_zero, List.getElem?_cons_succ, eqD_O, neD_O, eqD_int, neD_int, eqD_str, neD_str, ltD_int, gtD_int, leD_int, geD_int, sizeLine_eq, List.set_cons_zero, List.set_cons_succ, seqD_l, seqD_t, sTup_t] at c1
  cases hs : sortT eIS ((giversFor ps n w).map (keyOf w.face)) with
  | nil =>
    rw [hs] at c2'
    simp only [m__law_giver, g__law_giver, bodyD, startE, qSeq, qSet, qOwn, qRet, qIf, qNil, qFor, qApp, qExt, qPut, qRetOwn, qAlias, qAsg, qBrk, qCont, qDrop, qPop, fGet2, f1, f2, fV, fW, fC, fCons, fNil, fTup, fLst, fCall, fB, fAndB, fOrB, fNotB, fAndV, fOrV, fNotV, fIf, fChain, fIt, fLc, fYes, sN, sCons, sNil, wipeE, itemsH, lstH, lenH, ixP0, ixP1, ixP2, ixP3, ixP4, ixW0, ixW1, ixW2, ixW3, ixF0, ixF1, ixK0, ixK1, ixK2, ixT0, ixT1, ixT2, ixT3, ixL0, lenD_l, lenD_t, lenD_s, lstD_l, lstD_t, tupD_l, tupD_t, itemsD_l, itemsD_t, addD_i, addD_s, addD_t, subD_i, catD_l, intD_i, intD_b, isND_n, notND_n, isNone_n, isNone_s, isNone_i, isNone_b, isNone_l, isNone_t, isNone_p, isNone_o, modD_i, fdivD_i, timesD_t, min2_i, max2_i, negD_i, asB_b, Option.bind_some, Option.map_some, List.map_cons, List.map_nil, List.length_cons, List.length_nil, List.replicate, List.append_nil, List.getElem?_cons_zero, List.getElem?_cons_succ, eqD_O, neD_O, eqD_int, neD_int, eqD_str, neD_str, ltD_int, gtD_int, leD_int, geD_int, sizeLine_eq, List.set_cons_zero, List.set_cons_succ, seqD_l, seqD_t, sTup_t] at c1 ⊢
    simp [c1, bodyD, startE, qSeq, qSet, qOwn, qRet, qIf, qNil, qFor, qApp, qExt, qPut, qRetOwn, qAlias, qAsg, qBrk, qCont, qDrop, qPop, fGet2, f1, f2, fV, fW, fC, fCons, fNil, fTup, fLst, fCall, fB, fAndB, fOrB, fNotB, fAndV, fOrV, fNotV, fIf, fChain, fIt, fLc, fYes, sN, sCons, sNil, wipeE, itemsH, lstH, lenH, ixP0, ixP1, ixP2, ixP3, ixP4, ixW0, ixW1, ixW2, ixW3, ixF0, ixF1, ixK0, ixK1, ixK2, ixT0, ixT1, ixT2, ixT3, ixL0, lenD_l, lenD_t, lenD_s, lstD_l, lstD_t, tupD_l, tupD_t, itemsD_l, itemsD_t, addD_i, addD_s, addD_t, subD_i, catD_l, intD_i, intD_b, isND_n, notND_n, isNone_n, isNone_s, isNone_i, isNone_b, isNone_l, isNone_t, isNone_p, isNone_o, modD_i, fdivD_i, timesD_t, min2_i, max2_i, negD_i, asB_b, Option.bind_some, Option.map_some, List.map_cons, List.map_nil, List.length_cons, List.length_nil, List.replicate, List.append_nil, List.getElem?_cons_zero, List.getElem?_cons_succ, eqD_O, neD_O, eqD_int, neD_int, eqD_str, neD_str, ltD_int, gtD_int, leD_int, geD_int, sizeLine_eq, List.set_cons_zero, List.set_cons_succ, seqD_l, seqD_t, sTup_t, c2', eO]
  | cons x xs =>
    rw [hs] at c2' hlen
    rw [List.length_cons] at hlen
    have z : xs.length + 1 + 1 ≤ 16777216 := by omega
    simp only [m__law_giver, g__law_giver, bodyD, startE, qSeq, qSet, qOwn, qRet, qIf, qNil, qFor, qApp, qExt, qPut, qRetOwn, qAlias, qAsg, qBrk, qCont, qDrop, qPop, fGet2, f1, f2, fV, fW, fC, fCons, fNil, fTup, fLst, fCall, fB, fAndB, fOrB, fNotB, fAndV, fOrV, fNotV, fIf, fChain, fIt, fLc, fYes, sN, sCons, sNil, wipeE, itemsH, lstH, lenH, ixP0, ixP1, ixP2, ixP3, ixP4, ixW0, ixW1, ixW2, ixW3, ixF0, ixF1, ixK0, ixK1, ixK2, ixT0, ixT1, ixT2, ixT3, ixL0, lenD_l, lenD_t, lenD_s, lstD_l, lstD_t, tupD_l, tupD_t, itemsD_l, itemsD_t, addD_i, addD_s, addD_t, subD_i, catD_l, intD_i, intD_b, isND_n, notND_n, isNone_n, isNone_s, isNone_i, isNone_b, isNone_l, isNone_t, isNone_p, isNone_o, modD_i, fdivD_i, timesD_t, min2_i, max2_i, negD_i, asB_b, Option.bind_some, Option.map_some, List.map_cons, List.map_nil, List.length_cons, List.length_nil, List.replicate, List.append_nil, List.getElem?_cons_zero, List.getElem?_cons_succ, eqD_O, neD_O, eqD_int, neD_int, eqD_str, neD_str, ltD_int, gtD_int, leD_int, geD_int, sizeLine_eq, List.set_cons_zero, List.set_cons_succ, seqD_l, seqD_t, sTup_t] at c1 ⊢
    simp [c1, bodyD, startE, qSeq, qSet, qOwn, qRet, qIf, qNil, qFor, qApp, qExt, qPut, qRetOwn, qAlias, qAsg, qBrk, qCont, qDrop, qPop, fGet2, f1, f2, fV, fW, fC, fCons, fNil, fTup, fLst, fCall, fB, fAndB, fOrB, fNotB, fAndV, fOrV, fNotV, fIf, fChain, fIt, fLc, fYes, sN, sCons, sNil, wipeE, itemsH, lstH, lenH, ixP0, ixP1, ixP2, ixP3, ixP4, ixW0, ixW1, ixW2, ixW3, ixF0, ixF1, ixK0, ixK1, ixK2, ixT0, ixT1, ixT2, ixT3, ixL0, lenD_l, lenD_t, lenD_s, lstD_l, lstD_t, tupD_l, tupD_t, itemsD_l, itemsD_t, addD_i, addD_s, addD_t, subD_i, catD_l, intD_i, intD_b, isND_n, notND_n, isNone_n, isNone_s, isNone_i, isNone_b, isNone_l, isNone_t, isNone_p, isNone_o, modD_i, fdivD_i, timesD_t, min2_i, max2_i, negD_i, asB_b, Option.bind_some, Option.map_some, List.map_cons, List.map_nil, List.length_cons, List.length_nil, List.replicate, List.append_nil, List.getElem?_cons_zero, List.getElem?_cons_succ, eqD_O, neD_O, eqD_int, neD_int, eqD_str, neD_str, ltD_int, gtD_int, leD_int, geD_int, sizeLine_eq, List.set_cons_zero, List.set_cons_succ, seqD_l, seqD_t, sTup_t, c2', eO, z]
    simp [eIS, bodyD, startE, qSeq, qSet, qOwn, qRet, qIf, qNil, qFor, qApp, qExt, qPut, qRetOwn, qAlias, qAsg, qBrk, qCont, qDrop, qPop, fGet2, f1, f2, fV, fW, fC, fCons, fNil, fTup, fLst, fCall, fB, fAndB, fOrB, fNotB, fAndV, fOrV, fNotV, fIf, fChain, fIt, fLc, fYes, sN, sCons, sNil, wipeE, itemsH, lstH, lenH, ixP0, ixP1, ixP2, ixP3, ixP4, ixW0, ixW1, ixW2, ixW3, ixF0, ixF1, ixK0, ixK1, ixK2, ixT0, ixT1, ixT2, ixT3, ixL0, lenD_l, lenD_t, lenD_s, lstD_l, lstD_t, tupD_l, tupD_t, itemsD_l, itemsD_t, addD_i, addD_s, addD_t, subD_i, catD_l, intD_i, intD_b, isND_n, notND_n, isNone_n, isNone_s, isNone_i, isNone_b, isNone_l, isNone_t, isNone_p, isNone_o, modD_i, fdivD_i, timesD_t, min2_i, max2_i, negD_i, asB_b, Option.bind_some, Option.map_some, List.map_cons, List.map_nil, List.length_cons, List.length_nil, List.replicate, List.append_nil, List.getElem?_cons_zero, List.getElem?_cons_succ, eqD_O, neD_O, eqD_int, neD_int, eqD_str, neD_str, ltD_int, gtD_int, leD_int, geD_int, sizeLine_eq, List.set_cons_zero, List.set_cons_succ, seqD_l, seqD_t, sTup_t]
theorem ev_law_givers {h : House} (w : WH h) (h7 : h.length ≤ 7) : m__law_givers [eH h] = some (eB (giversBook h)) := by
  have h1 := ev_law_stand w h7
  have nd' : ((stand h).map (·.name)).Nodup := w.stand.nd
  have hlen : (stand h).length ≤ 100 := w.stand.len
  have key : ∀ (qs done : House), done ++ qs = stand h → ∀ j1 j2 j3 j4, ∃ env', loopS (sN 3) lb__law_givers_2 (qs.map eP) [.dat (eH h), .dat (.list ((stand h).map eP)), .own (eB (done.map fun p => (p.name, p.wants.filterMap (giverAmong (stand h) p.name)))), j1, j2, j3, j4] = some (.next env') ∧
      ∃ j1 j2 j3 j4, env' = [.dat (eH h), .dat (.list ((stand h).map eP)), .own (eB (giversBook h)), j1, j2, j3, j4] := by
    intro qs
    induction qs with
    | nil =>
      intro done hd j1 j2 j3 j4
      rw [List.append_nil] at hd
      subst hd
      exact ⟨_, rfl, _, _, _, _, rfl⟩
    | cons p qs ih =>
      intro done hd j1 j2 j3 j4
      have hd2 : (done ++ [p]) ++ qs = stand h := by rw [← hd, List.append_assoc]; rfl
      have hpm : p ∈ stand h := by rw [← hd]; exact List.mem_append_right _ List.mem_cons_self
      have hnot : p.name ∉ done.map (·.name) := by
        rw [← hd, List.map_append, List.nodup_append] at nd'
        intro hm
        exact nd'.2.2 _ hm _ (by rw [List.map_cons]; exact List.mem_cons_self) rfl
      have hdl : done.length < 100 := by
        have := congrArg List.length hd
        rw [List.length_append, List.length_cons] at this
        omega
      have c1 : compL (sN 5) fYes ce__law_givers_0 (wipeE [.dat (eH h), .dat (.list ((stand h).map eP)), .own (eB (done.map fun p => (p.name, p.wants.filterMap (giverAmong (stand h) p.name)))), .dat (eP p), j2, j3, j4] [5]) (p.wants.map eW) = some ((p.wants.filter fun _ => true).map fun w => eO (giverAmong (stand h) p.name w)) :=
        compL_map eW _ _ _ fun x hx => ⟨_, rfl, rfl, fun _ => by simp [ce__law_givers_0, bodyD, startE, qSeq, qSet, qOwn, qRet, qIf, qNil, qFor, qApp, qExt, qPut, qRetOwn, qAlias, qAsg, qBrk, qCont, qDrop, qPop, fGet2, f1, f2, fV, fW, fC, fCons, fNil, fTup, fLst, fCall, fB, fAndB, fOrB, fNotB, fAndV, fOrV, fNotV, fIf, fChain, fIt, fLc, fYes, sN, sCons, sNil, wipeE, itemsH, lstH, lenH, ixP0, ixP1, ixP2, ixP3, ixP4, ixW0, ixW1, ixW2, ixW3, ixF0, ixF1, ixK0, ixK1, ixK2, ixT0, ixT1, ixT2, ixT3, ixL0, lenD_l, lenD_t, lenD_s, lstD_l, lstD_t, tupD_l, tupD_t, itemsD_l, itemsD_t, addD_i, addD_s, addD_t, subD_i, catD_l, intD_i, intD_b, isND_n, notND_n, isNone_n, isNone_s, isNone_i, isNone_b, isNone_l, isNone_t, isNone_p, isNone_o, modD_i, fdivD_i, timesD_t, min2_i, max2_i, negD_i, asB_b, Option.bind_some, Option.map_some, List.map_cons, List.map_nil, List.length_cons, List.length_nil, List.replicate, List.append_nil, List.getElem?_cons_zero, List.getElem?_cons_succ, eqD_O, neD_O, eqD_int, neD_int, eqD_str, neD_str, ltD_int, gtD_int, leD_int, geD_int, sizeLine_eq, List.set_cons_zero, List.set_cons_succ, seqD_l, seqD_t, sTup_t, ev_law_giver w.stand p.name ((w.stand.parts p hpm).lo x hx)]⟩
      rw [filter_true] at c1
      have c2 : compL (sN 6) ct__law_givers_1 (fV 6) (wipeE [.dat (eH h), .dat (.list ((stand h).map eP)), .own (eB (done.map fun p => (p.name, p.wants.filterMap (giverAmong (stand h) p.name)))), .dat (eP p), .dat (.list (p.wants.map fun w => eO (giverAmong (stand h) p.name w))), j3, j4] [6]) ((p.wants.map (giverAmong (stand h) p.name)).map eO) = some ((p.wants.filterMap (giverAmong (stand h) p.name)).map eS) := by
        rw [← filterMap_comp]
        refine compL_map eO _ _ _ fun o ho => ⟨_, rfl, ?_, fun _ => rfl⟩
        cases o <;> simp [ct__law_givers_1, bodyD, startE, qSeq, qSet, qOwn, qRet, qIf, qNil, qFor, qApp, qExt, qPut, qRetOwn, qAlias, qAsg, qBrk, qCont, qDrop, qPop, fGet2, f1, f2, fV, fW, fC, fCons, fNil, fTup, fLst, fCall, fB, fAndB, fOrB, fNotB, fAndV, fOrV, fNotV, fIf, fChain, fIt, fLc, fYes, sN, sCons, sNil, wipeE, itemsH, lstH, lenH, ixP0, ixP1, ixP2, ixP3, ixP4, ixW0, ixW1, ixW2, ixW3, ixF0, ixF1, ixK0, ixK1, ixK2, ixT0, ixT1, ixT2, ixT3, ixL0, lenD_l, lenD_t, lenD_s, lstD_l, lstD_t, tupD_l, tupD_t, itemsD_l, itemsD_t, addD_i, addD_s, addD_t, subD_i, catD_l, intD_i, intD_b, isND_n, notND_n, isNone_n, isNone_s, isNone_i, isNone_b, isNone_l, isNone_t, isNone_p, isNone_o, modD_i, fdivD_i, timesD_t, min2_i, max2_i, negD_i, asB_b, Option.bind_some, Option.map_some, List.map_cons, List.map_nil, List.length_cons, List.length_nil, List.replicate, List.append_nil, List.getElem?_cons_zero, List.getElem?_cons_succ, eqD_O, neD_O, eqD_int, neD_int, eqD_str, neD_str, ltD_int, gtD_int, leD_int, geD_int, sizeLine_eq, List.set_cons_zero, List.set_cons_succ, seqD_l, seqD_t, sTup_t]
      rw [List.map_map] at c2
      have c2' : compL (sN 6) ct__law_givers_1 (fV 6) (wipeE [.dat (eH h), .dat (.list ((stand h).map eP)), .own (eB (done.map fun p => (p.name, p.wants.filterMap (giverAmong (stand h) p.name)))), .dat (eP p), .dat (.list (p.wants.map fun w => eO (giverAmong (stand h) p.name w))), j3, j4] [6]) (p.wants.map fun w => eO (giverAmong (stand h) p.name w)) = some ((p.wants.filterMap (giverAmong (stand h) p.name)).map eS) := c2
      have hput := put_book (done.map fun p => (p.name, p.wants.filterMap (giverAmong (stand h) p.name))) p.name (p.wants.filterMap (giverAmong (stand h) p.name)) (by rw [List.map_map]; exact hnot)
      obtain ⟨env', k1, k2⟩ := ih (done ++ [p]) hd2 (.dat (eP p)) (.dat (.list (p.wants.map fun w => eO (giverAmong (stand h) p.name w)))) j3 j4
      refine ⟨env', ?_, k2⟩
      rw [← k1, List.map_cons, loopS]
      simp [bodyD, startE, qSeq, qSet, qOwn, qRet, qIf, qNil, qFor, qApp, qExt, qPut, qRetOwn, qAlias, qAsg, qBrk, qCont, qDrop, qPop, fGet2, f1, f2, fV, fW, fC, fCons, fNil, fTup, fLst, fCall, fB, fAndB, fOrB, fNotB, fAndV, fOrV, fNotV, fIf, fChain, fIt, fLc, fYes, sN, sCons, sNil, wipeE, itemsH, lstH, lenH, ixP0, ixP1, ixP2, ixP3, ixP4, ixW0, ixW1, ixW2, ixW3, ixF0, ixF1, ixK0, ixK1, ixK2, ixT0, ixT1, ixT2, ixT3, ixL0, lenD_l, lenD_t, lenD_s, lstD_l, lstD_t, tupD_l, tupD_t, itemsD_l, itemsD_t, addD_i, addD_s, addD_t, subD_i, catD_l, intD_i, intD_b, isND_n, notND_n, isNone_n, isNone_s, isNone_i, isNone_b, isNone_l, isNone_t, isNone_p, isNone_o, modD_i, fdivD_i, timesD_t, min2_i, max2_i, negD_i, asB_b, Option.bind_some, Option.map_some, List.map_cons, List.map_nil, List.length_cons, List.length_nil, List.replicate, List.append_nil, List.getElem?_cons_zero, List.getElem?_cons_succ, eqD_O, neD_O, eqD_int, neD_int, eqD_str, neD_str, ltD_int, gtD_int, leD_int, geD_int, sizeLine_eq, List.set_cons_zero, List.set_cons_succ, seqD_l, seqD_t, sTup_t, lb__law_givers_2] at c1 c2' ⊢
      rw [c1]
      simp [bodyD, startE, qSeq, qSet, qOwn, qRet, qIf, qNil, qFor, qApp, qExt, qPut, qRetOwn, qAlias, qAsg, qBrk, qCont, qDrop, qPop, fGet2, f1, f2, fV, fW, fC, fCons, fNil, fTup, fLst, fCall, fB, fAndB, fOrB, fNotB, fAndV, fOrV, fNotV, fIf, fChain, fIt, fLc, fYes, sN, sCons, sNil, wipeE, itemsH, lstH, lenH, ixP0, ixP1, ixP2, ixP3, ixP4, ixW0, ixW1, ixW2, ixW3, ixF0, ixF1, ixK0, ixK1, ixK2, ixT0, ixT1, ixT2, ixT3, ixL0, lenD_l, lenD_t, lenD_s, lstD_l, lstD_t, tupD_l, tupD_t, itemsD_l, itemsD_t, addD_i, addD_s, addD_t, subD_i, catD_l, intD_i, intD_b, isND_n, notND_n, isNone_n, isNone_s, isNone_i, isNone_b, isNone_l, isNone_t, isNone_p, isNone_o, modD_i, fdivD_i, timesD_t, min2_i, max2_i, negD_i, asB_b, Option.bind_some, Option.map_some, List.map_cons, List.map_nil, List.length_cons, List.length_nil, List.replicate, List.append_nil, List.getElem?_cons_zero, List.getElem?_cons_succ, eqD_O, neD_O, eqD_int, neD_int, eqD_str, neD_str, ltD_int, gtD_int, leD_int, geD_int, sizeLine_eq, List.set_cons_zero, List.set_cons_succ, seqD_l, seqD_t, sTup_t]
      rw [c2']
      simp only [Option.map_some, Option.bind_some]
      simp [bodyD, startE, qSeq, qSet, qOwn, qRet, qIf, qNil, qFor, qApp, qExt, qPut, qRetOwn, qAlias, qAsg, qBrk, qCont, qDrop, qPop, fGet2, f1, f2, fV, fW, fC, fCons, fNil, fTup, fLst, fCall, fB, fAndB, fOrB, fNotB, fAndV, fOrV, fNotV, fIf, fChain, fIt, fLc, fYes, sN, sCons, sNil, wipeE, itemsH, lstH, lenH, ixP0, ixP1, ixP2, ixP3, ixP4, ixW0, ixW1, ixW2, ixW3, ixF0, ixF1, ixK0, ixK1, ixK2, ixT0, ixT1, ixT2, ixT3, ixL0, lenD_l, lenD_t, lenD_s, lstD_l, lstD_t, tupD_l, tupD_t, itemsD_l, itemsD_t, addD_i, addD_s, addD_t, subD_i, catD_l, intD_i, intD_b, isND_n, notND_n, isNone_n, isNone_s, isNone_i, isNone_b, isNone_l, isNone_t, isNone_p, isNone_o, modD_i, fdivD_i, timesD_t, min2_i, max2_i, negD_i, asB_b, Option.bind_some, Option.map_some, List.map_cons, List.map_nil, List.length_cons, List.length_nil, List.replicate, List.append_nil, List.getElem?_cons_zero, List.getElem?_cons_succ, eqD_O, neD_O, eqD_int, neD_int, eqD_str, neD_str, ltD_int, gtD_int, leD_int, geD_int, sizeLine_eq, List.set_cons_zero, List.set_cons_succ, seqD_l, seqD_t, sTup_t, eB, toKey]
      rw [if_pos (by omega)]
      simp only [Option.bind_some]
      simp [eB] at hput
      rw [hput]
  obtain ⟨_, k1, j1, j2, j3, j4, rfl⟩ := key (stand h) [] rfl .un .un .un .un
  simp [m__law_givers, g__law_givers, bodyD, startE, qSeq, qSet, qOwn, qRet, qIf, qNil, qFor, qApp, qExt, qPut, qRetOwn, qAlias, qAsg, qBrk, qCont, qDrop, qPop, fGet2, f1, f2, fV, fW, fC, fCons, fNil, fTup, fLst, fCall, fB, fAndB, fOrB, fNotB, fAndV, fOrV, fNotV, fIf, fChain, fIt, fLc, fYes, sN, sCons, sNil, wipeE, itemsH, lstH, lenH, ixP0, ixP1, ixP2, ixP3, ixP4, ixW0, ixW1, ixW2, ixW3, ixF0, ixF1, ixK0, ixK1, ixK2, ixT0, ixT1, ixT2, ixT3, ixL0, lenD_l, lenD_t, lenD_s, lstD_l, lstD_t, tupD_l, tupD_t, itemsD_l, itemsD_t, addD_i, addD_s, addD_t, subD_i, catD_l, intD_i, intD_b, isND_n, notND_n, isNone_n, isNone_s, isNone_i, isNone_b, isNone_l, isNone_t, isNone_p, isNone_o, modD_i, fdivD_i, timesD_t, min2_i, max2_i, negD_i, asB_b, Option.bind_some, Option.map_some, List.map_cons, List.map_nil, List.length_cons, List.length_nil, List.replicate, List.append_nil, List.getElem?_cons_zero, List.getElem?_cons_succ, eqD_O, neD_O, eqD_int, neD_int, eqD_str, neD_str, ltD_int, gtD_int, leD_int, geD_int, sizeLine_eq, List.set_cons_zero, List.set_cons_succ, seqD_l, seqD_t, sTup_t, h1, eB] at k1 ⊢
  rw [k1]; rfl
/-! ### the book of a house in order -/
theorem giverAmong_in {ps : House} {n : Str} {w : Want} {m : Str} (h : giverAmong ps n w = some m) : ∃ q ∈ ps, q.name = m ∧ q.name ≠ n ∧ gives q w = true := by
  unfold giverAmong at h
  cases z : (giversFor ps n w).foldl (better w.face) none with
  | none => rw [z] at h; cases h
  | some q =>
    rw [z] at h
    cases h
    have hq : ∀ (qs : House) (s : Option Part), (∀ b, s = some b → b ∈ giversFor ps n w) → (∀ b ∈ qs, b ∈ giversFor ps n w) → ∀ r, qs.foldl (better w.face) s = some r → r ∈ giversFor ps n w := fun qs => by
      induction qs with
      | nil => intro s hs _ r hr; exact hs r hr
      | cons x qs ih =>
        intro s hs hq r hr
        refine ih _ (fun b hb => ?_) (fun b hb => hq b (List.mem_cons_of_mem _ hb)) r hr
        cases s with
        | none => cases hb; exact hq _ List.mem_cons_self
        | some c =>
          rw [better] at hb
          split at hb
          · cases hb; exact hq _ List.mem_cons_self
          · cases hb; exact hs _ rfl
    have := hq _ none (fun _ e => nomatch e) (fun b hb => hb) q z
    obtain ⟨h1, h2⟩ := List.mem_filter.mp this
    rw [Bool.and_eq_true] at h2
    exact ⟨q, h1, rfl, by simpa using h2.1, h2.2⟩
theorem book_keys (h : House) : (giversBook h).map (·.1) = (stand h).map (·.name) := by unfold giversBook; rw [List.map_map]; rfl
theorem WH.bok {h : House} (w : WH h) : BOk (giversBook h) := by
  refine ⟨by rw [book_keys]; exact w.stand.nd, fun x hx => ?_, by unfold giversBook; rw [List.length_map]; exact w.stand.len, fun x hx => ?_⟩
  · obtain ⟨p, hp, rfl⟩ := List.mem_map.mp hx
    exact (w.stand.parts p hp).nlen
  · obtain ⟨p, hp, rfl⟩ := List.mem_map.mp hx
    exact Nat.le_trans (List.length_filterMap_le _ _) (w.stand.parts p hp).wlen
theorem WH.closed {h : House} (w : WH h) : ∀ x ∈ giversBook h, ∀ y ∈ x.2, y ∈ (giversBook h).map (·.1) := by
  intro x hx y hy
  obtain ⟨p, hp, rfl⟩ := List.mem_map.mp hx
  obtain ⟨v, hv, e⟩ := List.mem_filterMap.mp hy
  obtain ⟨q, h1, h2, _⟩ := giverAmong_in e
  rw [book_keys]
  exact List.mem_map.mpr ⟨q, h1, h2⟩
theorem WH.givers {h : House} (w : WH h) : m_givers [eH h] = some (eB (giversBook h)) := ev_givers h w.sm w.nd (stand_sub h)
theorem WH.order {h : House} (w : WH h) : m_order [eH h] = some (.tuple ((PD.order h).map eS)) := ev_order h w.givers w.bok
theorem WH.stuck {h : House} (w : WH h) : m_stuck [eH h] = some (.tuple ((PD.stuck h).map eS)) := ev_stuck h w.givers w.bok
theorem WH.leans {h : House} (w : WH h) {n : Str} (hn : n ∈ (PD.stand h).map (·.name)) : m_leans [eH h, .str n] = some (.tuple ((PD.leans h n).map eS)) := ev_leans h w.givers w.bok w.closed n (by rw [book_keys]; exact hn)
end PD

/-! PARTHOST, THE PLAIN PART 6: what the laws draw. -/
namespace PD
open PySem PySem.Spec PyProof.Rows L2
theorem timesD_ok {i j : Int} (h : (-(2 ^ 64) < i ∧ i < 2 ^ 64) ∨ (-(2 ^ 64) < j ∧ j < 2 ^ 64)) : timesD (.int i) (.int j) = some (.int (i * j)) := by
  show (if _ then _ else _) = _
  rw [if_pos h]
theorem timesD_l {i j : Int} (h : -(2 ^ 64) < i ∧ i < 2 ^ 64) : timesD (.int i) (.int j) = some (.int (i * j)) := timesD_ok (.inl h)
theorem timesD_r {i j : Int} (h : -(2 ^ 64) < j ∧ j < 2 ^ 64) : timesD (.int i) (.int j) = some (.int (i * j)) := timesD_ok (.inr h)
def cellAt (ns : List Int) (k : Nat) : Int := ns.getD k 0
def mix0 (c : Int) (k : Int) : Int := (c + 7919 * k + 1) * 48271 % 2147483647
def mixed (ns : List Int) (k : Nat) : Int := (mix0 (cellAt ns k) k * mix0 (cellAt ns k) k + 7 * mix0 (cellAt ns k) k + k) % 2147483629
theorem ev_cell_at (ns : List Int) (k : Nat) : m__law_cell_at [.list (ns.map fun i => .int i), .int k] = some (.int (cellAt ns k)) := by
  unfold cellAt
  by_cases h : k < ns.length
  · have e : ixD (.list (ns.map fun i => .int i)) (.int (k : Int)) = some (.int (ns.getD k 0)) := by
      show L2.atI _ _ = _
      unfold L2.atI L2.ixN
      rw [if_pos (by omega), if_pos (by rw [List.length_map]; omega)]
      simp [h]
    have h' : (k : Int) < (ns.length : Int) := by omega
    simp [m__law_cell_at, g__law_cell_at, bodyD, startE, qSeq, qSet, qOwn, qRet, qIf, qNil, qFor, qApp, qExt, qPut, qRetOwn, qAlias, qAsg, qBrk, qCont, qDrop, qPop, fGet2, f1, f2, fV, fW, fC, fCons, fNil, fTup, fLst, fCall, fB, fAndB, fOrB, fNotB, fAndV, fOrV, fNotV, fIf, fChain, fIt, fLc, fYes, sN, sCons, sNil, wipeE, itemsH, lstH, lenH, ixP0, ixP1, ixP2, ixP3, ixP4, ixW0, ixW1, ixW2, ixW3, ixF0, ixF1, ixK0, ixK1, ixK2, ixT0, ixT1, ixT2, ixT3, ixL0, lenD_l, lenD_t, lenD_s, lstD_l, lstD_t, tupD_l, tupD_t, itemsD_l, itemsD_t, addD_i, addD_s, addD_t, subD_i, catD_l, intD_i, intD_b, isND_n, notND_n, isNone_n, isNone_s, isNone_i, isNone_b, isNone_l, isNone_t, isNone_p, isNone_o, modD_i, fdivD_i, timesD_t, min2_i, max2_i, negD_i, asB_b, Option.bind_some, Option.map_some, List.map_cons, List.map_nil, List.length_cons, List.length_nil, List.replicate, List.append_nil, List.getElem?_cons_zero, List.getElem?_cons_succ, eqD_O, neD_O, eqD_int, neD_int, eqD_str, neD_str, ltD_int, gtD_int, leD_int, geD_int, sizeLine_eq, List.set_cons_zero, List.set_cons_succ, seqD_l, seqD_t, sTup_t, h', e]
  · have h' : ¬ (k : Int) < (ns.length : Int) := by omega
    simp [m__law_cell_at, g__law_cell_at, bodyD, startE, qSeq, qSet, qOwn, qRet, qIf, qNil, qFor, qApp, qExt, qPut, qRetOwn, qAlias, qAsg, qBrk, qCont, qDrop, qPop, fGet2, f1, f2, fV, fW, fC, fCons, fNil, fTup, fLst, fCall, fB, fAndB, fOrB, fNotB, fAndV, fOrV, fNotV, fIf, fChain, fIt, fLc, fYes, sN, sCons, sNil, wipeE, itemsH, lstH, lenH, ixP0, ixP1, ixP2, ixP3, ixP4, ixW0, ixW1, ixW2, ixW3, ixF0, ixF1, ixK0, ixK1, ixK2, ixT0, ixT1, ixT2, ixT3, ixL0, lenD_l, lenD_t, lenD_s, lstD_l, lstD_t, tupD_l, tupD_t, itemsD_l, itemsD_t, addD_i, addD_s, addD_t, subD_i, catD_l, intD_i, intD_b, isND_n, notND_n, isNone_n, isNone_s, isNone_i, isNone_b, isNone_l, isNone_t, isNone_p, isNone_o, modD_i, fdivD_i, timesD_t, min2_i, max2_i, negD_i, asB_b, Option.bind_some, Option.map_some, List.map_cons, List.map_nil, List.length_cons, List.length_nil, List.replicate, List.append_nil, List.getElem?_cons_zero, List.getElem?_cons_succ, eqD_O, neD_O, eqD_int, neD_int, eqD_str, neD_str, ltD_int, gtD_int, leD_int, geD_int, sizeLine_eq, List.set_cons_zero, List.set_cons_succ, seqD_l, seqD_t, sTup_t, h', h]
theorem ev_mixed (ns : List Int) (k : Nat) : m__law_mixed [.list (ns.map fun i => .int i), .int k] = some (.int (mixed ns k)) := by
  have h1 := ev_cell_at ns k
  have t1 : timesD (.int 7919) (.int (k : Int)) = some (.int (7919 * k)) := timesD_l (by omega)
  have t2 : timesD (.int (cellAt ns k + 7919 * k + 1)) (.int 48271) = some (.int ((cellAt ns k + 7919 * k + 1) * 48271)) := timesD_r (by omega)
  have t3 : timesD (.int (mix0 (cellAt ns k) k)) (.int (mix0 (cellAt ns k) k)) = some (.int (mix0 (cellAt ns k) k * mix0 (cellAt ns k) k)) := timesD_l (by unfold mix0; omega)
  have t4 : timesD (.int 7) (.int (mix0 (cellAt ns k) k)) = some (.int (7 * mix0 (cellAt ns k) k)) := timesD_l (by omega)
  unfold mixed
  unfold mix0 at t3 t4 ⊢
  simp [m__law_mixed, g__law_mixed, bodyD, startE, qSeq, qSet, qOwn, qRet, qIf, qNil, qFor, qApp, qExt, qPut, qRetOwn, qAlias, qAsg, qBrk, qCont, qDrop, qPop, fGet2, f1, f2, fV, fW, fC, fCons, fNil, fTup, fLst, fCall, fB, fAndB, fOrB, fNotB, fAndV, fOrV, fNotV, fIf, fChain, fIt, fLc, fYes, sN, sCons, sNil, wipeE, itemsH, lstH, lenH, ixP0, ixP1, ixP2, ixP3, ixP4, ixW0, ixW1, ixW2, ixW3, ixF0, ixF1, ixK0, ixK1, ixK2, ixT0, ixT1, ixT2, ixT3, ixL0, lenD_l, lenD_t, lenD_s, lstD_l, lstD_t, tupD_l, tupD_t, itemsD_l, itemsD_t, addD_i, addD_s, addD_t, subD_i, catD_l, intD_i, intD_b, isND_n, notND_n, isNone_n, isNone_s, isNone_i, isNone_b, isNone_l, isNone_t, isNone_p, isNone_o, modD_i, fdivD_i, timesD_t, min2_i, max2_i, negD_i, asB_b, Option.bind_some, Option.map_some, List.map_cons, List.map_nil, List.length_cons, List.length_nil, List.replicate, List.append_nil, List.getElem?_cons_zero, List.getElem?_cons_succ, eqD_O, neD_O, eqD_int, neD_int, eqD_str, neD_str, ltD_int, gtD_int, leD_int, geD_int, sizeLine_eq, List.set_cons_zero, List.set_cons_succ, seqD_l, seqD_t, sTup_t, h1, t1, t2, t3, t4]
def drawn0 (n k : Int) : Int := (n + 104729 * k + 17) * 69621 % 2147483647
def drawn (n k : Int) : Int := (drawn0 n k * drawn0 n k + 3 * drawn0 n k + k) % 2147483629
theorem ev_drawn (n k : Int) : m__law_drawn [.int n, .int k] = some (.int (drawn n k)) := by
  have t1 : timesD (.int 104729) (.int k) = some (.int (104729 * k)) := timesD_l (by omega)
  have t2 : timesD (.int (n + 104729 * k + 17)) (.int 69621) = some (.int ((n + 104729 * k + 17) * 69621)) := timesD_r (by omega)
  have t3 : timesD (.int (drawn0 n k)) (.int (drawn0 n k)) = some (.int (drawn0 n k * drawn0 n k)) := timesD_l (by unfold drawn0; omega)
  have t4 : timesD (.int 3) (.int (drawn0 n k)) = some (.int (3 * drawn0 n k)) := timesD_l (by omega)
  unfold drawn
  unfold drawn0 at t3 t4 ⊢
  simp [m__law_drawn, g__law_drawn, bodyD, startE, qSeq, qSet, qOwn, qRet, qIf, qNil, qFor, qApp, qExt, qPut, qRetOwn, qAlias, qAsg, qBrk, qCont, qDrop, qPop, fGet2, f1, f2, fV, fW, fC, fCons, fNil, fTup, fLst, fCall, fB, fAndB, fOrB, fNotB, fAndV, fOrV, fNotV, fIf, fChain, fIt, fLc, fYes, sN, sCons, sNil, wipeE, itemsH, lstH, lenH, ixP0, ixP1, ixP2, ixP3, ixP4, ixW0, ixW1, ixW2, ixW3, ixF0, ixF1, ixK0, ixK1, ixK2, ixT0, ixT1, ixT2, ixT3, ixL0, lenD_l, lenD_t, lenD_s, lstD_l, lstD_t, tupD_l, tupD_t, itemsD_l, itemsD_t, addD_i, addD_s, addD_t, subD_i, catD_l, intD_i, intD_b, isND_n, notND_n, isNone_n, isNone_s, isNone_i, isNone_b, isNone_l, isNone_t, isNone_p, isNone_o, modD_i, fdivD_i, timesD_t, min2_i, max2_i, negD_i, asB_b, Option.bind_some, Option.map_some, List.map_cons, List.map_nil, List.length_cons, List.length_nil, List.replicate, List.append_nil, List.getElem?_cons_zero, List.getElem?_cons_succ, eqD_O, neD_O, eqD_int, neD_int, eqD_str, neD_str, ltD_int, gtD_int, leD_int, geD_int, sizeLine_eq, List.set_cons_zero, List.set_cons_succ, seqD_l, seqD_t, sTup_t, t1, t2, t3, t4]
theorem drawn_bd (n k : Int) : 0 ≤ drawn n k ∧ drawn n k < 2147483629 := by unfold drawn; omega
theorem mixed_bd (ns : List Int) (k : Nat) : 0 ≤ mixed ns k ∧ mixed ns k < 2147483629 := by unfold mixed; omega
/-! ### faces, wants -/
def dP (n : Int) (k : Int) : Int := drawn n k / 4
def faceO (n : Int) (x : Int × Str) : List (Str × Int) := if dP n x.1 % 3 = 0 then [(x.2, 1 + dP n x.1 / 4 % 4)] else []
def lowO (n k : Int) : Int := 1 + dP n k / 4 % 3
def highO (n k : Int) : Int := if lowO n k + dP n k / 16 % 4 < 9 then lowO n k + dP n k / 16 % 4 else 9
def wantO (n : Int) (x : Int × Str) : List Want := if dP n x.1 % 4 = 1 then [⟨x.2, lowO n x.1, highO n x.1, decide (0 < dP n x.1 / 64 % 3)⟩] else []
def eN (x : Int × Str) : D := .tuple [.int x.1, .str x.2]
theorem ev_part_loop0 (n : Int) (nm : Str) (xs : List (Int × Str)) (hl : xs.length ≤ 100) (h4 : Slot) (i5 i6 i7 i8 i9 i10 i11 i12 i13 : Slot) : ∃ j5 j6 j7 j8 j9 j10 j11 j12 j13, loopS (sTup (sCons (sN 5) (sCons (sN 6) sNil))) lb__law_part_0 (xs.map eN)
      [.dat (.int n), .dat (.str nm), .dat (.tuple []), .dat (.tuple []), h4, i5, i6, i7, i8, i9, i10, i11, i12, i13] =
    some (.next [.dat (.int n), .dat (.str nm), .dat (.tuple ((xs.flatMap (faceO n)).map eF)), .dat (.tuple ((xs.flatMap (wantO n)).map eW)), h4, j5, j6, j7, j8, j9, j10, j11, j12, j13]) := by
  obtain ⟨env', k1, ⟨_, j5, j6, j7, j8, j9, j10, j11, j12, j13, k3⟩⟩ := loopS_foldN eN (t := sTup (sCons (sN 5) (sCons (sN 6) sNil))) (g := lb__law_part_0)
    (fun i (s : List (Str × Int) × List Want) env => (s.1.length ≤ i ∧ s.2.length ≤ i) ∧ ∃ j5 j6 j7 j8 j9 j10 j11 j12 j13, env = [.dat (.int n), .dat (.str nm), .dat (.tuple (s.1.map eF)), .dat (.tuple (s.2.map eW)), h4, j5, j6, j7, j8, j9, j10, j11, j12, j13])
    (fun s x => (s.1 ++ faceO n x, s.2 ++ wantO n x)) xs 0 (by
      rintro ⟨k, x⟩ hx i ⟨fs, ws⟩ _ ⟨⟨hf, hw⟩, j5, j6, j7, j8, j9, j10, j11, j12, j13, rfl⟩ hi
      dsimp only at hf hw ⊢
      have h1 := ev_drawn n k
      have z1 : fs.length + 1 ≤ 16777216 := by omega
      have z2 : ws.length + 1 ≤ 16777216 := by omega
      by_cases c1 : drawn n k / 4 % 3 = 0 <;> by_cases c2 : drawn n k / 4 % 4 = 1
      · refine ⟨_, [.dat (.int n), .dat (.str nm), .dat (.tuple ((fs ++ faceO n (k, x)).map eF)), .dat (.tuple ((ws ++ wantO n (k, x)).map eW)), h4, .dat (.int k), .dat (.str x), .dat (.int (drawn n k / 4)), .dat (.int (lowO n k)), .dat (eW ⟨x, lowO n k, highO n k, decide (0 < dP n k / 64 % 3)⟩), j10, j11, j12, j13], rfl, .inl ?_, ⟨?_, ?_⟩, _, _, _, _, _, _, _, _, _, rfl⟩
        · simp [lb__law_part_0, bodyD, startE, qSeq, qSet, qOwn, qRet, qIf, qNil, qFor, qApp, qExt, qPut, qRetOwn, qAlias, qAsg, qBrk, qCont, qDrop, qPop, fGet2, f1, f2, fV, fW, fC, fCons, fNil, fTup, fLst, fCall, fB, fAndB, fOrB, fNotB, fAndV, fOrV, fNotV, fIf, fChain, fIt, fLc, fYes, sN, sCons, sNil, wipeE, itemsH, lstH, lenH, ixP0, ixP1, ixP2, ixP3, ixP4, ixW0, ixW1, ixW2, ixW3, ixF0, ixF1, ixK0, ixK1, ixK2, ixT0, ixT1, ixT2, ixT3, ixL0, lenD_l, lenD_t, lenD_s, lstD_l, lstD_t, tupD_l, tupD_t, itemsD_l, itemsD_t, addD_i, addD_s, addD_t, subD_i, catD_l, intD_i, intD_b, isND_n, notND_n, isNone_n, isNone_s, isNone_i, isNone_b, isNone_l, isNone_t, isNone_p, isNone_o, modD_i, fdivD_i, timesD_t, min2_i, max2_i, negD_i, asB_b, Option.bind_some, Option.map_some, List.map_cons, List.map_nil, List.length_cons, List.length_nil, List.replicate, List.append_nil, List.getElem?_cons_zero, List.getElem?_cons_succ, eqD_O, neD_O, eqD_int, neD_int, eqD_str, neD_str, ltD_int, gtD_int, leD_int, geD_int, sizeLine_eq, List.set_cons_zero, List.set_cons_succ, seqD_l, seqD_t, sTup_t, eN, h1, c1, c2, z1, z2, faceO, wantO, dP, lowO, highO, eF, eW]
          exact ⟨rfl, rfl⟩
        · simp [faceO, dP, c1]; omega
        · simp [wantO, dP, c2]; omega
      · refine ⟨_, [.dat (.int n), .dat (.str nm), .dat (.tuple ((fs ++ faceO n (k, x)).map eF)), .dat (.tuple ((ws ++ wantO n (k, x)).map eW)), h4, .dat (.int k), .dat (.str x), .dat (.int (drawn n k / 4)), j8, j9, j10, j11, j12, j13], rfl, .inl ?_, ⟨?_, ?_⟩, _, _, _, _, _, _, _, _, _, rfl⟩
        · simp [lb__law_part_0, bodyD, startE, qSeq, qSet, qOwn, qRet, qIf, qNil, qFor, qApp, qExt, qPut, qRetOwn, qAlias, qAsg, qBrk, qCont, qDrop, qPop, fGet2, f1, f2, fV, fW, fC, fCons, fNil, fTup, fLst, fCall, fB, fAndB, fOrB, fNotB, fAndV, fOrV, fNotV, fIf, fChain, fIt, fLc, fYes, sN, sCons, sNil, wipeE, itemsH, lstH, lenH, ixP0, ixP1, ixP2, ixP3, ixP4, ixW0, ixW1, ixW2, ixW3, ixF0, ixF1, ixK0, ixK1, ixK2, ixT0, ixT1, ixT2, ixT3, ixL0, lenD_l, lenD_t, lenD_s, lstD_l, lstD_t, tupD_l, tupD_t, itemsD_l, itemsD_t, addD_i, addD_s, addD_t, subD_i, catD_l, intD_i, intD_b, isND_n, notND_n, isNone_n, isNone_s, isNone_i, isNone_b, isNone_l, isNone_t, isNone_p, isNone_o, modD_i, fdivD_i, timesD_t, min2_i, max2_i, negD_i, asB_b, Option.bind_some, Option.map_some, List.map_cons, List.map_nil, List.length_cons, List.length_nil, List.replicate, List.append_nil, List.getElem?_cons_zero, List.getElem?_cons_succ, eqD_O, neD_O, eqD_int, neD_int, eqD_str, neD_str, ltD_int, gtD_int, leD_int, geD_int, sizeLine_eq, List.set_cons_zero, List.set_cons_succ, seqD_l, seqD_t, sTup_t, eN, h1, c1, c2, z1, z2, faceO, wantO, dP, eF, eW]
        · simp [faceO, dP, c1]; omega
        · simp [wantO, dP, c2]; omega
      · refine ⟨_, [.dat (.int n), .dat (.str nm), .dat (.tuple ((fs ++ faceO n (k, x)).map eF)), .dat (.tuple ((ws ++ wantO n (k, x)).map eW)), h4, .dat (.int k), .dat (.str x), .dat (.int (drawn n k / 4)), .dat (.int (lowO n k)), .dat (eW ⟨x, lowO n k, highO n k, decide (0 < dP n k / 64 % 3)⟩), j10, j11, j12, j13], rfl, .inl ?_, ⟨?_, ?_⟩, _, _, _, _, _, _, _, _, _, rfl⟩
        · simp [lb__law_part_0, bodyD, startE, qSeq, qSet, qOwn, qRet, qIf, qNil, qFor, qApp, qExt, qPut, qRetOwn, qAlias, qAsg, qBrk, qCont, qDrop, qPop, fGet2, f1, f2, fV, fW, fC, fCons, fNil, fTup, fLst, fCall, fB, fAndB, fOrB, fNotB, fAndV, fOrV, fNotV, fIf, fChain, fIt, fLc, fYes, sN, sCons, sNil, wipeE, itemsH, lstH, lenH, ixP0, ixP1, ixP2, ixP3, ixP4, ixW0, ixW1, ixW2, ixW3, ixF0, ixF1, ixK0, ixK1, ixK2, ixT0, ixT1, ixT2, ixT3, ixL0, lenD_l, lenD_t, lenD_s, lstD_l, lstD_t, tupD_l, tupD_t, itemsD_l, itemsD_t, addD_i, addD_s, addD_t, subD_i, catD_l, intD_i, intD_b, isND_n, notND_n, isNone_n, isNone_s, isNone_i, isNone_b, isNone_l, isNone_t, isNone_p, isNone_o, modD_i, fdivD_i, timesD_t, min2_i, max2_i, negD_i, asB_b, Option.bind_some, Option.map_some, List.map_cons, List.map_nil, List.length_cons, List.length_nil, List.replicate, List.append_nil, List.getElem?_cons_zero, List.getElem?_cons_succ, eqD_O, neD_O, eqD_int, neD_int, eqD_str, neD_str, ltD_int, gtD_int, leD_int, geD_int, sizeLine_eq, List.set_cons_zero, List.set_cons_succ, seqD_l, seqD_t, sTup_t, eN, h1, c1, c2, z1, z2, faceO, wantO, dP, lowO, highO, eF, eW]
          exact ⟨rfl, rfl⟩
        · simp [faceO, dP, c1]; omega
        · simp [wantO, dP, c2]; omega
      · refine ⟨_, [.dat (.int n), .dat (.str nm), .dat (.tuple ((fs ++ faceO n (k, x)).map eF)), .dat (.tuple ((ws ++ wantO n (k, x)).map eW)), h4, .dat (.int k), .dat (.str x), .dat (.int (drawn n k / 4)), j8, j9, j10, j11, j12, j13], rfl, .inl ?_, ⟨?_, ?_⟩, _, _, _, _, _, _, _, _, _, rfl⟩
        · simp [lb__law_part_0, bodyD, startE, qSeq, qSet, qOwn, qRet, qIf, qNil, qFor, qApp, qExt, qPut, qRetOwn, qAlias, qAsg, qBrk, qCont, qDrop, qPop, fGet2, f1, f2, fV, fW, fC, fCons, fNil, fTup, fLst, fCall, fB, fAndB, fOrB, fNotB, fAndV, fOrV, fNotV, fIf, fChain, fIt, fLc, fYes, sN, sCons, sNil, wipeE, itemsH, lstH, lenH, ixP0, ixP1, ixP2, ixP3, ixP4, ixW0, ixW1, ixW2, ixW3, ixF0, ixF1, ixK0, ixK1, ixK2, ixT0, ixT1, ixT2, ixT3, ixL0, lenD_l, lenD_t, lenD_s, lstD_l, lstD_t, tupD_l, tupD_t, itemsD_l, itemsD_t, addD_i, addD_s, addD_t, subD_i, catD_l, intD_i, intD_b, isND_n, notND_n, isNone_n, isNone_s, isNone_i, isNone_b, isNone_l, isNone_t, isNone_p, isNone_o, modD_i, fdivD_i, timesD_t, min2_i, max2_i, negD_i, asB_b, Option.bind_some, Option.map_some, List.map_cons, List.map_nil, List.length_cons, List.length_nil, List.replicate, List.append_nil, List.getElem?_cons_zero, List.getElem?_cons_succ, eqD_O, neD_O, eqD_int, neD_int, eqD_str, neD_str, ltD_int, gtD_int, leD_int, geD_int, sizeLine_eq, List.set_cons_zero, List.set_cons_succ, seqD_l, seqD_t, sTup_t, eN, h1, c1, c2, z1, z2, faceO, wantO, dP, eF, eW]
        · simp [faceO, dP, c1]; omega
        · simp [wantO, dP, c2]; omega) ([], []) [.dat (.int n), .dat (.str nm), .dat (.tuple []), .dat (.tuple []), h4, i5, i6, i7, i8, i9, i10, i11, i12, i13] ⟨⟨Nat.zero_le _, Nat.zero_le _⟩, _, _, _, _, _, _, _, _, _, rfl⟩
  refine ⟨j5, j6, j7, j8, j9, j10, j11, j12, j13, ?_⟩
  have e : ∀ (xs : List (Int × Str)) (s : List (Str × Int) × List Want), xs.foldl (fun s x => (s.1 ++ faceO n x, s.2 ++ wantO n x)) s = (s.1 ++ xs.flatMap (faceO n), s.2 ++ xs.flatMap (wantO n)) := fun xs => by
    induction xs with
    | nil => intro s; simp
    | cons x xs ih => intro s; rw [List.foldl_cons, ih]; simp
  rw [k1, k3, e]
  rfl
/-! ### hooks -/
theorem ixS (xs : List Str) (i : Int) (h : 0 ≤ i ∧ i < xs.length) : ixD (.tuple (xs.map eS)) (.int i) = some (.str (xs.getD i.toNat "")) := by
  show L2.atI _ _ = _
  unfold L2.atI L2.ixN
  rw [if_pos h.1, if_pos (by rw [List.length_map]; exact h.2)]
  have hi : i.toNat < xs.length := by omega
  simp [hi, eS]
theorem ixI (xs : List Int) (i : Int) (h : 0 ≤ i ∧ i < xs.length) : ixD (.tuple (xs.map fun i => .int i)) (.int i) = some (.int (xs.getD i.toNat 0)) := by
  show L2.atI _ _ = _
  unfold L2.atI L2.ixN
  rw [if_pos h.1, if_pos (by rw [List.length_map]; exact h.2)]
  have hi : i.toNat < xs.length := by omega
  simp [hi]
def WORDS : List Str := ["plus", "times", "set", "stop", "fail", "plus"]
def wordO (n k : Int) : Str := WORDS.getD (dP n (10 + k) % 6).toNat ""
def argO (n k : Int) : Int := dP n (10 + k) / 8 % ([1000, 5] : List Int).getD (dP n (10 + k) / 8192 % 2).toNat 0
def hookO (n k : Int) : Hook := ⟨(["go", "end"] : List Str).getD (dP n (10 + k) / 16384 % 2).toNat "", ([0, -1, 5, -9] : List Int).getD (dP n (10 + k) / 32768 % 4).toNat 0, ⟨wordO n k, if wordO n k = "stop" then none else some (argO n k)⟩⟩
theorem getD2_pos (i : Int) : 0 < ([1000, 5] : List Int).getD (i % 2).toNat 0 := by
  have h : i % 2 = 0 ∨ i % 2 = 1 := by omega
  rcases h with h | h <;> rw [h] <;> decide
theorem ev_part_hook (n k : Int) (nm : Str) (h2 h3 : Slot) (ks : List Hook) (hl : ks.length ≤ 1000) (i6 i7 i8 i9 i10 i11 i12 i13 : Slot) : ∃ j7 j10 j11 j12 j13, lb__law_part_1 [.dat (.int n), .dat (.str nm), h2, h3, .dat (.tuple (ks.map eK)), .dat (.int k), i6, i7, i8, i9, i10, i11, i12, i13] =
    some (.next [.dat (.int n), .dat (.str nm), h2, h3, .dat (.tuple ((ks ++ [hookO n k]).map eK)), .dat (.int k), i6, j7, i8, i9, j10, j11, j12, j13]) := by
  have h1 := ev_drawn n (10 + k)
  have w1 := ixS WORDS (dP n (10 + k) % 6) (by unfold WORDS; simp only [List.length_cons, List.length_nil]; omega)
  have w2 := ixI [1000, 5] (dP n (10 + k) / 8192 % 2) (by simp only [List.length_cons, List.length_nil]; omega)
  have w3 := ixS ["go", "end"] (dP n (10 + k) / 16384 % 2) (by simp only [List.length_cons, List.length_nil]; omega)
  have w4 := ixI [0, -1, 5, -9] (dP n (10 + k) / 32768 % 4) (by simp only [List.length_cons, List.length_nil]; omega)
  have p2 := getD2_pos (dP n (10 + k) / 8192)
  refine ⟨.dat (.int (dP n (10 + k))), .dat (.tuple (WORDS.map eS)), .dat (.str (wordO n k)), .dat (eDd (hookO n k).deed), .dat (.str (hookO n k).hook), ?_⟩
  have z1 : ks.length + 1 ≤ 16777216 := by omega
  simp only [WORDS, List.map_cons, List.map_nil, eS] at w1 w3
  simp only [List.map_cons, List.map_nil] at w2 w4
  have e1 : wordO n k = ((["plus", "times", "set", "stop", "fail", "plus"] : List Str).getD (dP n (10 + k) % 6).toNat "") := rfl
  rw [← e1] at w1
  generalize hw : wordO n k = wd at w1 e1
  have hd : drawn n (10 + k) / 4 = dP n (10 + k) := rfl
  generalize hg2 : ([1000, 5] : List Int).getD (dP n (10 + k) / 8192 % 2).toNat 0 = g2 at w2 p2
  have ha : argO n k = dP n (10 + k) / 8 % g2 := by unfold argO; rw [hg2]
  by_cases hs : wd = "stop"
  · simp [lb__law_part_1, bodyD, startE, qSeq, qSet, qOwn, qRet, qIf, qNil, qFor, qApp, qExt, qPut, qRetOwn, qAlias, qAsg, qBrk, qCont, qDrop, qPop, fGet2, f1, f2, fV, fW, fC, fCons, fNil, fTup, fLst, fCall, fB, fAndB, fOrB, fNotB, fAndV, fOrV, fNotV, fIf, fChain, fIt, fLc, fYes, sN, sCons, sNil, wipeE, itemsH, lstH, lenH, ixP0, ixP1, ixP2, ixP3, ixP4, ixW0, ixW1, ixW2, ixW3, ixF0, ixF1, ixK0, ixK1, ixK2, ixT0, ixT1, ixT2, ixT3, ixL0, lenD_l, lenD_t, lenD_s, lstD_l, lstD_t, tupD_l, tupD_t, itemsD_l, itemsD_t, addD_i, addD_s, addD_t, subD_i, catD_l, intD_i, intD_b, isND_n, notND_n, isNone_n, isNone_s, isNone_i, isNone_b, isNone_l, isNone_t, isNone_p, isNone_o, modD_i, fdivD_i, timesD_t, min2_i, max2_i, negD_i, asB_b, Option.bind_some, Option.map_some, List.map_cons, List.map_nil, List.length_cons, List.length_nil, List.replicate, List.append_nil, List.getElem?_cons_zero, List.getElem?_cons_succ, eqD_O, neD_O, eqD_int, neD_int, eqD_str, neD_str, ltD_int, gtD_int, leD_int, geD_int, sizeLine_eq, List.set_cons_zero, List.set_cons_succ, seqD_l, seqD_t, sTup_t, h1, hd, w1, w2, w3, w4, hs, z1, p2, hookO, hw, WORDS, eS, eK, eDd]
  · simp [lb__law_part_1, bodyD, startE, qSeq, qSet, qOwn, qRet, qIf, qNil, qFor, qApp, qExt, qPut, qRetOwn, qAlias, qAsg, qBrk, qCont, qDrop, qPop, fGet2, f1, f2, fV, fW, fC, fCons, fNil, fTup, fLst, fCall, fB, fAndB, fOrB, fNotB, fAndV, fOrV, fNotV, fIf, fChain, fIt, fLc, fYes, sN, sCons, sNil, wipeE, itemsH, lstH, lenH, ixP0, ixP1, ixP2, ixP3, ixP4, ixW0, ixW1, ixW2, ixW3, ixF0, ixF1, ixK0, ixK1, ixK2, ixT0, ixT1, ixT2, ixT3, ixL0, lenD_l, lenD_t, lenD_s, lstD_l, lstD_t, tupD_l, tupD_t, itemsD_l, itemsD_t, addD_i, addD_s, addD_t, subD_i, catD_l, intD_i, intD_b, isND_n, notND_n, isNone_n, isNone_s, isNone_i, isNone_b, isNone_l, isNone_t, isNone_p, isNone_o, modD_i, fdivD_i, timesD_t, min2_i, max2_i, negD_i, asB_b, Option.bind_some, Option.map_some, List.map_cons, List.map_nil, List.length_cons, List.length_nil, List.replicate, List.append_nil, List.getElem?_cons_zero, List.getElem?_cons_succ, eqD_O, neD_O, eqD_int, neD_int, eqD_str, neD_str, ltD_int, gtD_int, leD_int, geD_int, sizeLine_eq, List.set_cons_zero, List.set_cons_succ, seqD_l, seqD_t, sTup_t, h1, hd, w1, w2, w3, w4, hs, z1, p2, hookO, hw, ha, WORDS, eS, eK, eDd]
theorem ev_part_loop1 (n : Int) (nm : Str) (h2 h3 : Slot) (m : Nat) (hm : m ≤ 100) (i5 i6 i7 i8 i9 i10 i11 i12 i13 : Slot) : ∃ j5 j6 j7 j8 j9 j10 j11 j12 j13, loopS (sN 5) lb__law_part_1 (rangeD 0 m)
      [.dat (.int n), .dat (.str nm), h2, h3, .dat (.tuple []), i5, i6, i7, i8, i9, i10, i11, i12, i13] =
    some (.next [.dat (.int n), .dat (.str nm), h2, h3, .dat (.tuple (((List.range m).map fun (i : Nat) => hookO n i).map eK)), j5, j6, j7, j8, j9, j10, j11, j12, j13]) := by
  obtain ⟨env', k1, ⟨_, j5, j6, j7, j8, j9, j10, j11, j12, j13, k3⟩⟩ := loopS_foldN (fun (i : Nat) => (PyData.int (0 + (i : Int)))) (t := sN 5) (g := lb__law_part_1)
    (fun i (s : List Hook) env => s.length ≤ i ∧ ∃ j5 j6 j7 j8 j9 j10 j11 j12 j13, env = [.dat (.int n), .dat (.str nm), h2, h3, .dat (.tuple (s.map eK)), j5, j6, j7, j8, j9, j10, j11, j12, j13])
    (fun s (i : Nat) => s ++ [hookO n (i : Int)]) (List.range m) 0 (by
      rintro k hk i s _ ⟨hs, j5, j6, j7, j8, j9, j10, j11, j12, j13, rfl⟩ hi
      rw [List.length_range] at hi
      obtain ⟨m7, m10, m11, m12, m13, hb⟩ := ev_part_hook n (k : Int) nm h2 h3 s (by omega) j6 j7 j8 j9 j10 j11 j12 j13
      rw [Int.zero_add]
      exact ⟨_, _, rfl, .inl hb, by rw [List.length_append, List.length_singleton]; omega, _, _, _, _, _, _, _, _, _, rfl⟩) [] [.dat (.int n), .dat (.str nm), h2, h3, .dat (.tuple []), i5, i6, i7, i8, i9, i10, i11, i12, i13] ⟨Nat.zero_le _, _, _, _, _, _, _, _, _, _, rfl⟩
  refine ⟨j5, j6, j7, j8, j9, j10, j11, j12, j13, ?_⟩
  have e : ∀ (xs : List Nat) (s : List Hook), xs.foldl (fun s (i : Nat) => s ++ [hookO n (i : Int)]) s = s ++ xs.map fun (i : Nat) => hookO n i := fun xs => by
    induction xs with
    | nil => intro s; simp
    | cons x xs ih => intro s; rw [List.foldl_cons, ih]; simp
  show loopS _ _ ((List.range m).map fun (i : Nat) => PyData.int (0 + (i : Int))) _ = _
  rw [k1, k3, e]
  rfl
def FGH : List (Int × Str) := [(0, "f"), (1, "g"), (2, "h")]
def drawnPart (n : Int) (nm : Str) : Part := ⟨nm, 1 + n / 4 % 4, FGH.flatMap (faceO n), (FGH.flatMap (wantO n)).drop (n / 64 % 2).toNat, (List.range (n % 4).toNat).map fun (i : Nat) => hookO n i⟩
theorem cutL_from {α : Type} (xs : List α) (k : Int) (hk : 0 ≤ k) : cutL xs (some k) none = xs.drop k.toNat := by
  unfold cutL
  have e : HT.sIx xs.length 0 (some k) = min k.toNat xs.length := by
    have := HT.sIx_nat xs.length 0 k.toNat
    rw [Int.toNat_of_nonneg hk] at this
    exact this
  rw [e, HT.sIx_none]
  by_cases h : k.toNat ≤ xs.length
  · rw [Nat.min_eq_left h]
    exact List.take_of_length_le (by rw [List.length_drop]; exact Nat.le_refl _)
  · rw [Nat.min_eq_right (by omega), List.drop_of_length_le (Nat.le_refl _), List.drop_of_length_le (by omega)]
    simp
theorem ev_law_part (n : Int) (nm : Str) : m__law_part [.int n, .str nm] = some (eP (drawnPart n nm)) := by
  obtain ⟨a5, a6, a7, a8, a9, a10, a11, a12, a13, k0⟩ := ev_part_loop0 n nm FGH (by unfold FGH; simp) (.dat (.tuple [])) .un .un .un .un .un .un .un .un .un
  obtain ⟨b5, b6, b7, b8, b9, b10, b11, b12, b13, k1⟩ := ev_part_loop1 n nm (.dat (.tuple ((FGH.flatMap (faceO n)).map eF))) (.dat (.tuple ((FGH.flatMap (wantO n)).map eW))) (n % 4).toNat (by omega) a5 a6 a7 a8 a9 a10 a11 a12 a13
  have hen : fEnum (fTup (fCons (fC (.str "f")) (fCons (fC (.str "g")) (fCons (fC (.str "h")) fNil)))) [.dat (.int n), .dat (.str nm), .dat (.tuple []), .dat (.tuple []), .dat (.tuple []), .un, .un, .un, .un, .un, .un, .un, .un, .un] = some (FGH.map eN) := by
    simp [bodyD, startE, qSeq, qSet, qOwn, qRet, qIf, qNil, qFor, qApp, qExt, qPut, qRetOwn, qAlias, qAsg, qBrk, qCont, qDrop, qPop, fGet2, f1, f2, fV, fW, fC, fCons, fNil, fTup, fLst, fCall, fB, fAndB, fOrB, fNotB, fAndV, fOrV, fNotV, fIf, fChain, fIt, fLc, fYes, sN, sCons, sNil, wipeE, itemsH, lstH, lenH, ixP0, ixP1, ixP2, ixP3, ixP4, ixW0, ixW1, ixW2, ixW3, ixF0, ixF1, ixK0, ixK1, ixK2, ixT0, ixT1, ixT2, ixT3, ixL0, lenD_l, lenD_t, lenD_s, lstD_l, lstD_t, tupD_l, tupD_t, itemsD_l, itemsD_t, addD_i, addD_s, addD_t, subD_i, catD_l, intD_i, intD_b, isND_n, notND_n, isNone_n, isNone_s, isNone_i, isNone_b, isNone_l, isNone_t, isNone_p, isNone_o, modD_i, fdivD_i, timesD_t, min2_i, max2_i, negD_i, asB_b, Option.bind_some, Option.map_some, List.map_cons, List.map_nil, List.length_cons, List.length_nil, List.replicate, List.append_nil, List.getElem?_cons_zero, List.getElem?_cons_succ, eqD_O, neD_O, eqD_int, neD_int, eqD_str, neD_str, ltD_int, gtD_int, leD_int, geD_int, sizeLine_eq, List.set_cons_zero, List.set_cons_succ, seqD_l, seqD_t, sTup_t, fEnum, enumFrom, FGH, eN]
  have hra : fR1 (f2 modD (fV 0) (fC (.int 4))) [.dat (.int n), .dat (.str nm), .dat (.tuple ((FGH.flatMap (faceO n)).map eF)), .dat (.tuple ((FGH.flatMap (wantO n)).map eW)), .dat (.tuple []), a5, a6, a7, a8, a9, a10, a11, a12, a13] = some (rangeD 0 (n % 4).toNat) := by
    have hb : -10000 ≤ n % 4 ∧ n % 4 ≤ 10000 := by omega
    simp [fR1, bodyD, startE, qSeq, qSet, qOwn, qRet, qIf, qNil, qFor, qApp, qExt, qPut, qRetOwn, qAlias, qAsg, qBrk, qCont, qDrop, qPop, fGet2, f1, f2, fV, fW, fC, fCons, fNil, fTup, fLst, fCall, fB, fAndB, fOrB, fNotB, fAndV, fOrV, fNotV, fIf, fChain, fIt, fLc, fYes, sN, sCons, sNil, wipeE, itemsH, lstH, lenH, ixP0, ixP1, ixP2, ixP3, ixP4, ixW0, ixW1, ixW2, ixW3, ixF0, ixF1, ixK0, ixK1, ixK2, ixT0, ixT1, ixT2, ixT3, ixL0, lenD_l, lenD_t, lenD_s, lstD_l, lstD_t, tupD_l, tupD_t, itemsD_l, itemsD_t, addD_i, addD_s, addD_t, subD_i, catD_l, intD_i, intD_b, isND_n, notND_n, isNone_n, isNone_s, isNone_i, isNone_b, isNone_l, isNone_t, isNone_p, isNone_o, modD_i, fdivD_i, timesD_t, min2_i, max2_i, negD_i, asB_b, Option.bind_some, Option.map_some, List.map_cons, List.map_nil, List.length_cons, List.length_nil, List.replicate, List.append_nil, List.getElem?_cons_zero, List.getElem?_cons_succ, eqD_O, neD_O, eqD_int, neD_int, eqD_str, neD_str, ltD_int, gtD_int, leD_int, geD_int, sizeLine_eq, List.set_cons_zero, List.set_cons_succ, seqD_l, seqD_t, sTup_t, hb]
  have hsl := cutL_from ((FGH.flatMap (wantO n)).map eW) (n / 64 % 2) (by omega)
  simp only [List.map_map] at k1
  simp [m__law_part, g__law_part, bodyD, startE, qSeq, qSet, qOwn, qRet, qIf, qNil, qFor, qApp, qExt, qPut, qRetOwn, qAlias, qAsg, qBrk, qCont, qDrop, qPop, fGet2, f1, f2, fV, fW, fC, fCons, fNil, fTup, fLst, fCall, fB, fAndB, fOrB, fNotB, fAndV, fOrV, fNotV, fIf, fChain, fIt, fLc, fYes, sN, sCons, sNil, wipeE, itemsH, lstH, lenH, ixP0, ixP1, ixP2, ixP3, ixP4, ixW0, ixW1, ixW2, ixW3, ixF0, ixF1, ixK0, ixK1, ixK2, ixT0, ixT1, ixT2, ixT3, ixL0, lenD_l, lenD_t, lenD_s, lstD_l, lstD_t, tupD_l, tupD_t, itemsD_l, itemsD_t, addD_i, addD_s, addD_t, subD_i, catD_l, intD_i, intD_b, isND_n, notND_n, isNone_n, isNone_s, isNone_i, isNone_b, isNone_l, isNone_t, isNone_p, isNone_o, modD_i, fdivD_i, timesD_t, min2_i, max2_i, negD_i, asB_b, Option.bind_some, Option.map_some, List.map_cons, List.map_nil, List.length_cons, List.length_nil, List.replicate, List.append_nil, List.getElem?_cons_zero, List.getElem?_cons_succ, eqD_O, neD_O, eqD_int, neD_int, eqD_str, neD_str, ltD_int, gtD_int, leD_int, geD_int, sizeLine_eq, List.set_cons_zero, List.set_cons_succ, seqD_l, seqD_t, sTup_t, hen, hra, k0, k1, fSl, partD, noPart, slD, hsl, drawnPart, eP]
/-! ### the house -/
def houseO (n : Int) (x : Int × Str) : House := if n % 4 < drawn n (20 + x.1) / 4 % 8 then [drawnPart (drawn n (20 + x.1) / 4 / 8) x.2] else []
def NAMES : List (Int × Str) := [(0, "a"), (1, "b"), (2, "c"), (3, "d"), (4, "e"), (5, "log")]
def drawnHouse (n : Int) : House := NAMES.flatMap (houseO n)
theorem ev_house_loop (n : Int) (xs : List (Int × Str)) (hl : xs.length ≤ 100) (i2 i3 i4 : Slot) : ∃ j2 j3 j4, loopS (sTup (sCons (sN 2) (sCons (sN 3) sNil))) lb__law_house_0 (xs.map eN) [.dat (.int n), .dat (.tuple []), i2, i3, i4] =
    some (.next [.dat (.int n), .dat (eH (xs.flatMap (houseO n))), j2, j3, j4]) := by
  obtain ⟨env', k1, ⟨_, j2, j3, j4, k3⟩⟩ := loopS_foldN eN (t := sTup (sCons (sN 2) (sCons (sN 3) sNil))) (g := lb__law_house_0)
    (fun i (s : House) env => s.length ≤ i ∧ ∃ j2 j3 j4, env = [.dat (.int n), .dat (.tuple (s.map eP)), j2, j3, j4])
    (fun s x => s ++ houseO n x) xs 0 (by
      rintro ⟨k, x⟩ hx i s _ ⟨hs, j2, j3, j4, rfl⟩ hi
      have h1 := ev_drawn n (20 + k)
      have h2 := ev_law_part (drawn n (20 + k) / 4 / 8) x
      have z1 : s.length + 1 ≤ 16777216 := by omega
      refine ⟨_, [.dat (.int n), .dat (.tuple ((s ++ houseO n (k, x)).map eP)), .dat (.int k), .dat (.str x), .dat (.int (drawn n (20 + k) / 4))], rfl, .inl ?_, ?_, _, _, _, rfl⟩
      · by_cases c : n % 4 < drawn n (20 + k) / 4 % 8 <;> simp [lb__law_house_0, bodyD, startE, qSeq, qSet, qOwn, qRet, qIf, qNil, qFor, qApp, qExt, qPut, qRetOwn, qAlias, qAsg, qBrk, qCont, qDrop, qPop, fGet2, f1, f2, fV, fW, fC, fCons, fNil, fTup, fLst, fCall, fB, fAndB, fOrB, fNotB, fAndV, fOrV, fNotV, fIf, fChain, fIt, fLc, fYes, sN, sCons, sNil, wipeE, itemsH, lstH, lenH, ixP0, ixP1, ixP2, ixP3, ixP4, ixW0, ixW1, ixW2, ixW3, ixF0, ixF1, ixK0, ixK1, ixK2, ixT0, ixT1, ixT2, ixT3, ixL0, lenD_l, lenD_t, lenD_s, lstD_l, lstD_t, tupD_l, tupD_t, itemsD_l, itemsD_t, addD_i, addD_s, addD_t, subD_i, catD_l, intD_i, intD_b, isND_n, notND_n, isNone_n, isNone_s, isNone_i, isNone_b, isNone_l, isNone_t, isNone_p, isNone_o, modD_i, fdivD_i, timesD_t, min2_i, max2_i, negD_i, asB_b, Option.bind_some, Option.map_some, List.map_cons, List.map_nil, List.length_cons, List.length_nil, List.replicate, List.append_nil, List.getElem?_cons_zero, List.getElem?_cons_succ, eqD_O, neD_O, eqD_int, neD_int, eqD_str, neD_str, ltD_int, gtD_int, leD_int, geD_int, sizeLine_eq, List.set_cons_zero, List.set_cons_succ, seqD_l, seqD_t, sTup_t, eN, h1, h2, c, z1, houseO]
      · by_cases c : n % 4 < drawn n (20 + k) / 4 % 8 <;> simp [houseO, c] <;> omega) [] [.dat (.int n), .dat (.tuple []), i2, i3, i4] ⟨Nat.zero_le _, _, _, _, rfl⟩
  refine ⟨j2, j3, j4, ?_⟩
  rw [k1, k3, foldl_flat]
  rfl
theorem ev_law_house (n : Int) : m__law_house [.int n] = some (eH (drawnHouse n)) := by
  obtain ⟨j2, j3, j4, k1⟩ := ev_house_loop n NAMES (by unfold NAMES; simp) .un .un .un
  have hen : fEnum (fTup (fCons (fC (.str "a")) (fCons (fC (.str "b")) (fCons (fC (.str "c")) (fCons (fC (.str "d")) (fCons (fC (.str "e")) (fCons (fC (.str "log")) fNil))))))) [.dat (.int n), .dat (.tuple []), .un, .un, .un] = some (NAMES.map eN) := by
    simp [bodyD, startE, qSeq, qSet, qOwn, qRet, qIf, qNil, qFor, qApp, qExt, qPut, qRetOwn, qAlias, qAsg, qBrk, qCont, qDrop, qPop, fGet2, f1, f2, fV, fW, fC, fCons, fNil, fTup, fLst, fCall, fB, fAndB, fOrB, fNotB, fAndV, fOrV, fNotV, fIf, fChain, fIt, fLc, fYes, sN, sCons, sNil, wipeE, itemsH, lstH, lenH, ixP0, ixP1, ixP2, ixP3, ixP4, ixW0, ixW1, ixW2, ixW3, ixF0, ixF1, ixK0, ixK1, ixK2, ixT0, ixT1, ixT2, ixT3, ixL0, lenD_l, lenD_t, lenD_s, lstD_l, lstD_t, tupD_l, tupD_t, itemsD_l, itemsD_t, addD_i, addD_s, addD_t, subD_i, catD_l, intD_i, intD_b, isND_n, notND_n, isNone_n, isNone_s, isNone_i, isNone_b, isNone_l, isNone_t, isNone_p, isNone_o, modD_i, fdivD_i, timesD_t, min2_i, max2_i, negD_i, asB_b, Option.bind_some, Option.map_some, List.map_cons, List.map_nil, List.length_cons, List.length_nil, List.replicate, List.append_nil, List.getElem?_cons_zero, List.getElem?_cons_succ, eqD_O, neD_O, eqD_int, neD_int, eqD_str, neD_str, ltD_int, gtD_int, leD_int, geD_int, sizeLine_eq, List.set_cons_zero, List.set_cons_succ, seqD_l, seqD_t, sTup_t, fEnum, enumFrom, NAMES, eN]
  simp [m__law_house, g__law_house, bodyD, startE, qSeq, qSet, qOwn, qRet, qIf, qNil, qFor, qApp, qExt, qPut, qRetOwn, qAlias, qAsg, qBrk, qCont, qDrop, qPop, fGet2, f1, f2, fV, fW, fC, fCons, fNil, fTup, fLst, fCall, fB, fAndB, fOrB, fNotB, fAndV, fOrV, fNotV, fIf, fChain, fIt, fLc, fYes, sN, sCons, sNil, wipeE, itemsH, lstH, lenH, ixP0, ixP1, ixP2, ixP3, ixP4, ixW0, ixW1, ixW2, ixW3, ixF0, ixF1, ixK0, ixK1, ixK2, ixT0, ixT1, ixT2, ixT3, ixL0, lenD_l, lenD_t, lenD_s, lstD_l, lstD_t, tupD_l, tupD_t, itemsD_l, itemsD_t, addD_i, addD_s, addD_t, subD_i, catD_l, intD_i, intD_b, isND_n, notND_n, isNone_n, isNone_s, isNone_i, isNone_b, isNone_l, isNone_t, isNone_p, isNone_o, modD_i, fdivD_i, timesD_t, min2_i, max2_i, negD_i, asB_b, Option.bind_some, Option.map_some, List.map_cons, List.map_nil, List.length_cons, List.length_nil, List.replicate, List.append_nil, List.getElem?_cons_zero, List.getElem?_cons_succ, eqD_O, neD_O, eqD_int, neD_int, eqD_str, neD_str, ltD_int, gtD_int, leD_int, geD_int, sizeLine_eq, List.set_cons_zero, List.set_cons_succ, seqD_l, seqD_t, sTup_t, hen, k1, drawnHouse]
/-! ### what is drawn is in order -/
theorem flat_sub {α β γ : Type} (f : α → List β) (g : β → γ) (h : α → γ) (hf : ∀ x, f x = [] ∨ ∃ b, f x = [b] ∧ g b = h x) : ∀ xs : List α, ((xs.flatMap f).map g).Sublist (xs.map h)
  | [] => by simp
  | x :: xs => by
    rw [List.flatMap_cons, List.map_append, List.map_cons]
    rcases hf x with e | ⟨b, e, eb⟩
    · rw [e]; exact (flat_sub f g h hf xs).trans (List.sublist_cons_self _ _)
    · rw [e]
      show (g b :: _).Sublist _
      rw [eb]
      exact (flat_sub f g h hf xs).cons_cons _
def FN : List Str := ["f", "g", "h"]
def NN : List Str := ["a", "b", "c", "d", "e", "log"]
structure Drawn (p : Part) : Prop where
  make : 1 ≤ p.make ∧ p.make ≤ 4
  faces : (p.faces.map (·.1)).Sublist FN
  fmake : ∀ f ∈ p.faces, 1 ≤ f.2 ∧ f.2 ≤ 4
  wants : (p.wants.map (·.face)).Sublist FN
  wb : ∀ w ∈ p.wants, 1 ≤ w.lo ∧ w.lo ≤ w.hi ∧ w.hi ≤ 9
  klen : p.hooks.length ≤ 3
  hook : ∀ k ∈ p.hooks, k.hook ∈ (["go", "end"] : List Str)
  rank : ∀ k ∈ p.hooks, k.rank ∈ ([0, -1, 5, -9] : List Int)
  deed : ∀ k ∈ p.hooks, deedOk k.deed
theorem FN_pw : FN.Pairwise fun a b => nlt a b = true := by decide +kernel
theorem NN_pw : NN.Pairwise fun a b => nlt a b = true := by decide +kernel
theorem nd_of_sub {xs ys : List Str} (h : xs.Sublist ys) (hp : ys.Pairwise fun a b => nlt a b = true) : xs.Nodup := (hp.sublist h).imp fun h => nlt_ne h
theorem getD_mem {α : Type} (xs : List α) (i : Nat) (d : α) (h : i < xs.length) : xs.getD i d ∈ xs := by
  rw [List.getD_eq_getElem?_getD, List.getElem?_eq_getElem h]
  exact List.getElem_mem h
theorem words_ok (w : Str) (h : w ∈ WORDS) (h2 : w ≠ "stop") : w ∈ (["plus", "times", "set", "fail"] : List Str) := by
  unfold WORDS at h
  simp only [List.mem_cons, List.not_mem_nil, or_false] at h ⊢
  rcases h with h | h | h | h | h | h
  · exact .inl h
  · exact .inr (.inl h)
  · exact .inr (.inr (.inl h))
  · exact absurd h h2
  · exact .inr (.inr (.inr h))
  · exact .inl h
theorem hookO_ok (n k : Int) : (hookO n k).hook ∈ (["go", "end"] : List Str) ∧ (hookO n k).rank ∈ ([0, -1, 5, -9] : List Int) ∧ deedOk (hookO n k).deed := by
  refine ⟨getD_mem _ _ _ (by simp only [List.length_cons, List.length_nil]; omega), getD_mem _ _ _ (by simp only [List.length_cons, List.length_nil]; omega), ?_⟩
  have hw : wordO n k ∈ WORDS := getD_mem _ _ _ (by unfold WORDS; simp only [List.length_cons, List.length_nil]; omega)
  by_cases h : wordO n k = "stop"
  · exact .inl ⟨h, by show (if wordO n k = "stop" then none else some (argO n k)) = none; rw [if_pos h]⟩
  · refine .inr ⟨h, words_ok _ hw h, argO n k, by show (if wordO n k = "stop" then none else some (argO n k)) = _; rw [if_neg h], ?_⟩
    have hg : ([1000, 5] : List Int).getD (dP n (10 + k) / 8192 % 2).toNat 0 = 1000 ∨ ([1000, 5] : List Int).getD (dP n (10 + k) / 8192 % 2).toNat 0 = 5 := by
      have := getD_mem ([1000, 5] : List Int) (dP n (10 + k) / 8192 % 2).toNat 0 (by simp only [List.length_cons, List.length_nil]; omega)
      simpa using this
    unfold argO
    rcases hg with hg | hg <;> rw [hg] <;> omega
theorem faceO_or (n : Int) (x : Int × Str) : faceO n x = [] ∨ ∃ b, faceO n x = [b] ∧ b.1 = x.2 := by unfold faceO; split; exact .inr ⟨_, rfl, rfl⟩; exact .inl rfl
theorem wantO_or (n : Int) (x : Int × Str) : wantO n x = [] ∨ ∃ b : Want, wantO n x = [b] ∧ b.face = x.2 := by unfold wantO; split; exact .inr ⟨_, rfl, rfl⟩; exact .inl rfl
theorem houseO_or (n : Int) (x : Int × Str) : houseO n x = [] ∨ ∃ b : Part, houseO n x = [b] ∧ b.name = x.2 := by unfold houseO; split; exact .inr ⟨_, rfl, rfl⟩; exact .inl rfl
theorem drawn_ok (n : Int) (nm : Str) : Drawn (drawnPart n nm) := by
  have hf : ((FGH.flatMap (faceO n)).map (·.1)).Sublist (FGH.map (·.2)) := flat_sub _ _ _ (faceO_or n) FGH
  have hw : ((FGH.flatMap (wantO n)).map (·.face)).Sublist (FGH.map (·.2)) := flat_sub _ _ _ (wantO_or n) FGH
  refine ⟨by show 1 ≤ 1 + n / 4 % 4 ∧ 1 + n / 4 % 4 ≤ 4; omega, hf, fun f h => ?_, ?_, fun w h => ?_, ?_, fun k h => ?_, fun k h => ?_, fun k h => ?_⟩
  · obtain ⟨x, hx, h⟩ := List.mem_flatMap.mp h
    unfold faceO at h
    split at h
    · rw [List.mem_singleton.mp h]; dsimp only; omega
    · cases h
  · exact ((List.drop_sublist _ _).map _).trans hw
  · obtain ⟨x, hx, h⟩ := List.mem_flatMap.mp (List.mem_of_mem_drop h)
    unfold wantO at h
    split at h
    · rw [List.mem_singleton.mp h]; dsimp only
      unfold highO lowO
      split <;> omega
    · cases h
  · show ((List.range (n % 4).toNat).map _).length ≤ 3
    rw [List.length_map, List.length_range]; omega
  · obtain ⟨i, _, rfl⟩ := List.mem_map.mp h; exact (hookO_ok n i).1
  · obtain ⟨i, _, rfl⟩ := List.mem_map.mp h; exact (hookO_ok n i).2.1
  · obtain ⟨i, _, rfl⟩ := List.mem_map.mp h; exact (hookO_ok n i).2.2
structure DrawnH (h : House) : Prop where
  names : (h.map (·.name)).Sublist NN
  parts : ∀ p ∈ h, Drawn p
theorem drawnH (n : Int) : DrawnH (drawnHouse n) := by
  refine ⟨flat_sub _ _ _ (houseO_or n) NAMES, fun p hp => ?_⟩
  obtain ⟨x, hx, h⟩ := List.mem_flatMap.mp hp
  unfold houseO at h
  split at h
  · rw [List.mem_singleton.mp h]; exact drawn_ok _ _
  · cases h
theorem NN_len : ∀ x ∈ NN, x.length ≤ 1000 := by decide +kernel
theorem Drawn.wp {p : Part} (d : Drawn p) (hn : p.name.length ≤ 1000) : WP p := by
  have h1 := d.faces.length_le
  have h2 := d.wants.length_le
  rw [List.length_map] at h1 h2
  have h3 : FN.length = 3 := rfl
  refine ⟨hn, by omega, by omega, by have := d.klen; omega, nd_of_sub d.faces FN_pw, nd_of_sub d.wants FN_pw, fun w hw => (d.wb w hw).1, fun k hk => ?_, d.deed⟩
  have := d.rank k hk
  simp only [List.mem_cons, List.not_mem_nil, or_false] at this
  omega
theorem DrawnH.len {h : House} (d : DrawnH h) : h.length ≤ 6 := by
  have := d.names.length_le
  rw [List.length_map] at this
  exact this
theorem DrawnH.wh {h : House} (d : DrawnH h) : WH h := by
  refine ⟨by have := d.len; omega, fun p hp => (d.parts p hp).wp ?_, NN_pw.sublist d.names⟩
  exact NN_len _ (d.names.subset (List.mem_map.mpr ⟨p, hp, rfl⟩))
end PD

/-! PARTHOST, THE PLAIN PART 7: the law's order; reaching. -/
namespace PD
open PySem PySem.Spec PyProof.Rows L2
def oiter (b : Book) : Nat → List Str → List Str
  | 0, f => f
  | n + 1, f => oiter b n (orderStep b f)
theorem oiter_fix {b : Book} {f : List Str} (h : orderStep b f = f) : ∀ n, oiter b n f = f
  | 0 => rfl
  | n + 1 => by rw [oiter, h, oiter_fix h n]
theorem foldl_oiter (b : Book) : ∀ (c : Book) (f : List Str), c.foldl (fun f _ => orderStep b f) f = oiter b c.length f
  | [], _ => rfl
  | x :: c, f => by rw [List.foldl_cons, List.length_cons, oiter, foldl_oiter b c]
theorem orderB_iter (b : Book) : orderB b = oiter b b.length [] := foldl_oiter b b []
/-- what is left -/
def left (b : Book) (found : List Str) : List Str := (b.map (·.1)).filter fun n => !decide (n ∈ found)
theorem ready_left {b : Book} (nd : (b.map (·.1)).Nodup) (found : List Str) : ready b found = (left b found).filter fun n => ((look b n).getD []).all fun y => decide (y ∈ found) := by
  unfold ready left
  have key : ∀ c : Book, (∀ x ∈ c, look b x.1 = some x.2) → (c.filter fun x => !decide (x.1 ∈ found) && x.2.all fun y => decide (y ∈ found)).map (·.1) = ((c.map (·.1)).filter fun n => !decide (n ∈ found)).filter fun n => ((look b n).getD []).all fun y => decide (y ∈ found) := fun c => by
    induction c with
    | nil => intro _; rfl
    | cons x c ih =>
      intro hc
      have ih := ih fun y hy => hc y (List.mem_cons_of_mem _ hy)
      have hx := hc x List.mem_cons_self
      rw [List.filter_cons, List.map_cons, List.filter_cons]
      by_cases h : x.1 ∈ found
      · rw [if_neg (by simp [h]), if_neg (by simp [h])]; exact ih
      · rw [if_pos (show (!decide (x.1 ∈ found)) = true by simp [h]), List.filter_cons, hx, Option.getD_some]
        by_cases h2 : (x.2.all fun y => decide (y ∈ found)) = true
        · rw [if_pos (by rw [h2]; simp [h]), if_pos h2, List.map_cons, ih]
        · rw [if_neg (by rw [Bool.and_eq_true]; exact fun z => h2 z.2), if_neg h2]; exact ih
  exact key b fun x hx => look_mem nd hx
theorem left_snoc (b : Book) (found : List Str) (n : Str) : (left b found).filter (fun m => !decide (m = n)) = left b (found ++ [n]) := by
  unfold left
  rw [List.filter_filter]
  congr 1
  funext m
  by_cases h1 : m = n <;> by_cases h2 : m ∈ found <;> simp [h1, h2]
theorem eqD_lstS (xs ys : List Str) : eqD (.list (xs.map eS)) (.list (ys.map eS)) = some (.bool (decide (xs = ys))) :=
  eqD_of (plain_lst eS plain_eS _) (plain_lst eS plain_eS _) (Nat.le_trans (depth_lst eS 0 depth_eS _) (by omega)) (eqv_lst eS eqv_eS _ _)
theorem neD_lstS (xs ys : List Str) : neD (.list (xs.map eS)) (.list (ys.map eS)) = some (.bool (!decide (xs = ys))) :=
  neD_of (plain_lst eS plain_eS _) (plain_lst eS plain_eS _) (Nat.le_trans (depth_lst eS 0 depth_eS _) (by omega)) (eqv_lst eS eqv_eS _ _)
theorem eqD_tupS (xs ys : List Str) : eqD (.tuple (xs.map eS)) (.tuple (ys.map eS)) = some (.bool (decide (xs = ys))) :=
  eqD_of (plain_tup eS plain_eS _) (plain_tup eS plain_eS _) (Nat.le_trans (depth_tup eS 0 depth_eS _) (by omega)) (eqv_tup eS eqv_eS _ _)
theorem neD_tupS (xs ys : List Str) : neD (.tuple (xs.map eS)) (.tuple (ys.map eS)) = some (.bool (!decide (xs = ys))) :=
  neD_of (plain_tup eS plain_eS _) (plain_tup eS plain_eS _) (Nat.le_trans (depth_tup eS 0 depth_eS _) (by omega)) (eqv_tup eS eqv_eS _ _)
theorem eqD_lstS0 (xs : List Str) : eqD (.list (xs.map eS)) (.list []) = some (.bool (decide (xs = []))) := eqD_lstS xs []
theorem neD_lstS0 (xs : List Str) : neD (.list (xs.map eS)) (.list []) = some (.bool (!decide (xs = []))) := neD_lstS xs []
theorem ev_law_order_loop (b : Book) (ok : BOk b) (a : Slot) : ∀ (n m : Nat) (found : List Str) (j4 j5 j6 : Slot), (left b found).length ≤ n → n < m → found.length + n ≤ 10000 →
    ∃ j3 j4 j5 j6, whileS lc__law_order_3 lb__law_order_4 m [a, .dat (eB b), .own (.list (found.map eS)), .dat (.list ((left b found).map eS)), j4', j5', j6'] = some (.next [a, .dat (eB b), .own (.list ((oiter b n found).map eS)), j3, j4, j5, j6])
  | n, 0, _, _, _, _, _, hm, _ => absurd hm (Nat.not_lt_zero _)
  | n, m + 1, found, j4, j5, j6, hn, hm, hf => by
    rw [whileS]
    have hr := ready_left ok.nd found
    have c1 : compL (sN 5) ct__law_order_1 (fV 5) (wipeE [a, .dat (eB b), .own (.list (found.map eS)), .dat (.list ((left b found).map eS)), j4', j5', j6'] [5]) ((left b found).map eS) = some ((ready b found).map eS) := by
      rw [hr]
      refine compL_map eS _ _ _ fun n hn => ⟨_, rfl, ?_, fun _ => rfl⟩
      have hk : n ∈ b.map (·.1) := (List.mem_filter.mp hn).1
      obtain ⟨r, hr⟩ := mem_look hk
      have c2 : compL (sN 6) ct__law_order_0 (fV 6) (wipeE [a, .dat (eB b), .own (.list (found.map eS)), .dat (.list ((left b found).map eS)), j4', .dat (eS n), j6'] [6]) (r.map eS) = some ((r.filter fun y => !decide (y ∈ found)).map eS) :=
        compL_map eS _ _ _ fun y hy => ⟨_, rfl, by simp [ct__law_order_0, bodyD, startE, qSeq, qSet, qOwn, qRet, qIf, qNil, qFor, qApp, qExt, qPut, qRetOwn, qAlias, qAsg, qBrk, qCont, qDrop, qPop, fGet2, f1, f2, fV, fW, fC, fCons, fNil, fTup, fLst, fCall, fB, fAndB, fOrB, fNotB, fAndV, fOrV, fNotV, fIf, fChain, fIt, fLc, fYes, sN, sCons, sNil, wipeE, itemsH, lstH, lenH, ixP0, ixP1, ixP2, ixP3, ixP4, ixW0, ixW1, ixW2, ixW3, ixF0, ixF1, ixK0, ixK1, ixK2, ixT0, ixT1, ixT2, ixT3, ixL0, lenD_l, lenD_t, lenD_s, lstD_l, lstD_t, tupD_l, tupD_t, itemsD_l, itemsD_t, addD_i, addD_s, addD_t, subD_i, catD_l, intD_i, intD_b, isND_n, notND_n, isNone_n, isNone_s, isNone_i, isNone_b, isNone_l, isNone_t, isNone_p, isNone_o, modD_i, fdivD_i, timesD_t, min2_i, max2_i, negD_i, asB_b, Option.bind_some, Option.map_some, List.map_cons, List.map_nil, List.length_cons, List.length_nil, List.replicate, List.append_nil, List.getElem?_cons_zero, List.getElem?_cons_succ, eqD_O, neD_O, eqD_int, neD_int, eqD_str, neD_str, ltD_int, gtD_int, leD_int, geD_int, sizeLine_eq, List.set_cons_zero, List.set_cons_succ, seqD_l, seqD_t, sTup_t, eS, notInL_S], fun _ => rfl⟩
      have c3 := eqD_lstS0 (r.filter fun y => !decide (y ∈ found))
      have c4 : decide ((r.filter fun y => !decide (y ∈ found)) = []) = r.all fun y => decide (y ∈ found) := by
        rw [Bool.eq_iff_iff]; simp [List.filter_eq_nil_iff]
      rw [c4] at c3
      rw [hr, Option.getD_some]
      simp only [bodyD, startE, qSeq, qSet, qOwn, qRet, qIf, qNil, qFor, qApp, qExt, qPut, qRetOwn, qAlias, qAsg, qBrk, qCont, qDrop, qPop, fGet2, f1, f2, fV, fW, fC, fCons, fNil, fTup, fLst, fCall, fB, fAndB, fOrB, fNotB, fAndV, fOrV, fNotV, fIf, fChain, fIt, fLc, fYes, sN, sCons, sNil, wipeE, itemsH, lstH, lenH, ixP0, ixP1, ixP2, ixP3, ixP4, ixW0, ixW1, ixW2, ixW3, ixF0, ixF1, ixK0, ixK1, ixK2, ixT0, ixT1, ixT2, ixT3, ixL0, lenD_l, lenD_t, lenD_s, lstD_l, lstD_t, tupD_l, tupD_t, itemsD_l, itemsD_t, addD_i, addD_s, addD_t, subD_i, catD_l, intD_i, intD_b, isND_n, notND_n, isNone_n, isNone_s, isNone_i, isNone_b, isNone_l, isNone_t, isNone_p, isNone_o, modD_i, fdivD_i, timesD_t, min2_i, max2_i, negD_i, asB_b, Option.bind_some, Option.map_some, List.map_cons, List.map_nil, List.length_cons, List.length_nil, List.replicate, List.append_nil, List.getElem?_cons_zero, List.getElem?_cons_succ, eqD_O, neD_O, eqD_int, neD_int, eqD_str, neD_str, ltD_int, gtD_int, leD_int, geD_int, sizeLine_eq, List.set_cons_zero, List.set_cons_succ, seqD_l, seqD_t, sTup_t] at c2
      simp [ct__law_order_1, bodyD, startE, qSeq, qSet, qOwn, qRet, qIf, qNil, qFor, qApp, qExt, qPut, qRetOwn, qAlias, qAsg, qBrk, qCont, qDrop, qPop, fGet2, f1, f2, fV, fW, fC, fCons, fNil, fTup, fLst, fCall, fB, fAndB, fOrB, fNotB, fAndV, fOrV, fNotV, fIf, fChain, fIt, fLc, fYes, sN, sCons, sNil, wipeE, itemsH, lstH, lenH, ixP0, ixP1, ixP2, ixP3, ixP4, ixW0, ixW1, ixW2, ixW3, ixF0, ixF1, ixK0, ixK1, ixK2, ixT0, ixT1, ixT2, ixT3, ixL0, lenD_l, lenD_t, lenD_s, lstD_l, lstD_t, tupD_l, tupD_t, itemsD_l, itemsD_t, addD_i, addD_s, addD_t, subD_i, catD_l, intD_i, intD_b, isND_n, notND_n, isNone_n, isNone_s, isNone_i, isNone_b, isNone_l, isNone_t, isNone_p, isNone_o, modD_i, fdivD_i, timesD_t, min2_i, max2_i, negD_i, asB_b, Option.bind_some, Option.map_some, List.map_cons, List.map_nil, List.length_cons, List.length_nil, List.replicate, List.append_nil, List.getElem?_cons_zero, List.getElem?_cons_succ, eqD_O, neD_O, eqD_int, neD_int, eqD_str, neD_str, ltD_int, gtD_int, leD_int, geD_int, sizeLine_eq, List.set_cons_zero, List.set_cons_succ, seqD_l, seqD_t, sTup_t, eS, ixD_book, hr] at c2 c3 ⊢
      simp [c2, c3, bodyD, startE, qSeq, qSet, qOwn, qRet, qIf, qNil, qFor, qApp, qExt, qPut, qRetOwn, qAlias, qAsg, qBrk, qCont, qDrop, qPop, fGet2, f1, f2, fV, fW, fC, fCons, fNil, fTup, fLst, fCall, fB, fAndB, fOrB, fNotB, fAndV, fOrV, fNotV, fIf, fChain, fIt, fLc, fYes, sN, sCons, sNil, wipeE, itemsH, lstH, lenH, ixP0, ixP1, ixP2, ixP3, ixP4, ixW0, ixW1, ixW2, ixW3, ixF0, ixF1, ixK0, ixK1, ixK2, ixT0, ixT1, ixT2, ixT3, ixL0, lenD_l, lenD_t, lenD_s, lstD_l, lstD_t, tupD_l, tupD_t, itemsD_l, itemsD_t, addD_i, addD_s, addD_t, subD_i, catD_l, intD_i, intD_b, isND_n, notND_n, isNone_n, isNone_s, isNone_i, isNone_b, isNone_l, isNone_t, isNone_p, isNone_o, modD_i, fdivD_i, timesD_t, min2_i, max2_i, negD_i, asB_b, Option.bind_some, Option.map_some, List.map_cons, List.map_nil, List.length_cons, List.length_nil, List.replicate, List.append_nil, List.getElem?_cons_zero, List.getElem?_cons_succ, eqD_O, neD_O, eqD_int, neD_int, eqD_str, neD_str, ltD_int, gtD_int, leD_int, geD_int, sizeLine_eq, List.set_cons_zero, List.set_cons_succ, seqD_l, seqD_t, sTup_t]
    cases hl : left b found with
    | nil =>
      have e0 : ready b found = [] := by rw [hr, hl]; rfl
      have e1 : orderStep b found = found := by unfold orderStep; rw [e0]
      rw [oiter_fix e1]
      have := neD_lstS [] []
      exact ⟨.dat (.list []), j4', j5', j6', by simp [lc__law_order_3, bodyD, startE, qSeq, qSet, qOwn, qRet, qIf, qNil, qFor, qApp, qExt, qPut, qRetOwn, qAlias, qAsg, qBrk, qCont, qDrop, qPop, fGet2, f1, f2, fV, fW, fC, fCons, fNil, fTup, fLst, fCall, fB, fAndB, fOrB, fNotB, fAndV, fOrV, fNotV, fIf, fChain, fIt, fLc, fYes, sN, sCons, sNil, wipeE, itemsH, lstH, lenH, ixP0, ixP1, ixP2, ixP3, ixP4, ixW0, ixW1, ixW2, ixW3, ixF0, ixF1, ixK0, ixK1, ixK2, ixT0, ixT1, ixT2, ixT3, ixL0, lenD_l, lenD_t, lenD_s, lstD_l, lstD_t, tupD_l, tupD_t, itemsD_l, itemsD_t, addD_i, addD_s, addD_t, subD_i, catD_l, intD_i, intD_b, isND_n, notND_n, isNone_n, isNone_s, isNone_i, isNone_b, isNone_l, isNone_t, isNone_p, isNone_o, modD_i, fdivD_i, timesD_t, min2_i, max2_i, negD_i, asB_b, Option.bind_some, Option.map_some, List.map_cons, List.map_nil, List.length_cons, List.length_nil, List.replicate, List.append_nil, List.getElem?_cons_zero, List.getElem?_cons_succ, eqD_O, neD_O, eqD_int, neD_int, eqD_str, neD_str, ltD_int, gtD_int, leD_int, geD_int, sizeLine_eq, List.set_cons_zero, List.set_cons_succ, seqD_l, seqD_t, sTup_t] at this ⊢; simp [this, bodyD, startE, qSeq, qSet, qOwn, qRet, qIf, qNil, qFor, qApp, qExt, qPut, qRetOwn, qAlias, qAsg, qBrk, qCont, qDrop, qPop, fGet2, f1, f2, fV, fW, fC, fCons, fNil, fTup, fLst, fCall, fB, fAndB, fOrB, fNotB, fAndV, fOrV, fNotV, fIf, fChain, fIt, fLc, fYes, sN, sCons, sNil, wipeE, itemsH, lstH, lenH, ixP0, ixP1, ixP2, ixP3, ixP4, ixW0, ixW1, ixW2, ixW3, ixF0, ixF1, ixK0, ixK1, ixK2, ixT0, ixT1, ixT2, ixT3, ixL0, lenD_l, lenD_t, lenD_s, lstD_l, lstD_t, tupD_l, tupD_t, itemsD_l, itemsD_t, addD_i, addD_s, addD_t, subD_i, catD_l, intD_i, intD_b, isND_n, notND_n, isNone_n, isNone_s, isNone_i, isNone_b, isNone_l, isNone_t, isNone_p, isNone_o, modD_i, fdivD_i, timesD_t, min2_i, max2_i, negD_i, asB_b, Option.bind_some, Option.map_some, List.map_cons, List.map_nil, List.length_cons, List.length_nil, List.replicate, List.append_nil, List.getElem?_cons_zero, List.getElem?_cons_succ, eqD_O, neD_O, eqD_int, neD_int, eqD_str, neD_str, ltD_int, gtD_int, leD_int, geD_int, sizeLine_eq, List.set_cons_zero, List.set_cons_succ, seqD_l, seqD_t, sTup_t]⟩
    | cons x xs =>
      have h1 := neD_lstS0 (left b found)
      rw [hl] at h1 c1
      cases hrd : ready b found with
      | nil =>
        have e1 : orderStep b found = found := by unfold orderStep; rw [hrd]
        rw [oiter_fix e1]
        rw [hrd] at c1
        have h2 := eqD_lstS [] []
        refine ⟨.dat (.list ((x :: xs).map eS)), .dat (.list []), j5', j6', ?_⟩
        simp only [bodyD, startE, qSeq, qSet, qOwn, qRet, qIf, qNil, qFor, qApp, qExt, qPut, qRetOwn, qAlias, qAsg, qBrk, qCont, qDrop, qPop, fGet2, f1, f2, fV, fW, fC, fCons, fNil, fTup, fLst, fCall, fB, fAndB, fOrB, fNotB, fAndV, fOrV, fNotV, fIf, fChain, fIt, fLc, fYes, sN, sCons, sNil, wipeE, itemsH, lstH, lenH, ixP0, ixP1, ixP2, ixP3, ixP4, ixW0, ixW1, ixW2, ixW3, ixF0, ixF1, ixK0, ixK1, ixK2, ixT0, ixT1, ixT2, ixT3, ixL0, lenD_l, lenD_t, lenD_s, lstD_l, lstD_t, tupD_l, tupD_t, itemsD_l, itemsD_t, addD_i, addD_s, addD_t, subD_i, catD_l, intD_i, intD_b, isND_n, notND_n, isNone_n, isNone_s, isNone_i, isNone_b, isNone_l, isNone_t, isNone_p, isNone_o, modD_i, fdivD_i, timesD_t, min2_i, max2_i, negD_i, asB_b, Option.bind_some, Option.map_some, List.map_cons, List.map_nil, List.length_cons, List.length_nil, List.replicate, List.append_nil, List.getElem?_cons_zero, List.getElem?_cons_succ, eqD_O, neD_O, eqD_int, neD_int, eqD_str, neD_str, ltD_int, gtD_int, leD_int, geD_int, sizeLine_eq, List.set_cons_zero, List.set_cons_succ, seqD_l, seqD_t, sTup_t] at c1
        simp [lc__law_order_3, lb__law_order_4, bodyD, startE, qSeq, qSet, qOwn, qRet, qIf, qNil, qFor, qApp, qExt, qPut, qRetOwn, qAlias, qAsg, qBrk, qCont, qDrop, qPop, fGet2, f1, f2, fV, fW, fC, fCons, fNil, fTup, fLst, fCall, fB, fAndB, fOrB, fNotB, fAndV, fOrV, fNotV, fIf, fChain, fIt, fLc, fYes, sN, sCons, sNil, wipeE, itemsH, lstH, lenH, ixP0, ixP1, ixP2, ixP3, ixP4, ixW0, ixW1, ixW2, ixW3, ixF0, ixF1, ixK0, ixK1, ixK2, ixT0, ixT1, ixT2, ixT3, ixL0, lenD_l, lenD_t, lenD_s, lstD_l, lstD_t, tupD_l, tupD_t, itemsD_l, itemsD_t, addD_i, addD_s, addD_t, subD_i, catD_l, intD_i, intD_b, isND_n, notND_n, isNone_n, isNone_s, isNone_i, isNone_b, isNone_l, isNone_t, isNone_p, isNone_o, modD_i, fdivD_i, timesD_t, min2_i, max2_i, negD_i, asB_b, Option.bind_some, Option.map_some, List.map_cons, List.map_nil, List.length_cons, List.length_nil, List.replicate, List.append_nil, List.getElem?_cons_zero, List.getElem?_cons_succ, eqD_O, neD_O, eqD_int, neD_int, eqD_str, neD_str, ltD_int, gtD_int, leD_int, geD_int, sizeLine_eq, List.set_cons_zero, List.set_cons_succ, seqD_l, seqD_t, sTup_t] at h1 h2 c1 ⊢
        simp [h1, h2, c1, bodyD, startE, qSeq, qSet, qOwn, qRet, qIf, qNil, qFor, qApp, qExt, qPut, qRetOwn, qAlias, qAsg, qBrk, qCont, qDrop, qPop, fGet2, f1, f2, fV, fW, fC, fCons, fNil, fTup, fLst, fCall, fB, fAndB, fOrB, fNotB, fAndV, fOrV, fNotV, fIf, fChain, fIt, fLc, fYes, sN, sCons, sNil, wipeE, itemsH, lstH, lenH, ixP0, ixP1, ixP2, ixP3, ixP4, ixW0, ixW1, ixW2, ixW3, ixF0, ixF1, ixK0, ixK1, ixK2, ixT0, ixT1, ixT2, ixT3, ixL0, lenD_l, lenD_t, lenD_s, lstD_l, lstD_t, tupD_l, tupD_t, itemsD_l, itemsD_t, addD_i, addD_s, addD_t, subD_i, catD_l, intD_i, intD_b, isND_n, notND_n, isNone_n, isNone_s, isNone_i, isNone_b, isNone_l, isNone_t, isNone_p, isNone_o, modD_i, fdivD_i, timesD_t, min2_i, max2_i, negD_i, asB_b, Option.bind_some, Option.map_some, List.map_cons, List.map_nil, List.length_cons, List.length_nil, List.replicate, List.append_nil, List.getElem?_cons_zero, List.getElem?_cons_succ, eqD_O, neD_O, eqD_int, neD_int, eqD_str, neD_str, ltD_int, gtD_int, leD_int, geD_int, sizeLine_eq, List.set_cons_zero, List.set_cons_succ, seqD_l, seqD_t, sTup_t]
      | cons y ys =>
        have e1 : orderStep b found = found ++ [y] := by unfold orderStep; rw [hrd]
        have hy : y ∈ left b found := by
          have : y ∈ ready b found := by rw [hrd]; exact List.mem_cons_self
          rw [hr] at this
          exact (List.mem_filter.mp this).1
        have hlen : (left b (found ++ [y])).length < (left b found).length := by
          rw [← left_snoc]
          refine Nat.lt_of_le_of_ne (List.length_filter_le _ _) fun z => ?_
          have := List.length_filter_eq_length_iff.mp z y hy
          simp at this
        cases n with
        | zero => rw [hl] at hlen hn; rw [List.length_cons] at hn; omega
        | succ n =>
          obtain ⟨k3, k4, k5, k6, ih⟩ := ev_law_order_loop b ok a n m (found ++ [y]) .un .un .un (by omega) (by omega) (by rw [List.length_append, List.length_singleton]; omega) (j4' := .dat (.list ((y :: ys).map eS))) (j5' := j5') (j6' := j6')
          refine ⟨k3, k4, k5, k6, ?_⟩
          rw [oiter, e1, ← ih, ← left_snoc, hl]
          rw [hrd] at c1
          have h2 := eqD_lstS0 (y :: ys)
          have c5 : compL (sN 5) ct__law_order_2 (fV 5) (wipeE [a, .dat (eB b), .own (.list ((found ++ [y]).map eS)), .dat (.list ((x :: xs).map eS)), .dat (.list ((y :: ys).map eS)), j5', j6'] [5]) ((x :: xs).map eS) = some (((x :: xs).filter fun m => !decide (m = y)).map eS) :=
            compL_map eS _ _ _ fun z hz => ⟨_, rfl, by simp [ct__law_order_2, bodyD, startE, qSeq, qSet, qOwn, qRet, qIf, qNil, qFor, qApp, qExt, qPut, qRetOwn, qAlias, qAsg, qBrk, qCont, qDrop, qPop, fGet2, f1, f2, fV, fW, fC, fCons, fNil, fTup, fLst, fCall, fB, fAndB, fOrB, fNotB, fAndV, fOrV, fNotV, fIf, fChain, fIt, fLc, fYes, sN, sCons, sNil, wipeE, itemsH, lstH, lenH, ixP0, ixP1, ixP2, ixP3, ixP4, ixW0, ixW1, ixW2, ixW3, ixF0, ixF1, ixK0, ixK1, ixK2, ixT0, ixT1, ixT2, ixT3, ixL0, lenD_l, lenD_t, lenD_s, lstD_l, lstD_t, tupD_l, tupD_t, itemsD_l, itemsD_t, addD_i, addD_s, addD_t, subD_i, catD_l, intD_i, intD_b, isND_n, notND_n, isNone_n, isNone_s, isNone_i, isNone_b, isNone_l, isNone_t, isNone_p, isNone_o, modD_i, fdivD_i, timesD_t, min2_i, max2_i, negD_i, asB_b, Option.bind_some, Option.map_some, List.map_cons, List.map_nil, List.length_cons, List.length_nil, List.replicate, List.append_nil, List.getElem?_cons_zero, List.getElem?_cons_succ, eqD_O, neD_O, eqD_int, neD_int, eqD_str, neD_str, ltD_int, gtD_int, leD_int, geD_int, sizeLine_eq, List.set_cons_zero, List.set_cons_succ, seqD_l, seqD_t, sTup_t, eS], fun _ => rfl⟩
          have z1 : found.length < 16777216 := by omega
          simp only [bodyD, startE, qSeq, qSet, qOwn, qRet, qIf, qNil, qFor, qApp, qExt, qPut, qRetOwn, qAlias, qAsg, qBrk, qCont, qDrop, qPop, fGet2, f1, f2, fV, fW, fC, fCons, fNil, fTup, fLst, fCall, fB, fAndB, fOrB, fNotB, fAndV, fOrV, fNotV, fIf, fChain, fIt, fLc, fYes, sN, sCons, sNil, wipeE, itemsH, lstH, lenH, ixP0, ixP1, ixP2, ixP3, ixP4, ixW0, ixW1, ixW2, ixW3, ixF0, ixF1, ixK0, ixK1, ixK2, ixT0, ixT1, ixT2, ixT3, ixL0, lenD_l, lenD_t, lenD_s, lstD_l, lstD_t, tupD_l, tupD_t, itemsD_l, itemsD_t, addD_i, addD_s, addD_t, subD_i, catD_l, intD_i, intD_b, isND_n, notND_n, isNone_n, isNone_s, isNone_i, isNone_b, isNone_l, isNone_t, isNone_p, isNone_o, modD_i, fdivD_i, timesD_t, min2_i, max2_i, negD_i, asB_b, Option.bind_some, Option.map_some, List.map_cons, List.map_nil, List.length_cons, List.length_nil, List.replicate, List.append_nil, List.getElem?_cons_zero, List.getElem?_cons_succ, eqD_O, neD_O, eqD_int, neD_int, eqD_str, neD_str, ltD_int, gtD_int, leD_int, geD_int, sizeLine_eq, List.set_cons_zero, List.set_cons_succ, seqD_l, seqD_t, sTup_t, List.map_append] at c1 c5
          simp [lc__law_order_3, lb__law_order_4, bodyD, startE, qSeq, qSet, qOwn, qRet, qIf, qNil, qFor, qApp, qExt, qPut, qRetOwn, qAlias, qAsg, qBrk, qCont, qDrop, qPop, fGet2, f1, f2, fV, fW, fC, fCons, fNil, fTup, fLst, fCall, fB, fAndB, fOrB, fNotB, fAndV, fOrV, fNotV, fIf, fChain, fIt, fLc, fYes, sN, sCons, sNil, wipeE, itemsH, lstH, lenH, ixP0, ixP1, ixP2, ixP3, ixP4, ixW0, ixW1, ixW2, ixW3, ixF0, ixF1, ixK0, ixK1, ixK2, ixT0, ixT1, ixT2, ixT3, ixL0, lenD_l, lenD_t, lenD_s, lstD_l, lstD_t, tupD_l, tupD_t, itemsD_l, itemsD_t, addD_i, addD_s, addD_t, subD_i, catD_l, intD_i, intD_b, isND_n, notND_n, isNone_n, isNone_s, isNone_i, isNone_b, isNone_l, isNone_t, isNone_p, isNone_o, modD_i, fdivD_i, timesD_t, min2_i, max2_i, negD_i, asB_b, Option.bind_some, Option.map_some, List.map_cons, List.map_nil, List.length_cons, List.length_nil, List.replicate, List.append_nil, List.getElem?_cons_zero, List.getElem?_cons_succ, eqD_O, neD_O, eqD_int, neD_int, eqD_str, neD_str, ltD_int, gtD_int, leD_int, geD_int, sizeLine_eq, List.set_cons_zero, List.set_cons_succ, seqD_l, seqD_t, sTup_t] at h1 h2 c1 c5 ⊢
          simp [h1, h2, c1, c5, bodyD, startE, qSeq, qSet, qOwn, qRet, qIf, qNil, qFor, qApp, qExt, qPut, qRetOwn, qAlias, qAsg, qBrk, qCont, qDrop, qPop, fGet2, f1, f2, fV, fW, fC, fCons, fNil, fTup, fLst, fCall, fB, fAndB, fOrB, fNotB, fAndV, fOrV, fNotV, fIf, fChain, fIt, fLc, fYes, sN, sCons, sNil, wipeE, itemsH, lstH, lenH, ixP0, ixP1, ixP2, ixP3, ixP4, ixW0, ixW1, ixW2, ixW3, ixF0, ixF1, ixK0, ixK1, ixK2, ixT0, ixT1, ixT2, ixT3, ixL0, lenD_l, lenD_t, lenD_s, lstD_l, lstD_t, tupD_l, tupD_t, itemsD_l, itemsD_t, addD_i, addD_s, addD_t, subD_i, catD_l, intD_i, intD_b, isND_n, notND_n, isNone_n, isNone_s, isNone_i, isNone_b, isNone_l, isNone_t, isNone_p, isNone_o, modD_i, fdivD_i, timesD_t, min2_i, max2_i, negD_i, asB_b, Option.bind_some, Option.map_some, List.map_cons, List.map_nil, List.length_cons, List.length_nil, List.replicate, List.append_nil, List.getElem?_cons_zero, List.getElem?_cons_succ, eqD_O, neD_O, eqD_int, neD_int, eqD_str, neD_str, ltD_int, gtD_int, leD_int, geD_int, sizeLine_eq, List.set_cons_zero, List.set_cons_succ, seqD_l, seqD_t, sTup_t, z1]
theorem sortD_book {b : Book} (ok : BOk b) (hp : (b.map (·.1)).Pairwise fun x y => nlt x y = true) : sortD (eB b) = some (.list (b.map fun x => eS x.1)) := by
  have e : (b.map fun x => ((.str x.1 : D), (.list (x.2.map eS) : D))).map (·.1) = (b.map (·.1)).map eS := by rw [List.map_map, List.map_map]; rfl
  show (if keysOk _ = true ∧ sortOk _ = true then some (PyData.list (sortL _)) else none) = _
  rw [e, if_pos ⟨keysOk_book b ok.short, sortOk_map eS (fun _ _ => rfl) (fun _ => rfl) (fun _ => by simp [eS, PyData.depth]) (.inr fun _ => rfl) _⟩, sortL_map, sortT_of eS hp, List.map_map]
  rfl
theorem left_nil (b : Book) : left b [] = b.map (·.1) := by unfold left; exact List.filter_eq_self.mpr fun _ _ => rfl
theorem ev_law_order {h : House} (w : WH h) (h7 : h.length ≤ 7) : m__law_order [eH h] = some (.tuple ((order h).map eS)) := by
  have h1 := ev_law_givers w h7
  have ok := w.bok
  have h2 := sortD_book ok (by rw [book_keys]; exact w.stand.names)
  have hl := left_nil (giversBook h)
  have hlen := ok.len
  obtain ⟨j3, j4, j5, j6, k⟩ := ev_law_order_loop (giversBook h) ok (.dat (eH h)) (giversBook h).length 100000 [] .un .un .un (by rw [hl, List.length_map]; exact Nat.le_refl _) (by omega) (by rw [List.length_nil]; omega) (j4' := .un) (j5' := .un) (j6' := .un)
  rw [← orderB_iter, hl, List.map_map] at k
  have k' : whileS lc__law_order_3 lb__law_order_4 100000 [.dat (eH h), .dat (eB (giversBook h)), .own (.list []), .dat (.list ((giversBook h).map fun x => eS x.1)), .un, .un, .un] = some (.next [.dat (eH h), .dat (eB (giversBook h)), .own (.list ((orderB (giversBook h)).map eS)), j3, j4, j5, j6]) := k
  unfold order
  simp [m__law_order, g__law_order, bodyD, startE, qSeq, qSet, qOwn, qRet, qIf, qNil, qFor, qApp, qExt, qPut, qRetOwn, qAlias, qAsg, qBrk, qCont, qDrop, qPop, fGet2, f1, f2, fV, fW, fC, fCons, fNil, fTup, fLst, fCall, fB, fAndB, fOrB, fNotB, fAndV, fOrV, fNotV, fIf, fChain, fIt, fLc, fYes, sN, sCons, sNil, wipeE, itemsH, lstH, lenH, ixP0, ixP1, ixP2, ixP3, ixP4, ixW0, ixW1, ixW2, ixW3, ixF0, ixF1, ixK0, ixK1, ixK2, ixT0, ixT1, ixT2, ixT3, ixL0, lenD_l, lenD_t, lenD_s, lstD_l, lstD_t, tupD_l, tupD_t, itemsD_l, itemsD_t, addD_i, addD_s, addD_t, subD_i, catD_l, intD_i, intD_b, isND_n, notND_n, isNone_n, isNone_s, isNone_i, isNone_b, isNone_l, isNone_t, isNone_p, isNone_o, modD_i, fdivD_i, timesD_t, min2_i, max2_i, negD_i, asB_b, Option.bind_some, Option.map_some, List.map_cons, List.map_nil, List.length_cons, List.length_nil, List.replicate, List.append_nil, List.getElem?_cons_zero, List.getElem?_cons_succ, eqD_O, neD_O, eqD_int, neD_int, eqD_str, neD_str, ltD_int, gtD_int, leD_int, geD_int, sizeLine_eq, List.set_cons_zero, List.set_cons_succ, seqD_l, seqD_t, sTup_t, h1, h2, k']
/-! ### reaching -/
inductive Reach (b : Book) (xs : List Str) : Str → Prop
  | base {x : Str} : x ∈ xs → Reach b xs x
  | step {x y : Str} {r : List Str} : Reach b xs x → look b x = some r → y ∈ r → Reach b xs y
def Closed (b : Book) (xs : List Str) : Prop := ∀ x ∈ xs, ∀ r, look b x = some r → ∀ y ∈ r, y ∈ xs
theorem reach_sub {b : Book} {xs ys : List Str} (h : ∀ x ∈ xs, x ∈ ys) (c : Closed b ys) {x : Str} (r : Reach b xs x) : x ∈ ys := by
  induction r with
  | base hx => exact h _ hx
  | step _ hl hy ih => exact c _ ih _ hl _ hy
theorem leansN_spec (b : Book) (ok : BOk b) (cl : ∀ x ∈ b, ∀ y ∈ x.2, y ∈ b.map (·.1)) (xs : List Str) : ∀ (n : Nat) (found todo : List Str), todo.length + rest b found ≤ n → (∀ y ∈ todo, y ∈ b.map (·.1)) → found.Nodup →
    (∀ x ∈ found, Reach b xs x) → (∀ x ∈ todo, Reach b xs x) → (∀ x ∈ xs, x ∈ found ∨ x ∈ todo) → (∀ x ∈ found, ∀ r, look b x = some r → ∀ y ∈ r, y ∈ found ∨ y ∈ todo) →
    (leansN b n found todo).Nodup ∧ ∀ x, x ∈ leansN b n found todo ↔ Reach b xs x
  | n, found, todo, hn, ht, nd, hf, hr, hx, hc => by
    cases hg : todo.getLast? with
    | none =>
      have e := List.getLast?_eq_none_iff.mp hg
      subst e
      have e2 : leansN b n found [] = found := by cases n <;> rfl
      rw [e2]
      refine ⟨nd, fun x => ⟨hf x, fun r => ?_⟩⟩
      exact reach_sub (fun x h => (hx x h).resolve_right (by simp)) (fun x h r hl y hy => (hc x h r hl y hy).resolve_right (by simp)) r
    | some one =>
      have hne : todo ≠ [] := fun z => by rw [z] at hg; cases hg
      have hpos : 0 < todo.length := List.length_pos_iff.mpr hne
      have hmem : one ∈ todo := List.mem_of_getLast? hg
      have hsplit : ∀ y ∈ todo, y ∈ todo.dropLast ∨ y = one := fun y hy => by
        have e : todo.dropLast ++ [one] = todo := by
          have e3 := List.dropLast_concat_getLast hne
          rw [List.getLast?_eq_some_getLast hne] at hg
          rw [Option.some.inj hg] at e3
          exact e3
        rw [← e] at hy
        rcases List.mem_append.mp hy with h | h
        · exact .inl h
        · exact .inr (List.mem_singleton.mp h)
      have hdl : todo.dropLast.length = todo.length - 1 := List.length_dropLast
      cases n with
      | zero => omega
      | succ n =>
        rw [leansN, hg]
        dsimp only
        have ht' : ∀ y ∈ todo.dropLast, y ∈ b.map (·.1) := fun y hy => ht y (List.dropLast_subset _ hy)
        by_cases hin : one ∈ found
        · rw [if_pos hin]
          refine leansN_spec b ok cl xs n found todo.dropLast (by omega) ht' nd hf (fun x h => hr x (List.dropLast_subset _ h)) (fun x h => ?_) fun x h r hl y hy => ?_
          · rcases hx x h with h | h
            · exact .inl h
            · rcases hsplit x h with h | h
              · exact .inr h
              · exact .inl (h ▸ hin)
          · rcases hc x h r hl y hy with h | h
            · exact .inl h
            · rcases hsplit y h with h | h
              · exact .inr h
              · exact .inl (h ▸ hin)
        · rw [if_neg hin]
          obtain ⟨r, hrr⟩ := mem_look (ht one hmem)
          have hd := rest_drop hin hrr
          rw [hrr, Option.getD_some]
          refine leansN_spec b ok cl xs n (found ++ [one]) (todo.dropLast ++ r) (by rw [List.length_append]; omega) (fun y hy => (List.mem_append.mp hy).elim (ht' y) fun hy => cl _ (look_in hrr) y hy) ?_ (fun x h => ?_) (fun x h => ?_) (fun x h => ?_) fun x h r' hl y hy => ?_
          · rw [List.nodup_append]
            exact ⟨nd, by simp, fun a ha c hc' e => hin (by rw [List.mem_singleton.mp hc'] at e; rw [← e]; exact ha)⟩
          · rcases List.mem_append.mp h with h | h
            · exact hf x h
            · rw [List.mem_singleton.mp h]; exact hr one hmem
          · rcases List.mem_append.mp h with h | h
            · exact hr x (List.dropLast_subset _ h)
            · exact .step (hr one hmem) hrr h
          · rcases hx x h with h | h
            · exact .inl (List.mem_append_left _ h)
            · rcases hsplit x h with h | h
              · exact .inr (List.mem_append_left _ h)
              · exact .inl (List.mem_append_right _ (by rw [h]; exact List.mem_singleton_self _))
          · rcases List.mem_append.mp h with h | h
            · rcases hc x h r' hl y hy with h | h
              · exact .inl (List.mem_append_left _ h)
              · rcases hsplit y h with h | h
                · exact .inr (List.mem_append_left _ h)
                · exact .inl (List.mem_append_right _ (by rw [h]; exact List.mem_singleton_self _))
            · rw [List.mem_singleton.mp h, hrr] at hl
              cases hl
              exact .inr (List.mem_append_right _ hy)
/-- whom a part leans on: all that its givers reach -/
theorem leans_spec {b : Book} (ok : BOk b) (cl : ∀ x ∈ b, ∀ y ∈ x.2, y ∈ b.map (·.1)) {n : Str} {r : List Str} (hr : look b n = some r) :
    (leansB b n).Nodup ∧ ∀ x, x ∈ leansB b n ↔ Reach b r x := by
  have h1 := ok.row _ (look_in hr)
  have h1' : r.length ≤ 100 := h1
  have h2 := rest_le b ok
  have h3 := ok.len
  have h := leansN_spec b ok cl r 30000 [] r (by omega) (fun y hy => cl _ (look_in hr) y hy) List.nodup_nil (fun x h => by cases h) (fun x h => .base h) (fun x h => .inr h) (fun x h => by cases h)
  unfold leansB
  rw [hr, Option.getD_some]
  exact ⟨(sortT_perm eS _).nodup_iff.mpr h.1, fun x => (mem_sortT eS _ x).trans (h.2 x)⟩
theorem nodup_len : ∀ (s U : List Str), s.Nodup → (∀ y ∈ s, y ∈ U) → s.length ≤ U.length
  | [], U, _, _ => Nat.zero_le _
  | x :: s, U, nd, h => by
    rw [List.nodup_cons] at nd
    have hx := h x List.mem_cons_self
    have := nodup_len s (U.erase x) nd.2 fun y hy => by
      have hne : y ≠ x := fun e => nd.1 (e ▸ hy)
      exact (List.mem_erase_of_ne hne).mpr (h y (List.mem_cons_of_mem _ hy))
    rw [List.length_erase_of_mem hx] at this
    have hp := List.length_pos_of_mem hx
    rw [List.length_cons]; omega
end PD

/-! PARTHOST, THE PLAIN PART 8: chains, what a hook makes, who is lost. -/
namespace PD
open PySem PySem.Spec PyProof.Rows L2
/-! ### facts of the order -/
theorem orderStep_or (b : Book) (f : List Str) : orderStep b f = f ∨ ∃ x, x ∈ ready b f ∧ orderStep b f = f ++ [x] := by
  unfold orderStep
  cases h : ready b f with
  | nil => exact .inl rfl
  | cons x r => exact .inr ⟨x, List.mem_cons_self, rfl⟩
theorem ready_mem {b : Book} {f : List Str} {x : Str} (h : x ∈ ready b f) : x ∈ b.map (·.1) ∧ x ∉ f := by
  unfold ready at h
  obtain ⟨y, hy, rfl⟩ := List.mem_map.mp h
  obtain ⟨h1, h2⟩ := List.mem_filter.mp hy
  rw [Bool.and_eq_true] at h2
  exact ⟨List.mem_map.mpr ⟨y, h1, rfl⟩, by simpa using h2.1⟩
theorem oiter_ok (b : Book) : ∀ (n : Nat) (f : List Str), f.Nodup → (∀ x ∈ f, x ∈ b.map (·.1)) → (oiter b n f).Nodup ∧ ∀ x ∈ oiter b n f, x ∈ b.map (·.1)
  | 0, f, h1, h2 => ⟨h1, h2⟩
  | n + 1, f, h1, h2 => by
    rw [oiter]
    rcases orderStep_or b f with e | ⟨x, hx, e⟩
    · rw [e]; exact oiter_ok b n f h1 h2
    · rw [e]
      obtain ⟨k1, k2⟩ := ready_mem hx
      refine oiter_ok b n _ ?_ fun y hy => ?_
      · rw [List.nodup_append]
        exact ⟨h1, by simp, fun a ha c hc e => k2 (by rw [List.mem_singleton.mp hc] at e; rw [← e]; exact ha)⟩
      · rcases List.mem_append.mp hy with hy | hy
        · exact h2 y hy
        · rw [List.mem_singleton.mp hy]; exact k1
theorem orderB_nd (b : Book) : (orderB b).Nodup := by rw [orderB_iter]; exact (oiter_ok b _ [] List.nodup_nil (fun x h => by cases h)).1
theorem orderB_keys (b : Book) : ∀ x ∈ orderB b, x ∈ b.map (·.1) := by rw [orderB_iter]; exact (oiter_ok b _ [] List.nodup_nil (fun x h => by cases h)).2
/-- enough turns come to rest -/
theorem oiter_rest (b : Book) : ∀ (n : Nat) (f : List Str), f.Nodup → (∀ x ∈ f, x ∈ b.map (·.1)) → b.length ≤ f.length + n → orderStep b (oiter b n f) = oiter b n f
  | 0, f, h1, h2, hn => by
    rw [oiter]
    rcases orderStep_or b f with e | ⟨x, hx, e⟩
    · exact e
    · exfalso
      obtain ⟨k1, k2⟩ := ready_mem hx
      have h3 : (f ++ [x]).length ≤ (b.map (·.1)).length := by
        refine nodup_len _ _ ?_ fun y hy => ?_
        · rw [List.nodup_append]
          exact ⟨h1, by simp, fun a ha c hc e => k2 (by rw [List.mem_singleton.mp hc] at e; rw [← e]; exact ha)⟩
        · rcases List.mem_append.mp hy with hy | hy
          · exact h2 y hy
          · rw [List.mem_singleton.mp hy]; exact k1
      rw [List.length_append, List.length_singleton, List.length_map] at h3
      omega
  | n + 1, f, h1, h2, hn => by
    rw [oiter]
    rcases orderStep_or b f with e | ⟨x, hx, e⟩
    · rw [e, oiter_fix e]; exact e
    · rw [e]
      obtain ⟨k1, k2⟩ := ready_mem hx
      refine oiter_rest b n _ ?_ (fun y hy => ?_) (by rw [List.length_append, List.length_singleton]; omega)
      · rw [List.nodup_append]
        exact ⟨h1, by simp, fun a ha c hc e => k2 (by rw [List.mem_singleton.mp hc] at e; rw [← e]; exact ha)⟩
      · rcases List.mem_append.mp hy with hy | hy
        · exact h2 y hy
        · rw [List.mem_singleton.mp hy]; exact k1
theorem orderB_fix (b : Book) : orderStep b (orderB b) = orderB b := by
  rw [orderB_iter]; exact oiter_rest b _ [] List.nodup_nil (fun x h => by cases h) (by simp)
theorem oiter_add (b : Book) : ∀ (m n : Nat) (f : List Str), oiter b (m + n) f = oiter b n (oiter b m f)
  | 0, n, f => by rw [Nat.zero_add]; rfl
  | m + 1, n, f => by rw [Nat.succ_add, oiter, oiter, oiter_add b m n]
/-- where the turns come to rest is the order -/
theorem orderB_of {b : Book} {m : Nat} {f : List Str} (h : oiter b m [] = f) (hf : orderStep b f = f) : orderB b = f := by
  rcases Nat.le_total m b.length with hm | hm
  · rw [orderB_iter, show b.length = m + (b.length - m) by omega, oiter_add, h, oiter_fix hf]
  · rw [← h, show m = b.length + (m - b.length) by omega, oiter_add, ← orderB_iter, oiter_fix (orderB_fix b)]
theorem order_stand {h : House} {x : Str} (hx : x ∈ order h) : x ∈ (stand h).map (·.name) := by rw [← book_keys]; exact orderB_keys _ x hx
/-! ### chains -/
structure QRow where
  rank : Int
  place : Int
  at_ : Int
  name : Str
  deed : Deed
def eQ (q : QRow) : D := .tuple [.int q.rank, .int q.place, .int q.at_, .str q.name, eDd q.deed]
def eC (q : Str × Int × Deed) : D := .tuple [.str q.1, .int q.2.1, eDd q.2.2]
def enumI {α : Type} (k : Int) : List α → List (Int × α)
  | [] => []
  | x :: xs => (k, x) :: enumI (k + 1) xs
theorem enumFrom_map {α : Type} (e : α → D) : ∀ (xs : List α) (k : Nat), enumFrom k (xs.map e) = (enumI (k : Int) xs).map fun x => .tuple [.int x.1, e x.2]
  | [], k => rfl
  | x :: xs, k => by
    rw [List.map_cons, enumFrom, enumFrom_map e xs (k + 1), enumI, List.map_cons]
    rfl
theorem enumI_len {α : Type} : ∀ (xs : List α) (k : Int), (enumI k xs).length = xs.length
  | [], _ => rfl
  | x :: xs, k => by rw [enumI, List.length_cons, List.length_cons, enumI_len xs]
theorem enumI_snd {α : Type} : ∀ (xs : List α) (k : Int) (x : Int × α), x ∈ enumI k xs → x.2 ∈ xs
  | [], _, _, h => by cases h
  | y :: xs, k, x, h => by
    rw [enumI] at h
    rcases List.mem_cons.mp h with rfl | h
    · exact List.mem_cons_self
    · exact List.mem_cons_of_mem _ (enumI_snd xs _ x h)
def partOf (h : House) (n : Str) : Option Part := h.find? fun p => decide (p.name = n)
theorem partOf_mem {h : House} (nd : (h.map (·.name)).Nodup) {p : Part} (hp : p ∈ h) : partOf h p.name = some p := by
  have := filter_name nd hp
  unfold partOf
  rw [← List.head?_filter, this]; rfl
def rowsAt (hook : Str) (place : Int) (n : Str) (ks : List Hook) : List QRow := (enumI 0 ks).flatMap fun x => if x.2.hook = hook then [⟨x.2.rank, place, x.1, n, x.2.deed⟩] else []
def chainRows (h : House) (hook : Str) : List QRow := (enumI 0 (order h)).flatMap fun x => match partOf h x.2 with
  | some p => rowsAt hook x.1 x.2 p.hooks
  | none => []
def chain (h : House) (hook : Str) : List (Str × Int × Deed) := (sortT eQ (chainRows h hook)).map fun q => (q.name, q.rank, q.deed)
theorem alike_eDd (a b : Deed) : PySem.W.alike (eDd a) (eDd b) = true := by
  obtain ⟨w, x⟩ := a
  obtain ⟨v, y⟩ := b
  cases x <;> cases y <;> rfl
theorem sortD_Q (xs : List QRow) : sortD (.list (xs.map eQ)) = some (.list ((sortT eQ xs).map eQ)) := by
  refine sortD_lst eQ (fun a b => ?_) (fun a => ?_) (fun a => ?_) (.inl fun _ => ⟨_, _, rfl⟩) xs
  · simp [eQ, PySem.W.alike, PySem.W.alikeAll, alike_eDd]
  · simp [eQ, PyData.plain, PyData.plainAll, plain_eDd]
  · have := depth_eDd a.deed
    simp [eQ, PyData.depth, PyData.depthAll]; omega
theorem eqv_eC (a b : Str × Int × Deed) : PyData.eqv (eC a) (eC b) = decide (a = b) := by
  obtain ⟨a1, a2, a3⟩ := a
  obtain ⟨b1, b2, b3⟩ := b
  simp only [eC, PyData.eqv, PyData.eqvAll, eqv_str, eqv_int, eqv_eDd, Bool.and_true, Prod.mk.injEq]
  by_cases h1 : a1 = b1 <;> by_cases h2 : a2 = b2 <;> by_cases h3 : a3 = b3 <;> simp [h1, h2, h3]
theorem plain_eC (x : Str × Int × Deed) : (eC x).plain = true := by simp [eC, PyData.plain, PyData.plainAll, plain_eDd]
theorem depth_eC (x : Str × Int × Deed) : (eC x).depth ≤ 2 := by
  have := depth_eDd x.2.2
  simp [eC, PyData.depth, PyData.depthAll]; omega
theorem pairsD_parts : ∀ xs : House, pairsD (xs.map fun p => .tuple [.str p.name, eP p]) = some (xs.map fun p => (.inr p.name, eP p)) := pairsD_map (fun p : Part => p.name) eP
theorem look_parts (xs : House) (n : Str) : look (xs.map fun p => ((.inr p.name, eP p) : Key × D)) (.inr n) = (partOf xs n).map eP := by
  induction xs with
  | nil => rfl
  | cons p xs ih =>
    rw [List.map_cons, look, ih]
    unfold partOf
    rw [List.find?_cons]
    by_cases h : p.name = n
    · rw [if_pos (by rw [h]), decide_eq_true h]; rfl
    · rw [if_neg (fun z => h (Sum.inr.inj z)), decide_eq_false h]
theorem partOf_rev {h : House} (nd : (h.map (·.name)).Nodup) (n : Str) : partOf h.reverse n = partOf h n := by
  cases q : partOf h n with
  | none =>
    unfold partOf at q ⊢
    rw [List.find?_eq_none] at q ⊢
    exact fun x hx => q x (List.mem_reverse.mp hx)
  | some p =>
    have hm := List.mem_of_find?_eq_some q
    have hn : p.name = n := by simpa using List.find?_some q
    have nd' : (h.reverse.map (·.name)).Nodup := by rw [List.map_reverse]; exact (List.reverse_perm _).nodup_iff.mpr nd
    have := partOf_mem nd' (List.mem_reverse.mpr hm)
    rw [hn] at this
    exact this
/-- the dict of the parts by their names -/
def partBook (h : House) : D := .dict (mergeD [] (h.map fun p => (.inr p.name, eP p)))
theorem ixD_parts {h : House} (nd : (h.map (·.name)).Nodup) (n : Str) : ixD (partBook h) (.str n) = (partOf h n).map eP := by
  show getKV _ (.inr n) = _
  rw [getKV_merge, ← List.map_reverse, look_parts, partOf_rev nd]
  cases partOf h n <;> rfl
theorem ev_chain_hooks (hs hk : Slot) (hook : Str) (bk : Slot) (place : Int) (n : Str) (h8 h9 h10 : Slot) (ks : List Hook) (acc : List QRow) (hl : acc.length + ks.length ≤ 100000) (i6 i7 : Slot) : ∃ j6 j7,
    loopS (sTup (sCons (sN 6) (sCons (sN 7) sNil))) lb_chain_1 ((enumI 0 ks).map fun x => .tuple [.int x.1, eK x.2]) [hs, .dat (.str hook), bk, .own (.list (acc.map eQ)), .dat (.int place), .dat (.str n), i6, i7, h8, h9, h10] =
    some (.next [hs, .dat (.str hook), bk, .own (.list ((acc ++ rowsAt hook place n ks).map eQ)), .dat (.int place), .dat (.str n), j6, j7, h8, h9, h10]) := by
  obtain ⟨env', k1, ⟨_, j6, j7, k3⟩⟩ := loopS_foldN (fun x : Int × Hook => (PyData.tuple [.int x.1, eK x.2])) (t := sTup (sCons (sN 6) (sCons (sN 7) sNil))) (g := lb_chain_1)
    (fun i (t : List QRow) env => t.length ≤ acc.length + i ∧ ∃ j6 j7, env = [hs, .dat (.str hook), bk, .own (.list (t.map eQ)), .dat (.int place), .dat (.str n), j6, j7, h8, h9, h10])
    (fun t x => t ++ if x.2.hook = hook then [(⟨x.2.rank, place, x.1, n, x.2.deed⟩ : QRow)] else []) (enumI 0 ks) 0 (by
      rintro ⟨i, k⟩ hx m t _ ⟨ht, j6, j7, rfl⟩ hm
      rw [enumI_len] at hm
      have z : t.length < 16777216 := by omega
      refine ⟨_, [hs, .dat (.str hook), bk, .own (.list ((t ++ if k.hook = hook then [(⟨k.rank, place, i, n, k.deed⟩ : QRow)] else []).map eQ)), .dat (.int place), .dat (.str n), .dat (.int i), .dat (eK k), h8, h9, h10], rfl, .inl ?_, ?_, _, _, rfl⟩
      · by_cases c : k.hook = hook <;> simp [lb_chain_1, bodyD, startE, qSeq, qSet, qOwn, qRet, qIf, qNil, qFor, qApp, qExt, qPut, qRetOwn, qAlias, qAsg, qBrk, qCont, qDrop, qPop, fGet2, f1, f2, fV, fW, fC, fCons, fNil, fTup, fLst, fCall, fB, fAndB, fOrB, fNotB, fAndV, fOrV, fNotV, fIf, fChain, fIt, fLc, fYes, sN, sCons, sNil, wipeE, itemsH, lstH, lenH, ixP0, ixP1, ixP2, ixP3, ixP4, ixW0, ixW1, ixW2, ixW3, ixF0, ixF1, ixK0, ixK1, ixK2, ixT0, ixT1, ixT2, ixT3, ixL0, lenD_l, lenD_t, lenD_s, lstD_l, lstD_t, tupD_l, tupD_t, itemsD_l, itemsD_t, addD_i, addD_s, addD_t, subD_i, catD_l, intD_i, intD_b, isND_n, notND_n, isNone_n, isNone_s, isNone_i, isNone_b, isNone_l, isNone_t, isNone_p, isNone_o, modD_i, fdivD_i, timesD_t, min2_i, max2_i, negD_i, asB_b, Option.bind_some, Option.map_some, List.map_cons, List.map_nil, List.length_cons, List.length_nil, List.replicate, List.append_nil, List.getElem?_cons_zero, List.getElem?_cons_succ, eqD_O, neD_O, eqD_int, neD_int, eqD_str, neD_str, ltD_int, gtD_int, leD_int, geD_int, sizeLine_eq, List.set_cons_zero, List.set_cons_succ, seqD_l, seqD_t, sTup_t, c, z, eQ]
      · by_cases c : k.hook = hook <;> simp [c] <;> omega) acc [hs, .dat (.str hook), bk, .own (.list (acc.map eQ)), .dat (.int place), .dat (.str n), i6, i7, h8, h9, h10] ⟨Nat.le_refl _, _, _, rfl⟩
  refine ⟨j6, j7, ?_⟩
  rw [k1, k3, foldl_flat (fun x : Int × Hook => if x.2.hook = hook then [(⟨x.2.rank, place, x.1, n, x.2.deed⟩ : QRow)] else [])]
  rfl
theorem rowsAt_len (hook : Str) (place : Int) (n : Str) (ks : List Hook) : (rowsAt hook place n ks).length ≤ ks.length := by
  unfold rowsAt
  have : ∀ (xs : List (Int × Hook)), (xs.flatMap fun x => if x.2.hook = hook then [(⟨x.2.rank, place, x.1, n, x.2.deed⟩ : QRow)] else []).length ≤ xs.length := fun xs => by
    induction xs with
    | nil => exact Nat.le_refl _
    | cons x xs ih =>
      rw [List.flatMap_cons, List.length_append, List.length_cons]
      split
      · simp only [List.length_singleton]; omega
      · simp only [List.length_nil]; omega
  have h := this (enumI 0 ks)
  rw [enumI_len] at h
  exact h
theorem ev_chain {h : House} (w : WH h) (hook : Str) : m_chain [eH h, .str hook] = some (.tuple ((chain h hook).map eC)) := by
  have ho := w.order
  have hsub : ∀ x ∈ order h, ∃ p ∈ h, p.name = x := fun x hx => by
    obtain ⟨p, hp, e⟩ := List.mem_map.mp (order_stand hx)
    exact ⟨p, (stand_sub h).subset hp, e⟩
  have hol : (order h).length ≤ 100 := by
    have := nodup_len (order h) _ (orderB_nd _) (fun x hx => order_stand hx)
    rw [List.length_map] at this
    exact Nat.le_trans this w.stand.len
  have c1 : compL (sN 8) fYes ce_chain_0 (wipeE [.dat (eH h), .dat (.str hook), .un, .un, .un, .un, .un, .un, .un, .un, .un] [8]) (h.map eP) = some ((h.filter fun _ => true).map fun p => .tuple [.str p.name, eP p]) :=
    compL_map eP _ _ _ fun p hp => ⟨_, rfl, rfl, fun _ => by simp [ce_chain_0, bodyD, startE, qSeq, qSet, qOwn, qRet, qIf, qNil, qFor, qApp, qExt, qPut, qRetOwn, qAlias, qAsg, qBrk, qCont, qDrop, qPop, fGet2, f1, f2, fV, fW, fC, fCons, fNil, fTup, fLst, fCall, fB, fAndB, fOrB, fNotB, fAndV, fOrV, fNotV, fIf, fChain, fIt, fLc, fYes, sN, sCons, sNil, wipeE, itemsH, lstH, lenH, ixP0, ixP1, ixP2, ixP3, ixP4, ixW0, ixW1, ixW2, ixW3, ixF0, ixF1, ixK0, ixK1, ixK2, ixT0, ixT1, ixT2, ixT3, ixL0, lenD_l, lenD_t, lenD_s, lstD_l, lstD_t, tupD_l, tupD_t, itemsD_l, itemsD_t, addD_i, addD_s, addD_t, subD_i, catD_l, intD_i, intD_b, isND_n, notND_n, isNone_n, isNone_s, isNone_i, isNone_b, isNone_l, isNone_t, isNone_p, isNone_o, modD_i, fdivD_i, timesD_t, min2_i, max2_i, negD_i, asB_b, Option.bind_some, Option.map_some, List.map_cons, List.map_nil, List.length_cons, List.length_nil, List.replicate, List.append_nil, List.getElem?_cons_zero, List.getElem?_cons_succ, eqD_O, neD_O, eqD_int, neD_int, eqD_str, neD_str, ltD_int, gtD_int, leD_int, geD_int, sizeLine_eq, List.set_cons_zero, List.set_cons_succ, seqD_l, seqD_t, sTup_t]⟩
  rw [filter_true] at c1
  have d1 : dictD (.list (h.map fun p => .tuple [.str p.name, eP p])) = some (partBook h) := by
    show (pairsD _).map _ = _
    rw [pairsD_parts]; rfl
  obtain ⟨env', k1, ⟨_, j4, j5, j6, j7, k3⟩⟩ := loopS_foldN (fun x : Int × Str => (PyData.tuple [.int x.1, eS x.2])) (t := sTup (sCons (sN 4) (sCons (sN 5) sNil))) (g := lb_chain_2)
    (fun i (t : List QRow) env => t.length ≤ 100 * i ∧ ∃ j4 j5 j6 j7, env = [.dat (eH h), .dat (.str hook), .dat (partBook h), .own (.list (t.map eQ)), j4, j5, j6, j7, .un, .un, .un])
    (fun t x => t ++ match partOf h x.2 with
      | some p => rowsAt hook x.1 x.2 p.hooks
      | none => []) (enumI 0 (order h)) 0 (by
      rintro ⟨i, n⟩ hx m t _ ⟨ht, j4, j5, j6, j7, rfl⟩ hm
      rw [enumI_len] at hm
      obtain ⟨p, hp, hn⟩ := hsub n (enumI_snd _ _ _ hx)
      have hpo := partOf_mem w.nd hp
      rw [hn] at hpo
      have hi := ixD_parts w.nd n
      rw [hpo] at hi
      have hk := (w.parts p hp).klen
      obtain ⟨m6, m7, k⟩ := ev_chain_hooks (.dat (eH h)) .un hook (.dat (partBook h)) i n .un .un .un p.hooks t (by omega) j6 j7
      have he : fEnum (f2 ixD (f2 ixD (fV 2) (fV 5)) (fC (.int 4))) [.dat (eH h), .dat (.str hook), .dat (partBook h), .own (.list (t.map eQ)), .dat (.int i), .dat (.str n), j6, j7, .un, .un, .un] = some ((enumI 0 p.hooks).map fun x => .tuple [.int x.1, eK x.2]) := by
        have := enumFrom_map eK p.hooks 0
        simp [fEnum, bodyD, startE, qSeq, qSet, qOwn, qRet, qIf, qNil, qFor, qApp, qExt, qPut, qRetOwn, qAlias, qAsg, qBrk, qCont, qDrop, qPop, fGet2, f1, f2, fV, fW, fC, fCons, fNil, fTup, fLst, fCall, fB, fAndB, fOrB, fNotB, fAndV, fOrV, fNotV, fIf, fChain, fIt, fLc, fYes, sN, sCons, sNil, wipeE, itemsH, lstH, lenH, ixP0, ixP1, ixP2, ixP3, ixP4, ixW0, ixW1, ixW2, ixW3, ixF0, ixF1, ixK0, ixK1, ixK2, ixT0, ixT1, ixT2, ixT3, ixL0, lenD_l, lenD_t, lenD_s, lstD_l, lstD_t, tupD_l, tupD_t, itemsD_l, itemsD_t, addD_i, addD_s, addD_t, subD_i, catD_l, intD_i, intD_b, isND_n, notND_n, isNone_n, isNone_s, isNone_i, isNone_b, isNone_l, isNone_t, isNone_p, isNone_o, modD_i, fdivD_i, timesD_t, min2_i, max2_i, negD_i, asB_b, Option.bind_some, Option.map_some, List.map_cons, List.map_nil, List.length_cons, List.length_nil, List.replicate, List.append_nil, List.getElem?_cons_zero, List.getElem?_cons_succ, eqD_O, neD_O, eqD_int, neD_int, eqD_str, neD_str, ltD_int, gtD_int, leD_int, geD_int, sizeLine_eq, List.set_cons_zero, List.set_cons_succ, seqD_l, seqD_t, sTup_t, hi]
        exact this
      dsimp only
      rw [hpo]
      refine ⟨_, [.dat (eH h), .dat (.str hook), .dat (partBook h), .own (.list ((t ++ rowsAt hook i n p.hooks).map eQ)), .dat (.int i), .dat (.str n), m6, m7, .un, .un, .un], rfl, .inl ?_, ?_, _, _, _, _, rfl⟩
      · simp only [lb_chain_2, bodyD, startE, qSeq, qSet, qOwn, qRet, qIf, qNil, qFor, qApp, qExt, qPut, qRetOwn, qAlias, qAsg, qBrk, qCont, qDrop, qPop, fGet2, f1, f2, fV, fW, fC, fCons, fNil, fTup, fLst, fCall, fB, fAndB, fOrB, fNotB, fAndV, fOrV, fNotV, fIf, fChain, fIt, fLc, fYes, sN, sCons, sNil, wipeE, itemsH, lstH, lenH, ixP0, ixP1, ixP2, ixP3, ixP4, ixW0, ixW1, ixW2, ixW3, ixF0, ixF1, ixK0, ixK1, ixK2, ixT0, ixT1, ixT2, ixT3, ixL0, lenD_l, lenD_t, lenD_s, lstD_l, lstD_t, tupD_l, tupD_t, itemsD_l, itemsD_t, addD_i, addD_s, addD_t, subD_i, catD_l, intD_i, intD_b, isND_n, notND_n, isNone_n, isNone_s, isNone_i, isNone_b, isNone_l, isNone_t, isNone_p, isNone_o, modD_i, fdivD_i, timesD_t, min2_i, max2_i, negD_i, asB_b, Option.bind_some, Option.map_some, List.map_cons, List.map_nil, List.length_cons, List.length_nil, List.replicate, List.append_nil, List.getElem?_cons_zero, List.getElem?_cons_succ, eqD_O, neD_O, eqD_int, neD_int, eqD_str, neD_str, ltD_int, gtD_int, leD_int, geD_int, sizeLine_eq, List.set_cons_zero, List.set_cons_succ, seqD_l, seqD_t, sTup_t, eS, he] at k ⊢
        simp [he, k]
      · rw [List.length_append]
        have := rowsAt_len hook i n p.hooks
        show t.length + (rowsAt hook i n p.hooks).length ≤ _
        omega) [] [.dat (eH h), .dat (.str hook), .dat (partBook h), .own (.list []), .un, .un, .un, .un, .un, .un, .un] ⟨Nat.zero_le _, _, _, _, _, rfl⟩
  rw [foldl_flat (fun x : Int × Str => match partOf h x.2 with
      | some p => rowsAt hook x.1 x.2 p.hooks
      | none => [])] at k3
  have k3' : env' = [.dat (eH h), .dat (.str hook), .dat (partBook h), .own (.list ((chainRows h hook).map eQ)), j4, j5, j6, j7, .un, .un, .un] := k3
  subst k3'
  have he : fEnum (fCall m_order 1 (fCons (fV 0) fNil)) [.dat (eH h), .dat (.str hook), .dat (partBook h), .own (.list []), .un, .un, .un, .un, .un, .un, .un] = some ((enumI 0 (order h)).map fun x => .tuple [.int x.1, eS x.2]) := by
    have := enumFrom_map eS (order h) 0
    simp [fEnum, bodyD, startE, qSeq, qSet, qOwn, qRet, qIf, qNil, qFor, qApp, qExt, qPut, qRetOwn, qAlias, qAsg, qBrk, qCont, qDrop, qPop, fGet2, f1, f2, fV, fW, fC, fCons, fNil, fTup, fLst, fCall, fB, fAndB, fOrB, fNotB, fAndV, fOrV, fNotV, fIf, fChain, fIt, fLc, fYes, sN, sCons, sNil, wipeE, itemsH, lstH, lenH, ixP0, ixP1, ixP2, ixP3, ixP4, ixW0, ixW1, ixW2, ixW3, ixF0, ixF1, ixK0, ixK1, ixK2, ixT0, ixT1, ixT2, ixT3, ixL0, lenD_l, lenD_t, lenD_s, lstD_l, lstD_t, tupD_l, tupD_t, itemsD_l, itemsD_t, addD_i, addD_s, addD_t, subD_i, catD_l, intD_i, intD_b, isND_n, notND_n, isNone_n, isNone_s, isNone_i, isNone_b, isNone_l, isNone_t, isNone_p, isNone_o, modD_i, fdivD_i, timesD_t, min2_i, max2_i, negD_i, asB_b, Option.bind_some, Option.map_some, List.map_cons, List.map_nil, List.length_cons, List.length_nil, List.replicate, List.append_nil, List.getElem?_cons_zero, List.getElem?_cons_succ, eqD_O, neD_O, eqD_int, neD_int, eqD_str, neD_str, ltD_int, gtD_int, leD_int, geD_int, sizeLine_eq, List.set_cons_zero, List.set_cons_succ, seqD_l, seqD_t, sTup_t, ho]
    exact this
  have hq := sortD_Q (chainRows h hook)
  have c2 : compL (sTup (sCons (sN 10) (sCons (sN 4) (sCons (sN 6) (sCons (sN 5) (sCons (sN 9) sNil)))))) fYes ce_chain_3 (wipeE [.dat (eH h), .dat (.str hook), .dat (partBook h), .own (.list ((chainRows h hook).map eQ)), j4, j5, j6, j7, .un, .un, .un] [10, 4, 6, 5, 9]) ((sortT eQ (chainRows h hook)).map eQ) = some (((sortT eQ (chainRows h hook)).filter fun _ => true).map fun q => eC (q.name, q.rank, q.deed)) :=
    compL_map eQ _ _ _ fun q hq => ⟨_, rfl, rfl, fun _ => by simp [ce_chain_3, bodyD, startE, qSeq, qSet, qOwn, qRet, qIf, qNil, qFor, qApp, qExt, qPut, qRetOwn, qAlias, qAsg, qBrk, qCont, qDrop, qPop, fGet2, f1, f2, fV, fW, fC, fCons, fNil, fTup, fLst, fCall, fB, fAndB, fOrB, fNotB, fAndV, fOrV, fNotV, fIf, fChain, fIt, fLc, fYes, sN, sCons, sNil, wipeE, itemsH, lstH, lenH, ixP0, ixP1, ixP2, ixP3, ixP4, ixW0, ixW1, ixW2, ixW3, ixF0, ixF1, ixK0, ixK1, ixK2, ixT0, ixT1, ixT2, ixT3, ixL0, lenD_l, lenD_t, lenD_s, lstD_l, lstD_t, tupD_l, tupD_t, itemsD_l, itemsD_t, addD_i, addD_s, addD_t, subD_i, catD_l, intD_i, intD_b, isND_n, notND_n, isNone_n, isNone_s, isNone_i, isNone_b, isNone_l, isNone_t, isNone_p, isNone_o, modD_i, fdivD_i, timesD_t, min2_i, max2_i, negD_i, asB_b, Option.bind_some, Option.map_some, List.map_cons, List.map_nil, List.length_cons, List.length_nil, List.replicate, List.append_nil, List.getElem?_cons_zero, List.getElem?_cons_succ, eqD_O, neD_O, eqD_int, neD_int, eqD_str, neD_str, ltD_int, gtD_int, leD_int, geD_int, sizeLine_eq, List.set_cons_zero, List.set_cons_succ, seqD_l, seqD_t, sTup_t, eC]⟩
  rw [filter_true] at c2
  unfold chain
  rw [List.map_map]
  simp only [bodyD, startE, qSeq, qSet, qOwn, qRet, qIf, qNil, qFor, qApp, qExt, qPut, qRetOwn, qAlias, qAsg, qBrk, qCont, qDrop, qPop, fGet2, f1, f2, fV, fW, fC, fCons, fNil, fTup, fLst, fCall, fB, fAndB, fOrB, fNotB, fAndV, fOrV, fNotV, fIf, fChain, fIt, fLc, fYes, sN, sCons, sNil, wipeE, itemsH, lstH, lenH, ixP0, ixP1, ixP2, ixP3, ixP4, ixW0, ixW1, ixW2, ixW3, ixF0, ixF1, ixK0, ixK1, ixK2, ixT0, ixT1, ixT2, ixT3, ixL0, lenD_l, lenD_t, lenD_s, lstD_l, lstD_t, tupD_l, tupD_t, itemsD_l, itemsD_t, addD_i, addD_s, addD_t, subD_i, catD_l, intD_i, intD_b, isND_n, notND_n, isNone_n, isNone_s, isNone_i, isNone_b, isNone_l, isNone_t, isNone_p, isNone_o, modD_i, fdivD_i, timesD_t, min2_i, max2_i, negD_i, asB_b, Option.bind_some, Option.map_some, List.map_cons, List.map_nil, List.length_cons, List.length_nil, List.replicate, List.append_nil, List.getElem?_cons_zero, List.getElem?_cons_succ, eqD_O, neD_O, eqD_int, neD_int, eqD_str, neD_str, ltD_int, gtD_int, leD_int, geD_int, sizeLine_eq, List.set_cons_zero, List.set_cons_succ, seqD_l, seqD_t, sTup_t] at c1 c2
  simp only [m_chain, g_chain, bodyD, startE, qSeq, qSet, qOwn, qRet, qIf, qNil, qFor, qApp, qExt, qPut, qRetOwn, qAlias, qAsg, qBrk, qCont, qDrop, qPop, fGet2, f1, f2, fV, fW, fC, fCons, fNil, fTup, fLst, fCall, fB, fAndB, fOrB, fNotB, fAndV, fOrV, fNotV, fIf, fChain, fIt, fLc, fYes, sN, sCons, sNil, wipeE, itemsH, lstH, lenH, ixP0, ixP1, ixP2, ixP3, ixP4, ixW0, ixW1, ixW2, ixW3, ixF0, ixF1, ixK0, ixK1, ixK2, ixT0, ixT1, ixT2, ixT3, ixL0, lenD_l, lenD_t, lenD_s, lstD_l, lstD_t, tupD_l, tupD_t, itemsD_l, itemsD_t, addD_i, addD_s, addD_t, subD_i, catD_l, intD_i, intD_b, isND_n, notND_n, isNone_n, isNone_s, isNone_i, isNone_b, isNone_l, isNone_t, isNone_p, isNone_o, modD_i, fdivD_i, timesD_t, min2_i, max2_i, negD_i, asB_b, Option.bind_some, Option.map_some, List.map_cons, List.map_nil, List.length_cons, List.length_nil, List.replicate, List.append_nil, List.getElem?_cons_zero, List.getElem?_cons_succ, eqD_O, neD_O, eqD_int, neD_int, eqD_str, neD_str, ltD_int, gtD_int, leD_int, geD_int, sizeLine_eq, List.set_cons_zero, List.set_cons_succ, seqD_l, seqD_t, sTup_t, c1, d1, he]
  simp [bodyD, startE, qSeq, qSet, qOwn, qRet, qIf, qNil, qFor, qApp, qExt, qPut, qRetOwn, qAlias, qAsg, qBrk, qCont, qDrop, qPop, fGet2, f1, f2, fV, fW, fC, fCons, fNil, fTup, fLst, fCall, fB, fAndB, fOrB, fNotB, fAndV, fOrV, fNotV, fIf, fChain, fIt, fLc, fYes, sN, sCons, sNil, wipeE, itemsH, lstH, lenH, ixP0, ixP1, ixP2, ixP3, ixP4, ixW0, ixW1, ixW2, ixW3, ixF0, ixF1, ixK0, ixK1, ixK2, ixT0, ixT1, ixT2, ixT3, ixL0, lenD_l, lenD_t, lenD_s, lstD_l, lstD_t, tupD_l, tupD_t, itemsD_l, itemsD_t, addD_i, addD_s, addD_t, subD_i, catD_l, intD_i, intD_b, isND_n, notND_n, isNone_n, isNone_s, isNone_i, isNone_b, isNone_l, isNone_t, isNone_p, isNone_o, modD_i, fdivD_i, timesD_t, min2_i, max2_i, negD_i, asB_b, Option.bind_some, Option.map_some, List.map_cons, List.map_nil, List.length_cons, List.length_nil, List.replicate, List.append_nil, List.getElem?_cons_zero, List.getElem?_cons_succ, eqD_O, neD_O, eqD_int, neD_int, eqD_str, neD_str, ltD_int, gtD_int, leD_int, geD_int, sizeLine_eq, List.set_cons_zero, List.set_cons_succ, seqD_l, seqD_t, sTup_t, c1, d1, he, k1, hq, c2]
theorem chain_ok {h : House} (w : WH h) (hook : Str) : ∀ q ∈ chain h hook, deedOk q.2.2 ∧ (-9 ≤ q.2.1 ∧ q.2.1 ≤ 9) ∧ q.1 ∈ order h := by
  intro q hq
  unfold chain at hq
  obtain ⟨r, hr, rfl⟩ := List.mem_map.mp hq
  rw [mem_sortT] at hr
  unfold chainRows at hr
  obtain ⟨⟨i, n⟩, hx, hr⟩ := List.mem_flatMap.mp hr
  dsimp only at hr
  cases hp : partOf h n with
  | none => rw [hp] at hr; cases hr
  | some p =>
    rw [hp] at hr
    have hm := List.mem_of_find?_eq_some hp
    unfold rowsAt at hr
    obtain ⟨⟨j, k⟩, hk, hr⟩ := List.mem_flatMap.mp hr
    have hkm := enumI_snd _ _ _ hk
    dsimp only at hr
    split at hr
    · rw [List.mem_singleton.mp hr]
      exact ⟨(w.parts p hm).deed k hkm, (w.parts p hm).rank k hkm, enumI_snd _ _ _ hx⟩
    · cases hr
/-! ### pulled -/
def argOf (d : Deed) : Int := d.arg.getD 0
def made (d : Deed) (w : Int) : Int := if d.word = "plus" then (w + argOf d) % 1000 else if d.word = "times" then w * argOf d % 1000 else if d.word = "set" then argOf d else w
def pullRun : List (Str × Int × Deed) → Int → Int × Option Str
  | [], w => (w, none)
  | q :: r, w => if q.2.2.word = "stop" then (w, none) else if q.2.2.word = "fail" ∧ argOf q.2.2 ≤ w then (w, some q.1) else pullRun r (made q.2.2 w)
def eR (x : Int × Option Str) : D := .tuple [.int x.1, eO x.2]
theorem ixDd0 (d : Deed) : ixD (eDd d) (.int 0) = some (.str d.word) := by
  obtain ⟨w, x⟩ := d
  cases x <;> rfl
theorem ixDd1 {d : Deed} {n : Int} (h : d.arg = some n) : ixD (eDd d) (.int 1) = some (.int n) := by
  obtain ⟨w, x⟩ := d
  dsimp only at h
  subst h
  rfl
theorem ne_words : ("fail" : Str) ≠ "plus" ∧ ("fail" : Str) ≠ "times" ∧ ("fail" : Str) ≠ "set" ∧ ("plus" : Str) ≠ "fail" ∧ ("times" : Str) ≠ "fail" ∧ ("set" : Str) ≠ "fail" ∧ ("times" : Str) ≠ "plus" ∧ ("set" : Str) ≠ "plus" ∧ ("set" : Str) ≠ "times" ∧ ("fail" : Str) ≠ "stop" ∧ ("plus" : Str) ≠ "stop" ∧ ("times" : Str) ≠ "stop" ∧ ("set" : Str) ≠ "stop" := by decide +kernel
theorem ev_pulled_loop (a b : Slot) : ∀ (qs : List (Str × Int × Deed)) (w : Int) (i3 i4 i5 i6 : Slot), (∀ q ∈ qs, deedOk q.2.2) →
    (∃ j3 j4 j5 j6 w', loopS (sTup (sCons (sN 3) (sCons (sN 4) (sCons (sN 5) sNil)))) lb_pulled_0 (qs.map eC) [a, b, .dat (.int w), i3, i4, i5, i6] = some (.next [a, b, .dat (.int w'), j3, j4, j5, j6]) ∧ pullRun qs w = (w', none)) ∨
    loopS (sTup (sCons (sN 3) (sCons (sN 4) (sCons (sN 5) sNil)))) lb_pulled_0 (qs.map eC) [a, b, .dat (.int w), i3, i4, i5, i6] = some (.ret (eR (pullRun qs w)))
  | [], w, i3, i4, i5, i6, _ => .inl ⟨_, _, _, _, _, rfl, rfl⟩
  | q :: qs, w, i3, i4, i5, i6, hd => by
    obtain ⟨nm, rk, d⟩ := q
    have hq : deedOk d := hd _ List.mem_cons_self
    have hd' : ∀ q ∈ qs, deedOk q.2.2 := fun q h => hd q (List.mem_cons_of_mem _ h)
    have h0 := ixDd0 d
    rw [List.map_cons, loopS, pullRun]
    rcases hq with ⟨hw, ha⟩ | ⟨hns, hw, n, ha, n0, n1⟩
    · right
      simp [lb_pulled_0, bodyD, startE, qSeq, qSet, qOwn, qRet, qIf, qNil, qFor, qApp, qExt, qPut, qRetOwn, qAlias, qAsg, qBrk, qCont, qDrop, qPop, fGet2, f1, f2, fV, fW, fC, fCons, fNil, fTup, fLst, fCall, fB, fAndB, fOrB, fNotB, fAndV, fOrV, fNotV, fIf, fChain, fIt, fLc, fYes, sN, sCons, sNil, wipeE, itemsH, lstH, lenH, ixP0, ixP1, ixP2, ixP3, ixP4, ixW0, ixW1, ixW2, ixW3, ixF0, ixF1, ixK0, ixK1, ixK2, ixT0, ixT1, ixT2, ixT3, ixL0, lenD_l, lenD_t, lenD_s, lstD_l, lstD_t, tupD_l, tupD_t, itemsD_l, itemsD_t, addD_i, addD_s, addD_t, subD_i, catD_l, intD_i, intD_b, isND_n, notND_n, isNone_n, isNone_s, isNone_i, isNone_b, isNone_l, isNone_t, isNone_p, isNone_o, modD_i, fdivD_i, timesD_t, min2_i, max2_i, negD_i, asB_b, Option.bind_some, Option.map_some, List.map_cons, List.map_nil, List.length_cons, List.length_nil, List.replicate, List.append_nil, List.getElem?_cons_zero, List.getElem?_cons_succ, eqD_O, neD_O, eqD_int, neD_int, eqD_str, neD_str, ltD_int, gtD_int, leD_int, geD_int, sizeLine_eq, List.set_cons_zero, List.set_cons_succ, seqD_l, seqD_t, sTup_t, eC, h0, hw, eR, eO]
    · have h1 := ixDd1 ha
      have e1 : argOf d = n := by unfold argOf; rw [ha]; rfl
      obtain ⟨f1', f2', f3', f4', f5', f6', f7', f8', f9', g1, g2, g3, g4⟩ := ne_words
      by_cases hf : d.word = "fail" ∧ n ≤ w
      · right
        dsimp only
        rw [if_neg hns, if_pos (by rw [e1]; exact hf)]
        simp [lb_pulled_0, bodyD, startE, qSeq, qSet, qOwn, qRet, qIf, qNil, qFor, qApp, qExt, qPut, qRetOwn, qAlias, qAsg, qBrk, qCont, qDrop, qPop, fGet2, f1, f2, fV, fW, fC, fCons, fNil, fTup, fLst, fCall, fB, fAndB, fOrB, fNotB, fAndV, fOrV, fNotV, fIf, fChain, fIt, fLc, fYes, sN, sCons, sNil, wipeE, itemsH, lstH, lenH, ixP0, ixP1, ixP2, ixP3, ixP4, ixW0, ixW1, ixW2, ixW3, ixF0, ixF1, ixK0, ixK1, ixK2, ixT0, ixT1, ixT2, ixT3, ixL0, lenD_l, lenD_t, lenD_s, lstD_l, lstD_t, tupD_l, tupD_t, itemsD_l, itemsD_t, addD_i, addD_s, addD_t, subD_i, catD_l, intD_i, intD_b, isND_n, notND_n, isNone_n, isNone_s, isNone_i, isNone_b, isNone_l, isNone_t, isNone_p, isNone_o, modD_i, fdivD_i, timesD_t, min2_i, max2_i, negD_i, asB_b, Option.bind_some, Option.map_some, List.map_cons, List.map_nil, List.length_cons, List.length_nil, List.replicate, List.append_nil, List.getElem?_cons_zero, List.getElem?_cons_succ, eqD_O, neD_O, eqD_int, neD_int, eqD_str, neD_str, ltD_int, gtD_int, leD_int, geD_int, sizeLine_eq, List.set_cons_zero, List.set_cons_succ, seqD_l, seqD_t, sTup_t, eC, h0, h1, g1, hf.1, hf.2, eR, eO]
      · dsimp only
        rw [if_neg hns, if_neg (by rw [e1]; exact hf)]
        have hgo : ∃ j3 j4 j5 j6, ((sTup (sCons (sN 3) (sCons (sN 4) (sCons (sN 5) sNil)))) (eC (nm, rk, d)) [a, b, .dat (.int w), i3, i4, i5, i6]).bind lb_pulled_0 = some (.next [a, b, .dat (.int (made d w)), j3, j4, j5, j6]) := by
          refine ⟨.dat (.str nm), .dat (.int rk), .dat (eDd d), .dat (.str d.word), ?_⟩
          have tm : timesD (.int w) (.int n) = some (.int (w * n)) := by
            show (if _ then _ else _) = _
            rw [if_pos (.inr ⟨by omega, by omega⟩)]
          simp only [List.mem_cons, List.not_mem_nil, or_false] at hw
          unfold made
          rw [e1]
          rcases hw with hw | hw | hw | hw
          · simp [lb_pulled_0, bodyD, startE, qSeq, qSet, qOwn, qRet, qIf, qNil, qFor, qApp, qExt, qPut, qRetOwn, qAlias, qAsg, qBrk, qCont, qDrop, qPop, fGet2, f1, f2, fV, fW, fC, fCons, fNil, fTup, fLst, fCall, fB, fAndB, fOrB, fNotB, fAndV, fOrV, fNotV, fIf, fChain, fIt, fLc, fYes, sN, sCons, sNil, wipeE, itemsH, lstH, lenH, ixP0, ixP1, ixP2, ixP3, ixP4, ixW0, ixW1, ixW2, ixW3, ixF0, ixF1, ixK0, ixK1, ixK2, ixT0, ixT1, ixT2, ixT3, ixL0, lenD_l, lenD_t, lenD_s, lstD_l, lstD_t, tupD_l, tupD_t, itemsD_l, itemsD_t, addD_i, addD_s, addD_t, subD_i, catD_l, intD_i, intD_b, isND_n, notND_n, isNone_n, isNone_s, isNone_i, isNone_b, isNone_l, isNone_t, isNone_p, isNone_o, modD_i, fdivD_i, timesD_t, min2_i, max2_i, negD_i, asB_b, Option.bind_some, Option.map_some, List.map_cons, List.map_nil, List.length_cons, List.length_nil, List.replicate, List.append_nil, List.getElem?_cons_zero, List.getElem?_cons_succ, eqD_O, neD_O, eqD_int, neD_int, eqD_str, neD_str, ltD_int, gtD_int, leD_int, geD_int, sizeLine_eq, List.set_cons_zero, List.set_cons_succ, seqD_l, seqD_t, sTup_t, eC, h0, h1, g2, hw, f4', f7', f8', c_RING]
          · simp [lb_pulled_0, bodyD, startE, qSeq, qSet, qOwn, qRet, qIf, qNil, qFor, qApp, qExt, qPut, qRetOwn, qAlias, qAsg, qBrk, qCont, qDrop, qPop, fGet2, f1, f2, fV, fW, fC, fCons, fNil, fTup, fLst, fCall, fB, fAndB, fOrB, fNotB, fAndV, fOrV, fNotV, fIf, fChain, fIt, fLc, fYes, sN, sCons, sNil, wipeE, itemsH, lstH, lenH, ixP0, ixP1, ixP2, ixP3, ixP4, ixW0, ixW1, ixW2, ixW3, ixF0, ixF1, ixK0, ixK1, ixK2, ixT0, ixT1, ixT2, ixT3, ixL0, lenD_l, lenD_t, lenD_s, lstD_l, lstD_t, tupD_l, tupD_t, itemsD_l, itemsD_t, addD_i, addD_s, addD_t, subD_i, catD_l, intD_i, intD_b, isND_n, notND_n, isNone_n, isNone_s, isNone_i, isNone_b, isNone_l, isNone_t, isNone_p, isNone_o, modD_i, fdivD_i, timesD_t, min2_i, max2_i, negD_i, asB_b, Option.bind_some, Option.map_some, List.map_cons, List.map_nil, List.length_cons, List.length_nil, List.replicate, List.append_nil, List.getElem?_cons_zero, List.getElem?_cons_succ, eqD_O, neD_O, eqD_int, neD_int, eqD_str, neD_str, ltD_int, gtD_int, leD_int, geD_int, sizeLine_eq, List.set_cons_zero, List.set_cons_succ, seqD_l, seqD_t, sTup_t, eC, h0, h1, g3, hw, f5', f7', f9', c_RING, tm]
          · simp [lb_pulled_0, bodyD, startE, qSeq, qSet, qOwn, qRet, qIf, qNil, qFor, qApp, qExt, qPut, qRetOwn, qAlias, qAsg, qBrk, qCont, qDrop, qPop, fGet2, f1, f2, fV, fW, fC, fCons, fNil, fTup, fLst, fCall, fB, fAndB, fOrB, fNotB, fAndV, fOrV, fNotV, fIf, fChain, fIt, fLc, fYes, sN, sCons, sNil, wipeE, itemsH, lstH, lenH, ixP0, ixP1, ixP2, ixP3, ixP4, ixW0, ixW1, ixW2, ixW3, ixF0, ixF1, ixK0, ixK1, ixK2, ixT0, ixT1, ixT2, ixT3, ixL0, lenD_l, lenD_t, lenD_s, lstD_l, lstD_t, tupD_l, tupD_t, itemsD_l, itemsD_t, addD_i, addD_s, addD_t, subD_i, catD_l, intD_i, intD_b, isND_n, notND_n, isNone_n, isNone_s, isNone_i, isNone_b, isNone_l, isNone_t, isNone_p, isNone_o, modD_i, fdivD_i, timesD_t, min2_i, max2_i, negD_i, asB_b, Option.bind_some, Option.map_some, List.map_cons, List.map_nil, List.length_cons, List.length_nil, List.replicate, List.append_nil, List.getElem?_cons_zero, List.getElem?_cons_succ, eqD_O, neD_O, eqD_int, neD_int, eqD_str, neD_str, ltD_int, gtD_int, leD_int, geD_int, sizeLine_eq, List.set_cons_zero, List.set_cons_succ, seqD_l, seqD_t, sTup_t, eC, h0, h1, g4, hw, f6', f8', f9', c_RING]
          · have hle : ¬ n ≤ w := fun z => hf ⟨hw, z⟩
            simp [lb_pulled_0, bodyD, startE, qSeq, qSet, qOwn, qRet, qIf, qNil, qFor, qApp, qExt, qPut, qRetOwn, qAlias, qAsg, qBrk, qCont, qDrop, qPop, fGet2, f1, f2, fV, fW, fC, fCons, fNil, fTup, fLst, fCall, fB, fAndB, fOrB, fNotB, fAndV, fOrV, fNotV, fIf, fChain, fIt, fLc, fYes, sN, sCons, sNil, wipeE, itemsH, lstH, lenH, ixP0, ixP1, ixP2, ixP3, ixP4, ixW0, ixW1, ixW2, ixW3, ixF0, ixF1, ixK0, ixK1, ixK2, ixT0, ixT1, ixT2, ixT3, ixL0, lenD_l, lenD_t, lenD_s, lstD_l, lstD_t, tupD_l, tupD_t, itemsD_l, itemsD_t, addD_i, addD_s, addD_t, subD_i, catD_l, intD_i, intD_b, isND_n, notND_n, isNone_n, isNone_s, isNone_i, isNone_b, isNone_l, isNone_t, isNone_p, isNone_o, modD_i, fdivD_i, timesD_t, min2_i, max2_i, negD_i, asB_b, Option.bind_some, Option.map_some, List.map_cons, List.map_nil, List.length_cons, List.length_nil, List.replicate, List.append_nil, List.getElem?_cons_zero, List.getElem?_cons_succ, eqD_O, neD_O, eqD_int, neD_int, eqD_str, neD_str, ltD_int, gtD_int, leD_int, geD_int, sizeLine_eq, List.set_cons_zero, List.set_cons_succ, seqD_l, seqD_t, sTup_t, eC, h0, h1, g1, hw, f1', f2', f3', hle]
        obtain ⟨j3, j4, j5, j6, hgo⟩ := hgo
        rw [show (sTup (sCons (sN 3) (sCons (sN 4) (sCons (sN 5) sNil)))) (eC (nm, rk, d)) [a, b, .dat (.int w), i3, i4, i5, i6] = some [a, b, .dat (.int w), .dat (.str nm), .dat (.int rk), .dat (eDd d), i6] from rfl] at hgo ⊢
        rw [Option.bind_some] at hgo ⊢
        rw [hgo, Option.bind_some]
        exact ev_pulled_loop a b qs (made d w) j3 j4 j5 j6 hd'
def pulled (h : House) (hook : Str) (w : Int) : Int × Option Str := pullRun (chain h hook) w
theorem ev_pulled {h : House} (wh : WH h) (hook : Str) (w : Int) : m_pulled [eH h, .str hook, .int w] = some (eR (pulled h hook w)) := by
  have hc := ev_chain wh hook
  unfold pulled
  rcases ev_pulled_loop (.dat (eH h)) (.dat (.str hook)) (chain h hook) w .un .un .un .un (fun q hq => (chain_ok wh hook q hq).1) with ⟨j3, j4, j5, j6, w', k, e⟩ | k
  · rw [e]
    simp [m_pulled, g_pulled, bodyD, startE, qSeq, qSet, qOwn, qRet, qIf, qNil, qFor, qApp, qExt, qPut, qRetOwn, qAlias, qAsg, qBrk, qCont, qDrop, qPop, fGet2, f1, f2, fV, fW, fC, fCons, fNil, fTup, fLst, fCall, fB, fAndB, fOrB, fNotB, fAndV, fOrV, fNotV, fIf, fChain, fIt, fLc, fYes, sN, sCons, sNil, wipeE, itemsH, lstH, lenH, ixP0, ixP1, ixP2, ixP3, ixP4, ixW0, ixW1, ixW2, ixW3, ixF0, ixF1, ixK0, ixK1, ixK2, ixT0, ixT1, ixT2, ixT3, ixL0, lenD_l, lenD_t, lenD_s, lstD_l, lstD_t, tupD_l, tupD_t, itemsD_l, itemsD_t, addD_i, addD_s, addD_t, subD_i, catD_l, intD_i, intD_b, isND_n, notND_n, isNone_n, isNone_s, isNone_i, isNone_b, isNone_l, isNone_t, isNone_p, isNone_o, modD_i, fdivD_i, timesD_t, min2_i, max2_i, negD_i, asB_b, Option.bind_some, Option.map_some, List.map_cons, List.map_nil, List.length_cons, List.length_nil, List.replicate, List.append_nil, List.getElem?_cons_zero, List.getElem?_cons_succ, eqD_O, neD_O, eqD_int, neD_int, eqD_str, neD_str, ltD_int, gtD_int, leD_int, geD_int, sizeLine_eq, List.set_cons_zero, List.set_cons_succ, seqD_l, seqD_t, sTup_t, hc, k, eR, eO]
  · simp [m_pulled, g_pulled, bodyD, startE, qSeq, qSet, qOwn, qRet, qIf, qNil, qFor, qApp, qExt, qPut, qRetOwn, qAlias, qAsg, qBrk, qCont, qDrop, qPop, fGet2, f1, f2, fV, fW, fC, fCons, fNil, fTup, fLst, fCall, fB, fAndB, fOrB, fNotB, fAndV, fOrV, fNotV, fIf, fChain, fIt, fLc, fYes, sN, sCons, sNil, wipeE, itemsH, lstH, lenH, ixP0, ixP1, ixP2, ixP3, ixP4, ixW0, ixW1, ixW2, ixW3, ixF0, ixF1, ixK0, ixK1, ixK2, ixT0, ixT1, ixT2, ixT3, ixL0, lenD_l, lenD_t, lenD_s, lstD_l, lstD_t, tupD_l, tupD_t, itemsD_l, itemsD_t, addD_i, addD_s, addD_t, subD_i, catD_l, intD_i, intD_b, isND_n, notND_n, isNone_n, isNone_s, isNone_i, isNone_b, isNone_l, isNone_t, isNone_p, isNone_o, modD_i, fdivD_i, timesD_t, min2_i, max2_i, negD_i, asB_b, Option.bind_some, Option.map_some, List.map_cons, List.map_nil, List.length_cons, List.length_nil, List.replicate, List.append_nil, List.getElem?_cons_zero, List.getElem?_cons_succ, eqD_O, neD_O, eqD_int, neD_int, eqD_str, neD_str, ltD_int, gtD_int, leD_int, geD_int, sizeLine_eq, List.set_cons_zero, List.set_cons_succ, seqD_l, seqD_t, sTup_t, hc, k]
/-! ### who is lost -/
def without (h : House) (n : Str) : House := h.filter fun p => !decide (p.name = n)
def lost (h : House) (n : Str) : List Str := sortT eS ((order h).filter fun x => !decide (x = n) && !decide (x ∈ order (without h n)))
theorem WH.without {h : House} (w : WH h) (n : Str) : WH (without h n) := w.sub List.filter_sublist
theorem ev_lost {h : House} (w : WH h) (n : Str) : m_lost [eH h, .str n] = some (.tuple ((lost h n).map eS)) := by
  have h1 := w.order
  have h2 := (w.without n).order
  have c1 : compL (sN 3) ct_lost_0 (fV 3) (wipeE [.dat (eH h), .dat (.str n), .un, .un, .un] [3]) (h.map eP) = some ((PD.without h n).map eP) :=
    compL_map eP _ _ _ fun p hp => ⟨_, rfl, by simp [ct_lost_0, bodyD, startE, qSeq, qSet, qOwn, qRet, qIf, qNil, qFor, qApp, qExt, qPut, qRetOwn, qAlias, qAsg, qBrk, qCont, qDrop, qPop, fGet2, f1, f2, fV, fW, fC, fCons, fNil, fTup, fLst, fCall, fB, fAndB, fOrB, fNotB, fAndV, fOrV, fNotV, fIf, fChain, fIt, fLc, fYes, sN, sCons, sNil, wipeE, itemsH, lstH, lenH, ixP0, ixP1, ixP2, ixP3, ixP4, ixW0, ixW1, ixW2, ixW3, ixF0, ixF1, ixK0, ixK1, ixK2, ixT0, ixT1, ixT2, ixT3, ixL0, lenD_l, lenD_t, lenD_s, lstD_l, lstD_t, tupD_l, tupD_t, itemsD_l, itemsD_t, addD_i, addD_s, addD_t, subD_i, catD_l, intD_i, intD_b, isND_n, notND_n, isNone_n, isNone_s, isNone_i, isNone_b, isNone_l, isNone_t, isNone_p, isNone_o, modD_i, fdivD_i, timesD_t, min2_i, max2_i, negD_i, asB_b, Option.bind_some, Option.map_some, List.map_cons, List.map_nil, List.length_cons, List.length_nil, List.replicate, List.append_nil, List.getElem?_cons_zero, List.getElem?_cons_succ, eqD_O, neD_O, eqD_int, neD_int, eqD_str, neD_str, ltD_int, gtD_int, leD_int, geD_int, sizeLine_eq, List.set_cons_zero, List.set_cons_succ, seqD_l, seqD_t, sTup_t], fun _ => rfl⟩
  have c2 : compL (sN 4) ct_lost_1 (fV 4) (wipeE [.dat (eH h), .dat (.str n), .dat (.tuple ((order (PD.without h n)).map eS)), .un, .un] [4]) ((order h).map eS) = some (((order h).filter fun x => !decide (x = n) && !decide (x ∈ order (PD.without h n))).map eS) :=
    compL_map eS _ _ _ fun x hx => ⟨_, rfl, by by_cases hxn : x = n <;> simp [ct_lost_1, bodyD, startE, qSeq, qSet, qOwn, qRet, qIf, qNil, qFor, qApp, qExt, qPut, qRetOwn, qAlias, qAsg, qBrk, qCont, qDrop, qPop, fGet2, f1, f2, fV, fW, fC, fCons, fNil, fTup, fLst, fCall, fB, fAndB, fOrB, fNotB, fAndV, fOrV, fNotV, fIf, fChain, fIt, fLc, fYes, sN, sCons, sNil, wipeE, itemsH, lstH, lenH, ixP0, ixP1, ixP2, ixP3, ixP4, ixW0, ixW1, ixW2, ixW3, ixF0, ixF1, ixK0, ixK1, ixK2, ixT0, ixT1, ixT2, ixT3, ixL0, lenD_l, lenD_t, lenD_s, lstD_l, lstD_t, tupD_l, tupD_t, itemsD_l, itemsD_t, addD_i, addD_s, addD_t, subD_i, catD_l, intD_i, intD_b, isND_n, notND_n, isNone_n, isNone_s, isNone_i, isNone_b, isNone_l, isNone_t, isNone_p, isNone_o, modD_i, fdivD_i, timesD_t, min2_i, max2_i, negD_i, asB_b, Option.bind_some, Option.map_some, List.map_cons, List.map_nil, List.length_cons, List.length_nil, List.replicate, List.append_nil, List.getElem?_cons_zero, List.getElem?_cons_succ, eqD_O, neD_O, eqD_int, neD_int, eqD_str, neD_str, ltD_int, gtD_int, leD_int, geD_int, sizeLine_eq, List.set_cons_zero, List.set_cons_succ, seqD_l, seqD_t, sTup_t, eS, hxn, notInT_S], fun _ => rfl⟩
  have h3 := sortD_S ((order h).filter fun x => !decide (x = n) && !decide (x ∈ order (PD.without h n)))
  have e : (PyData.tuple ((PD.without h n).map eP)) = eH (PD.without h n) := rfl
  unfold lost
  simp only [bodyD, startE, qSeq, qSet, qOwn, qRet, qIf, qNil, qFor, qApp, qExt, qPut, qRetOwn, qAlias, qAsg, qBrk, qCont, qDrop, qPop, fGet2, f1, f2, fV, fW, fC, fCons, fNil, fTup, fLst, fCall, fB, fAndB, fOrB, fNotB, fAndV, fOrV, fNotV, fIf, fChain, fIt, fLc, fYes, sN, sCons, sNil, wipeE, itemsH, lstH, lenH, ixP0, ixP1, ixP2, ixP3, ixP4, ixW0, ixW1, ixW2, ixW3, ixF0, ixF1, ixK0, ixK1, ixK2, ixT0, ixT1, ixT2, ixT3, ixL0, lenD_l, lenD_t, lenD_s, lstD_l, lstD_t, tupD_l, tupD_t, itemsD_l, itemsD_t, addD_i, addD_s, addD_t, subD_i, catD_l, intD_i, intD_b, isND_n, notND_n, isNone_n, isNone_s, isNone_i, isNone_b, isNone_l, isNone_t, isNone_p, isNone_o, modD_i, fdivD_i, timesD_t, min2_i, max2_i, negD_i, asB_b, Option.bind_some, Option.map_some, List.map_cons, List.map_nil, List.length_cons, List.length_nil, List.replicate, List.append_nil, List.getElem?_cons_zero, List.getElem?_cons_succ, eqD_O, neD_O, eqD_int, neD_int, eqD_str, neD_str, ltD_int, gtD_int, leD_int, geD_int, sizeLine_eq, List.set_cons_zero, List.set_cons_succ, seqD_l, seqD_t, sTup_t] at c1 c2
  simp only [m_lost, g_lost, bodyD, startE, qSeq, qSet, qOwn, qRet, qIf, qNil, qFor, qApp, qExt, qPut, qRetOwn, qAlias, qAsg, qBrk, qCont, qDrop, qPop, fGet2, f1, f2, fV, fW, fC, fCons, fNil, fTup, fLst, fCall, fB, fAndB, fOrB, fNotB, fAndV, fOrV, fNotV, fIf, fChain, fIt, fLc, fYes, sN, sCons, sNil, wipeE, itemsH, lstH, lenH, ixP0, ixP1, ixP2, ixP3, ixP4, ixW0, ixW1, ixW2, ixW3, ixF0, ixF1, ixK0, ixK1, ixK2, ixT0, ixT1, ixT2, ixT3, ixL0, lenD_l, lenD_t, lenD_s, lstD_l, lstD_t, tupD_l, tupD_t, itemsD_l, itemsD_t, addD_i, addD_s, addD_t, subD_i, catD_l, intD_i, intD_b, isND_n, notND_n, isNone_n, isNone_s, isNone_i, isNone_b, isNone_l, isNone_t, isNone_p, isNone_o, modD_i, fdivD_i, timesD_t, min2_i, max2_i, negD_i, asB_b, Option.bind_some, Option.map_some, List.map_cons, List.map_nil, List.length_cons, List.length_nil, List.replicate, List.append_nil, List.getElem?_cons_zero, List.getElem?_cons_succ, eqD_O, neD_O, eqD_int, neD_int, eqD_str, neD_str, ltD_int, gtD_int, leD_int, geD_int, sizeLine_eq, List.set_cons_zero, List.set_cons_succ, seqD_l, seqD_t, sTup_t, h1, h2, c1, e]
  simp [bodyD, startE, qSeq, qSet, qOwn, qRet, qIf, qNil, qFor, qApp, qExt, qPut, qRetOwn, qAlias, qAsg, qBrk, qCont, qDrop, qPop, fGet2, f1, f2, fV, fW, fC, fCons, fNil, fTup, fLst, fCall, fB, fAndB, fOrB, fNotB, fAndV, fOrV, fNotV, fIf, fChain, fIt, fLc, fYes, sN, sCons, sNil, wipeE, itemsH, lstH, lenH, ixP0, ixP1, ixP2, ixP3, ixP4, ixW0, ixW1, ixW2, ixW3, ixF0, ixF1, ixK0, ixK1, ixK2, ixT0, ixT1, ixT2, ixT3, ixL0, lenD_l, lenD_t, lenD_s, lstD_l, lstD_t, tupD_l, tupD_t, itemsD_l, itemsD_t, addD_i, addD_s, addD_t, subD_i, catD_l, intD_i, intD_b, isND_n, notND_n, isNone_n, isNone_s, isNone_i, isNone_b, isNone_l, isNone_t, isNone_p, isNone_o, modD_i, fdivD_i, timesD_t, min2_i, max2_i, negD_i, asB_b, Option.bind_some, Option.map_some, List.map_cons, List.map_nil, List.length_cons, List.length_nil, List.replicate, List.append_nil, List.getElem?_cons_zero, List.getElem?_cons_succ, eqD_O, neD_O, eqD_int, neD_int, eqD_str, neD_str, ltD_int, gtD_int, leD_int, geD_int, sizeLine_eq, List.set_cons_zero, List.set_cons_succ, seqD_l, seqD_t, sTup_t, h1, h2, c1, e, c2, h3]
end PD

/-! PARTHOST, THE PLAIN PART 9: the greatest set that holds; a part taken away. -/
namespace PD
open PySem PySem.Spec PyProof.Rows L2
/-- each must-want of each part has a giver -/
def Holds (S : House) : Prop := ∀ p ∈ S, ∀ w ∈ p.wants, w.must = true → giversFor S p.name w ≠ []
theorem lacks_nil {S : House} {p : Part} : (lacks S p).length = 0 ↔ ∀ w ∈ p.wants, w.must = true → giversFor S p.name w ≠ [] := by
  have h := lacks_zero S p
  constructor
  · intro z
    rw [decide_eq_true z] at h
    have h' := List.all_eq_true.mp h.symm
    intro w hw hm hg
    have := h' w hw
    rw [hm, hg] at this
    simp at this
  · intro z
    have : (p.wants.all fun w => decide (giversFor S p.name w ≠ []) || !w.must) = true := by
      rw [List.all_eq_true]
      intro w hw
      cases hm : w.must with
      | false => simp
      | true => simp [z w hw hm]
    rw [this] at h
    exact of_decide_eq_true h
theorem mem_step {S : House} {p : Part} : p ∈ step S ↔ p ∈ S ∧ ∀ w ∈ p.wants, w.must = true → giversFor S p.name w ≠ [] := by
  unfold step
  rw [List.mem_filter, decide_eq_true_eq, lacks_nil]
theorem holds_stand (h : House) : Holds (stand h) := fun p hp => by
  have := stand_fix h
  rw [← this] at hp
  exact (mem_step.mp hp).2
theorem mem_givers {S : House} {n : Str} {w : Want} {q : Part} : q ∈ giversFor S n w ↔ q ∈ S ∧ q.name ≠ n ∧ gives q w = true := by
  unfold giversFor
  rw [List.mem_filter, Bool.and_eq_true]
  simp
theorem givers_mono {S T : House} (h : ∀ p ∈ S, p ∈ T) {n : Str} {w : Want} (hg : giversFor S n w ≠ []) : giversFor T n w ≠ [] := by
  obtain ⟨q, hq⟩ := List.exists_mem_of_ne_nil _ hg
  obtain ⟨h1, h2⟩ := mem_givers.mp hq
  exact List.ne_nil_of_mem (mem_givers.mpr ⟨h q h1, h2⟩)
theorem standN_greatest {S : House} (hS : Holds S) : ∀ (n : Nat) (ps : House), (∀ p ∈ S, p ∈ ps) → ∀ p ∈ S, p ∈ standN n ps
  | 0, _, h => h
  | n + 1, ps, h => by
    rw [standN]; split
    · exact standN_greatest hS n _ fun p hp => mem_step.mpr ⟨h p hp, fun w hw hm => givers_mono h (hS p hp w hw hm)⟩
    · exact h
/-- whatever holds stands -/
theorem stand_greatest {S h : House} (hS : Holds S) (hs : ∀ p ∈ S, p ∈ h) : ∀ p ∈ S, p ∈ stand h := standN_greatest hS _ _ hs
theorem stand_mem {h : House} {p : Part} (hp : p ∈ stand h) : p ∈ h := (stand_sub h).subset hp
/-- more parts: all that stood stand still -/
theorem stand_mono {g h : House} (hs : ∀ p ∈ g, p ∈ h) : ∀ p ∈ stand g, p ∈ stand h := stand_greatest (holds_stand g) fun p hp => hs p (stand_mem hp)
theorem stand_idem (h : House) : stand (stand h) = stand h := by
  have : ∀ n, standN n (stand h) = stand h := fun n => by
    cases n with
    | zero => rfl
    | succ n => rw [standN, if_neg (by rw [stand_fix]; omega)]
  exact this _
/-- sublists of a list without doubles, with the same members, are the same -/
theorem sub_filter {α : Type} [DecidableEq α] : ∀ {ys xs : List α}, ys.Nodup → xs.Sublist ys → xs = ys.filter fun a => decide (a ∈ xs)
  | [], xs, _, h => by rw [List.sublist_nil.mp h]; rfl
  | y :: ys, xs, nd, h => by
    rw [List.nodup_cons] at nd
    cases h with
    | cons _ h =>
      rw [List.filter_cons, if_neg (by simp only [decide_eq_true_eq]; exact fun z => nd.1 (h.subset z))]
      exact sub_filter nd.2 h
    | @cons_cons xs' _ _ h =>
      rw [List.filter_cons, if_pos (by simp)]
      have ih := sub_filter nd.2 h
      rw [List.cons.injEq]
      refine ⟨rfl, ih.trans ?_⟩
      refine List.filter_congr fun a ha => ?_
      have hne : a ≠ y := fun e => nd.1 (e ▸ ha)
      rw [decide_eq_decide, List.mem_cons]
      exact ⟨.inr, fun z => z.resolve_left hne⟩
theorem sub_eq {α : Type} [DecidableEq α] {xs ys zs : List α} (nd : zs.Nodup) (h1 : xs.Sublist zs) (h2 : ys.Sublist zs) (h : ∀ a, a ∈ xs ↔ a ∈ ys) : xs = ys := by
  rw [sub_filter nd h1, sub_filter nd h2]
  exact List.filter_congr fun a _ => decide_eq_decide.mpr (h a)
theorem nodup_of_names {h : House} (nd : (h.map (·.name)).Nodup) : h.Nodup := by
  rw [List.nodup_iff_pairwise_ne, List.pairwise_map] at nd
  exact nd.imp fun z e => z (by rw [e])
theorem WH.ndp {h : House} (w : WH h) : h.Nodup := nodup_of_names w.nd
theorem giverAmong_none' (ps : House) (n : Str) (w : Want) : giverAmong ps n w = none ↔ giversFor ps n w = [] := by
  unfold giverAmong
  cases h : giversFor ps n w with
  | nil => simp
  | cons b qs =>
    have := better_none w.face qs b
    simp only [List.foldl_cons, better, reduceCtorEq, iff_false]
    intro z
    cases q : qs.foldl (better w.face) (some b) with
    | none => exact this q
    | some _ => rw [q] at z; cases z
/-! ### the best of a list, by what it is -/
structure Best (f : Str) (qs : House) (r : Part) : Prop where
  mem : r ∈ qs
  best : ∀ q ∈ qs, makeOf q f < makeOf r f ∨ (makeOf q f = makeOf r f ∧ (q = r ∨ nlt r.name q.name = true))
theorem Best.uniq {f : Str} {qs : House} {r s : Part} (h : Best f qs r) (k : Best f qs s) : r = s := by
  rcases h.best s k.mem with a | ⟨a, a'⟩ <;> rcases k.best r h.mem with b | ⟨b, b'⟩
  · omega
  · omega
  · omega
  · rcases a' with a' | a'
    · exact a'.symm
    · rcases b' with b' | b'
      · exact b'
      · have := lt_asymm (d := .str r.name) (e := .str s.name) a'
        rw [show PySem.W.dataLt (.str s.name) (.str r.name) = true from b'] at this
        cases this
theorem best_of {f : Str} {qs : House} (hp : qs.Pairwise fun p q => nlt p.name q.name = true) {r : Part} (h : Best f qs r) : qs.foldl (better f) none = some r := by
  cases qs with
  | nil => cases h.mem
  | cons b qs =>
    obtain ⟨s, h1, h2, h3⟩ := better_best f qs b hp
    show qs.foldl (better f) (some b) = some r
    rw [h1, h.uniq ⟨h2, h3⟩]
theorem best_spec {f : Str} {qs : House} (hp : qs.Pairwise fun p q => nlt p.name q.name = true) {r : Part} (h : qs.foldl (better f) none = some r) : Best f qs r := by
  cases qs with
  | nil => cases h
  | cons b qs =>
    obtain ⟨s, h1, h2, h3⟩ := better_best f qs b hp
    have h' : qs.foldl (better f) (some b) = some r := h
    rw [h1] at h'
    cases h'
    exact ⟨h2, h3⟩
theorem givers_pw {S : House} (w : WH S) (n : Str) (x : Want) : (giversFor S n x).Pairwise fun p q => nlt p.name q.name = true := (List.pairwise_map.mp w.names).sublist List.filter_sublist
/-- the giver's part -/
theorem giverAmong_some {S : House} (w : WH S) {n : Str} {x : Want} {m : Str} : giverAmong S n x = some m ↔ ∃ r, Best x.face (giversFor S n x) r ∧ r.name = m := by
  unfold giverAmong
  constructor
  · intro h
    cases z : (giversFor S n x).foldl (better x.face) none with
    | none => rw [z] at h; cases h
    | some r => rw [z] at h; cases h; exact ⟨r, best_spec (givers_pw w n x) z, rfl⟩
  · rintro ⟨r, h1, h2⟩
    rw [best_of (givers_pw w n x) h1, ← h2]; rfl
/-- fewer givers, the best among them: the same giver -/
theorem giverAmong_less {S T : House} (wS : WH S) (wT : WH T) (h : ∀ p ∈ T, p ∈ S) {n : Str} {x : Want} {m : Str} (hg : giverAmong S n x = some m) (hm : ∀ r ∈ S, r.name = m → r ∈ T) : giverAmong T n x = some m := by
  obtain ⟨r, hr, e⟩ := (giverAmong_some wS).mp hg
  refine (giverAmong_some wT).mpr ⟨r, ⟨?_, fun q hq => ?_⟩, e⟩
  · obtain ⟨h1, h2⟩ := mem_givers.mp hr.mem
    exact mem_givers.mpr ⟨hm r h1 e, h2⟩
  · obtain ⟨h1, h2⟩ := mem_givers.mp hq
    exact hr.best q (mem_givers.mpr ⟨h q h1, h2⟩)
theorem giverAmong_nil {S T : House} (h : ∀ p ∈ T, p ∈ S) {n : Str} {x : Want} (hg : giverAmong S n x = none) : giverAmong T n x = none := by
  rw [giverAmong_none'] at hg ⊢
  cases q : giversFor T n x with
  | nil => rfl
  | cons b r => exact absurd hg (givers_mono h (by rw [q]; exact List.cons_ne_nil _ _))
/-! ### a part that gives to none, taken away -/
theorem mem_without {h : House} {n : Str} {p : Part} : p ∈ without h n ↔ p ∈ h ∧ p.name ≠ n := by unfold without; simp
theorem stand_without {h : House} (w : WH h) {n : Str} (hn : ∀ p ∈ stand h, ∀ x ∈ p.wants, giverAmong (stand h) p.name x ≠ some n) : stand (without h n) = without (stand h) n := by
  have hS : Holds (without (stand h) n) := fun p hp x hx hm => by
    obtain ⟨h1, h2⟩ := mem_without.mp hp
    have hne := holds_stand h p h1 x hx hm
    cases z : giverAmong (stand h) p.name x with
    | none => exact absurd ((giverAmong_none' _ _ _).mp z) hne
    | some m =>
      obtain ⟨q, k1, k2, k3, k4⟩ := giverAmong_in z
      refine List.ne_nil_of_mem (mem_givers.mpr ⟨mem_without.mpr ⟨k1, fun e => ?_⟩, k3, k4⟩)
      exact hn p h1 x hx (by rw [z, ← k2, e])
  refine sub_eq w.ndp ((stand_sub _).trans List.filter_sublist) (List.filter_sublist.trans (stand_sub h)) fun p => ⟨fun hp => ?_, fun hp => ?_⟩
  · exact mem_without.mpr ⟨stand_mono (fun q hq => (mem_without.mp hq).1) p hp, (mem_without.mp (stand_mem hp)).2⟩
  · exact stand_greatest hS (fun q hq => mem_without.mpr ⟨stand_mem (mem_without.mp hq).1, (mem_without.mp hq).2⟩) p hp
def bookWithout (b : Book) (n : Str) : Book := b.filter fun x => !decide (x.1 = n)
theorem book_without {h : House} (w : WH h) {n : Str} (hn : ∀ p ∈ stand h, ∀ x ∈ p.wants, giverAmong (stand h) p.name x ≠ some n) : giversBook (without h n) = bookWithout (giversBook h) n := by
  unfold giversBook bookWithout
  rw [stand_without w hn, List.filter_map]
  show (without (stand h) n).map _ = ((stand h).filter _).map _
  have e : (stand h).filter ((fun x : Str × List Str => !decide (x.1 = n)) ∘ fun p => (p.name, p.wants.filterMap (giverAmong (stand h) p.name))) = without (stand h) n := rfl
  rw [e]
  refine List.map_congr_left fun p hp => ?_
  obtain ⟨h1, h2⟩ := mem_without.mp hp
  congr 1
  have : ∀ ws : List Want, (∀ x ∈ ws, x ∈ p.wants) → ws.filterMap (giverAmong (without (stand h) n) p.name) = ws.filterMap (giverAmong (stand h) p.name) := fun ws => by
    induction ws with
    | nil => intro _; rfl
    | cons x ws ih =>
      intro hw
      rw [List.filterMap_cons, List.filterMap_cons, ih fun y hy => hw y (List.mem_cons_of_mem _ hy)]
      have hx := hw x List.mem_cons_self
      cases z : giverAmong (stand h) p.name x with
      | none => rw [giverAmong_nil (fun q hq => (mem_without.mp hq).1) z]
      | some m =>
        rw [giverAmong_less w.stand (w.stand.without n) (fun q hq => (mem_without.mp hq).1) z fun r hr e => mem_without.mpr ⟨hr, fun e2 => hn p h1 x hx (by rw [z, ← e, e2])⟩]
  exact this p.wants fun _ h => h
/-! ### the order without one on whom none leans -/
theorem ready_without {b : Book} {n : Str} (hn : ∀ x ∈ b, n ∉ x.2) (f : List Str) : ready (bookWithout b n) (f.filter fun m => !decide (m = n)) = (ready b f).filter fun m => !decide (m = n) := by
  unfold ready bookWithout
  rw [List.filter_filter, List.filter_map, List.filter_filter]
  congr 1
  refine List.filter_congr fun x hx => ?_
  have hx2 := hn x hx
  have e1 : (x.2.all fun y => decide (y ∈ f.filter fun m => !decide (m = n))) = x.2.all fun y => decide (y ∈ f) := by
    rw [Bool.eq_iff_iff, List.all_eq_true, List.all_eq_true]
    constructor
    · intro h y hy
      have := h y hy
      simp at this ⊢
      exact this.1
    · intro h y hy
      have := h y hy
      have hne : y ≠ n := fun e => hx2 (e ▸ hy)
      simp at this ⊢
      exact ⟨this, hne⟩
  rw [e1]
  by_cases h1 : x.1 = n
  · simp [h1]
  · simp [h1]
theorem oiter_without {b : Book} {n : Str} (hn : ∀ x ∈ b, n ∉ x.2) : ∀ (k : Nat) (f : List Str), ∃ m, oiter (bookWithout b n) m (f.filter fun m => !decide (m = n)) = (oiter b k f).filter fun m => !decide (m = n)
  | 0, f => ⟨0, rfl⟩
  | k + 1, f => by
    rw [oiter]
    obtain ⟨m, ih⟩ := oiter_without hn k (orderStep b f)
    have hr := ready_without hn f
    cases h : ready b f with
    | nil =>
      have e : orderStep b f = f := by unfold orderStep; rw [h]
      rw [e] at ih ⊢
      exact ⟨m, ih⟩
    | cons x r =>
      have e : orderStep b f = f ++ [x] := by unfold orderStep; rw [h]
      rw [e] at ih ⊢
      by_cases hx : x = n
      · refine ⟨m, ?_⟩
        rw [← ih, List.filter_append]
        simp [hx]
      · refine ⟨m + 1, ?_⟩
        rw [oiter]
        have e2 : orderStep (bookWithout b n) (f.filter fun m => !decide (m = n)) = (f ++ [x]).filter fun m => !decide (m = n) := by
          unfold orderStep
          rw [hr, h, List.filter_cons, if_pos (by simp [hx]), List.filter_append]
          simp [hx]
        rw [e2]; exact ih
theorem orderB_without {b : Book} {n : Str} (hn : ∀ x ∈ b, n ∉ x.2) : orderB (bookWithout b n) = (orderB b).filter fun m => !decide (m = n) := by
  obtain ⟨m, hm⟩ := oiter_without hn b.length []
  rw [← orderB_iter] at hm
  refine orderB_of (m := m) hm ?_
  have hr := ready_without hn (orderB b)
  have hb := orderB_fix b
  unfold orderStep
  rw [hr]
  have : ready b (orderB b) = [] := by
    cases h : ready b (orderB b) with
    | nil => rfl
    | cons x r =>
      unfold orderStep at hb
      rw [h] at hb
      have := congrArg List.length hb
      simp at this
  rw [this]; rfl
end PD

/-! PARTHOST, THE PLAIN PART 10: laws that look at many things; names of those that stand. -/
namespace PD
open PySem PySem.Spec PyProof.Rows L2
/-! ### laws by what the slots hold -/
theorem loop_chk {α : Type} (e : α → D) {t : D → Env → Option Env} {g : Env → Option Res} (Good : Env → Prop) (xs : List α) (h : ∀ x ∈ xs, ∀ env, Good env → ∃ env1, t (e x) env = some env1 ∧ ∃ env2, g env1 = some (.next env2) ∧ Good env2) :
    ∀ env, Good env → ∃ env', loopS t g (xs.map e) env = some (.next env') ∧ Good env' := fun env he => by
  obtain ⟨env', k1, k2⟩ := loopS_fold e (fun (_ : Unit) env => Good env) (fun _ _ => ()) xs (fun x hx _ env hg => by
    obtain ⟨env1, h1, env2, h2, h3⟩ := h x hx env hg
    exact ⟨env1, env2, h1, .inl h2, h3⟩) () env he
  exact ⟨env', k1, k2⟩
theorem for_chk {α : Type} (e : α → D) {f : Env → Option (List D)} {t : D → Env → Option Env} {g : Env → Option Res} (Good : Env → Prop) (xs : List α) {env : Env} (hf : f env = some (xs.map e)) (he : Good env)
    (h : ∀ x ∈ xs, ∀ env, Good env → ∃ env1, t (e x) env = some env1 ∧ ∃ env2, g env1 = some (.next env2) ∧ Good env2) : ∃ env', qFor f t g env = some (.next env') ∧ Good env' := by
  obtain ⟨env', k1, k2⟩ := loop_chk e Good xs h env he
  refine ⟨env', ?_, k2⟩
  show (f env).bind _ = _
  rw [hf]; exact k1
theorem qSeq_ex {g h : Env → Option Res} {env : Env} {r : Option Res} (Good : Env → Prop) (e : ∃ env', g env = some (.next env') ∧ Good env') (k : ∀ env', Good env' → h env' = r) : qSeq g h env = r := by
  obtain ⟨env', e1, e2⟩ := e
  exact qSeq_next e1 (k env' e2)
theorem qSeq_ex2 {g h : Env → Option Res} {env : Env} {Q : Env → Prop} (Good : Env → Prop) (e : ∃ env', g env = some (.next env') ∧ Good env') (k : ∀ env', Good env' → ∃ env2, h env' = some (.next env2) ∧ Q env2) : ∃ env2, qSeq g h env = some (.next env2) ∧ Q env2 := by
  obtain ⟨env', e1, e2⟩ := e
  obtain ⟨env2, k1, k2⟩ := k env' e2
  exact ⟨env2, qSeq_next e1 k1, k2⟩
/-! ### names -/
def sn (h : House) : List Str := (stand h).map (·.name)
theorem ev_standing_n (h : House) (hl : h.length < 100000) : m_standing [eH h] = some (.tuple ((sn h).map eS)) := by
  rw [ev_standing h hl]; unfold sn; rw [List.map_map]; rfl
theorem mem_sn {h : House} {n : Str} : n ∈ sn h ↔ ∃ p ∈ stand h, p.name = n := by unfold sn; exact List.mem_map
theorem mem_sn_part {h : House} (w : WH h) {p : Part} (hp : p ∈ h) : p.name ∈ sn h ↔ p ∈ stand h := by
  rw [mem_sn]
  constructor
  · rintro ⟨q, hq, e⟩
    have := name_inj w.nd (stand_mem hq) hp e
    exact this ▸ hq
  · exact fun h => ⟨p, h, rfl⟩
/-- those of the house whose names stand -/
theorem bare_eq {h : House} (w : WH h) : h.filter (fun p => decide (p.name ∈ sn h)) = stand h := by
  refine sub_eq w.ndp List.filter_sublist (stand_sub h) fun p => ?_
  rw [List.mem_filter, decide_eq_true_eq]
  exact ⟨fun ⟨h1, h2⟩ => (mem_sn_part w h1).mp h2, fun hp => ⟨stand_mem hp, (mem_sn_part w (stand_mem hp)).mpr hp⟩⟩
theorem sn_stand (h : House) : sn (stand h) = sn h := by unfold sn; rw [stand_idem]
theorem book_stand (h : House) : giversBook (stand h) = giversBook h := by unfold giversBook; rw [stand_idem]
theorem order_of_stand (h : House) : order (stand h) = order h := by unfold order; rw [book_stand]
theorem stuck_of_stand (h : House) : stuck (stand h) = stuck h := by unfold stuck; rw [book_stand, order_of_stand]
theorem leans_of_stand (h : House) (n : Str) : leans (stand h) n = leans h n := by unfold leans; rw [book_stand]
theorem lackPairs_stand (h : House) : lackPairs (stand h) = [] := by
  unfold lackPairs
  rw [stand_idem]
  exact List.flatMap_eq_nil_iff.mpr fun p hp => by unfold lackRow; rw [if_pos hp]
theorem lacking_of_stand (h : House) : lacking (stand h) = [] := by unfold lacking; rw [lackPairs_stand]; simp [sortT]
theorem partOf_stand {h : House} (w : WH h) {n : Str} (hn : n ∈ sn h) : partOf (stand h) n = partOf h n := by
  obtain ⟨p, hp, e⟩ := mem_sn.mp hn
  have h1 := partOf_mem w.nd (stand_mem hp)
  have h2 := partOf_mem w.stand.nd hp
  rw [← e, h1, h2]
theorem flatMap_congr' {α β : Type} {f g : α → List β} : ∀ {xs : List α}, (∀ x ∈ xs, f x = g x) → xs.flatMap f = xs.flatMap g
  | [], _ => rfl
  | x :: xs, h => by rw [List.flatMap_cons, List.flatMap_cons, h x List.mem_cons_self, flatMap_congr' fun y hy => h y (List.mem_cons_of_mem _ hy)]
theorem chain_of_stand {h : House} (w : WH h) (hook : Str) : chain (stand h) hook = chain h hook := by
  unfold chain chainRows
  rw [order_of_stand]
  congr 2
  refine flatMap_congr' fun x hx => ?_
  rw [partOf_stand w (order_stand (enumI_snd _ _ _ hx))]
theorem stand_no_must {h : House} {p : Part} (hp : p ∈ h) (hm : ∀ w ∈ p.wants, w.must = false) : p ∈ stand h := by
  refine stand_greatest (S := stand h ++ [p]) (fun q hq w hw hm' => ?_) (fun q hq => ?_) p (List.mem_append_right _ (List.mem_singleton_self p))
  · rcases List.mem_append.mp hq with hq | hq
    · exact givers_mono (fun r hr => List.mem_append_left _ hr) (holds_stand h q hq w hw hm')
    · rw [List.mem_singleton.mp hq] at hw
      rw [hm w hw] at hm'; cases hm'
  · rcases List.mem_append.mp hq with hq | hq
    · exact stand_mem hq
    · rw [List.mem_singleton.mp hq]; exact hp
theorem sn_pw {h : House} (w : WH h) : (sn h).Pairwise fun a b => nlt a b = true := w.stand.names
theorem order_sn {h : House} {x : Str} (hx : x ∈ order h) : x ∈ sn h := order_stand hx
/-- order and stuck are all that stand -/
theorem order_stuck {h : House} (w : WH h) : sortT eS (order h ++ stuck h) = sn h := by
  have hk : (giversBook h).map (·.1) = sn h := book_keys h
  have nd : (sn h).Nodup := (sn_pw w).imp fun h => nlt_ne h
  have hp : (order h ++ stuck h).Perm (sn h) := by
    refine (List.perm_ext_iff_of_nodup ?_ nd).mpr fun a => ?_
    · rw [List.nodup_append]
      refine ⟨orderB_nd _, ?_, fun a ha b hb e => ?_⟩
      · unfold stuck; rw [hk]; exact nd.sublist List.filter_sublist
      · unfold stuck at hb
        have := (List.mem_filter.mp hb).2
        simp at this
        exact this (e ▸ ha)
    · rw [List.mem_append]
      constructor
      · rintro (h1 | h1)
        · exact order_sn h1
        · unfold stuck at h1; rw [hk] at h1; exact (List.mem_filter.mp h1).1
      · intro h1
        by_cases h2 : a ∈ order h
        · exact .inl h2
        · refine .inr ?_
          unfold stuck
          rw [hk]
          exact List.mem_filter.mpr ⟨h1, by simpa using h2⟩
  rw [sortT_congr eS inj_eS hp, sortT_of eS (sn_pw w)]
theorem addH {h : House} (hl : h.length ≤ 1000) (p : Part) : addD (eH h) (.tuple [eP p]) = some (eH (h ++ [p])) := by
  show (if (h.map eP).length + 1 ≤ sizeLine then some (PyData.tuple (h.map eP ++ [eP p])) else none) = _
  rw [if_pos (by rw [List.length_map, sizeLine_eq]; omega)]
  unfold eH
  rw [List.map_append]; rfl
theorem neD_tupSS0 (xs : List (Str × Str)) : neD (.tuple (xs.map eSS)) (.tuple []) = some (.bool (!decide (xs = []))) :=
  neD_of (plain_tup eSS plain_eSS _) rfl (Nat.le_trans (depth_tup eSS 1 depth_eSS _) (by omega)) (eqv_tup eSS eqv_eSS xs [])
theorem notInT_SS (xs : List (Str × Str)) (a : Str × Str) : notInD (eSS a) (.tuple (xs.map eSS)) = some (.bool (!decide (a ∈ xs))) := (notInD_tup eSS eqv_eSS plain_eSS (fun a => Nat.le_trans (depth_eSS a) (by omega)) xs a).trans (by congr)
theorem ixSS0 (p : Str × Str) : ixD (eSS p) (.int 0) = some (.str p.1) := rfl
theorem neD_tupC (xs ys : List (Str × Int × Deed)) : neD (.tuple (xs.map eC)) (.tuple (ys.map eC)) = some (.bool (!decide (xs = ys))) :=
  neD_of (plain_tup eC plain_eC _) (plain_tup eC plain_eC _) (Nat.le_trans (depth_tup eC 2 depth_eC _) (by omega)) (eqv_tup eC eqv_eC xs ys)
theorem notInL_O (xs : List (Option Str)) (a : Str) : notInD (.str a) (.list (xs.map eO)) = some (.bool (!decide (some a ∈ xs))) := (notInD_lst eO eqv_eO plain_eO (fun a => Nat.le_trans (depth_eO a) (by omega)) xs (some a)).trans (by congr)
theorem ev_giver_at {h : House} (w : WH h) {p : Part} (hp : p ∈ h) {x : Want} (hx : x ∈ p.wants) : m_giver [eH h, .str p.name, .str x.face] = some (eO (giverAmong (stand h) p.name x)) :=
  ev_giver h w.lt p.name x.face p x [] [] (filter_name w.nd hp) (filter_face (w.parts p hp).wnd hx)
end PD

/-! PARTHOST, THE PLAIN PART 11: who begins, on whom one leans, who is lost. -/
namespace PD
open PySem PySem.Spec PyProof.Rows L2
/-- each has its row ahead -/
def Begun (b : Book) (f : List Str) : Prop := ∀ l y r, f = l ++ y :: r → ∀ row, look b y = some row → ∀ z ∈ row, z ∈ l
theorem begun_step {b : Book} (nd : (b.map (·.1)).Nodup) {f : List Str} (h : Begun b f) : Begun b (orderStep b f) := by
  rcases orderStep_or b f with e | ⟨x, hx, e⟩
  · rw [e]; exact h
  · rw [e]
    intro l y r hl row hr z hz
    rw [ready_left nd] at hx
    have hall := (List.mem_filter.mp hx).2
    rcases List.append_eq_append_iff.mp hl with ⟨t, h1, h2⟩ | ⟨t, h1, h2⟩
    · cases t with
      | nil =>
        rw [List.nil_append] at h2
        cases h2
        rw [List.append_nil] at h1
        rw [hr, Option.getD_some, List.all_eq_true] at hall
        rw [h1]
        simpa using hall z hz
      | cons a t =>
        rw [List.cons_append, List.cons.injEq] at h2
        have := congrArg List.length h2.2
        simp at this
    · cases t with
      | nil =>
        rw [List.nil_append] at h2
        cases h2
        rw [List.append_nil] at h1
        rw [hr, Option.getD_some, List.all_eq_true] at hall
        rw [← h1]
        simpa using hall z hz
      | cons a t =>
        rw [List.cons_append, List.cons.injEq] at h2
        exact h l y t (by rw [h1, h2.1]) row hr z hz
theorem begun_iter {b : Book} (nd : (b.map (·.1)).Nodup) : ∀ (n : Nat) {f : List Str}, Begun b f → Begun b (oiter b n f)
  | 0, _, h => h
  | n + 1, _, h => by rw [oiter]; exact begun_iter nd n (begun_step nd h)
theorem begun_order {b : Book} (nd : (b.map (·.1)).Nodup) : Begun b (orderB b) := by
  rw [orderB_iter]
  exact begun_iter nd _ fun l y r h => by
    have := congrArg List.length h
    simp at this
/-- whose row has begun begins -/
theorem order_full {b : Book} (nd : (b.map (·.1)).Nodup) {y : Str} {row : List Str} (hr : look b y = some row) (h : ∀ z ∈ row, z ∈ orderB b) : y ∈ orderB b := by
  refine Decidable.byContradiction fun hn => ?_
  have hb := orderB_fix b
  have hm : y ∈ ready b (orderB b) := by
    rw [ready_left nd]
    refine List.mem_filter.mpr ⟨?_, ?_⟩
    · unfold left
      exact List.mem_filter.mpr ⟨List.mem_map.mpr ⟨_, look_in hr, rfl⟩, by simpa using hn⟩
    · rw [hr, Option.getD_some, List.all_eq_true]
      intro z hz
      simpa using h z hz
  unfold orderStep at hb
  cases q : ready b (orderB b) with
  | nil => rw [q] at hm; cases hm
  | cons x r =>
    rw [q] at hb
    have := congrArg List.length hb
    simp at this
/-- the row of one that stands -/
theorem look_book {h : House} (w : WH h) {p : Part} (hp : p ∈ stand h) : look (giversBook h) p.name = some (p.wants.filterMap (giverAmong (stand h) p.name)) :=
  look_mem w.bok.nd (x := (p.name, p.wants.filterMap (giverAmong (stand h) p.name))) (List.mem_map.mpr ⟨p, hp, rfl⟩)
/-- names that are closed under giving, without n: they stand, are given, and begin without n as well -/
theorem keep_stand {h : House} (w : WH h) {n : Str} {R : Str → Prop} (hn : ¬ R n) (hc : ∀ p ∈ stand h, R p.name → ∀ x ∈ p.wants, ∀ m, giverAmong (stand h) p.name x = some m → R m) {p : Part} (hp : p ∈ stand h) (hR : R p.name) : p ∈ stand (without h n) := by
  classical
  refine stand_greatest (S := (stand h).filter fun q => decide (R q.name)) (fun q hq x hx hm => ?_) (fun q hq => ?_) p (List.mem_filter.mpr ⟨hp, decide_eq_true hR⟩)
  · obtain ⟨h1, h2⟩ := List.mem_filter.mp hq
    have h2 := of_decide_eq_true h2
    cases z : giverAmong (stand h) q.name x with
    | none => exact absurd ((giverAmong_none' _ _ _).mp z) (holds_stand h q h1 x hx hm)
    | some m =>
      obtain ⟨r, k1, k2, k3, k4⟩ := giverAmong_in z
      exact List.ne_nil_of_mem (mem_givers.mpr ⟨List.mem_filter.mpr ⟨k1, decide_eq_true (by rw [k2]; exact hc q h1 h2 x hx m z)⟩, k3, k4⟩)
  · obtain ⟨h1, h2⟩ := List.mem_filter.mp hq
    exact mem_without.mpr ⟨stand_mem h1, fun e => hn (e ▸ of_decide_eq_true h2)⟩
theorem keep_giver {h : House} (w : WH h) {n : Str} {R : Str → Prop} (hn : ¬ R n) (hc : ∀ p ∈ stand h, R p.name → ∀ x ∈ p.wants, ∀ m, giverAmong (stand h) p.name x = some m → R m) {p : Part} (hp : p ∈ stand h) (hR : R p.name) {x : Want} (hx : x ∈ p.wants) : giverAmong (stand (without h n)) p.name x = giverAmong (stand h) p.name x := by
  have hs : ∀ q ∈ stand (without h n), q ∈ stand h := stand_mono fun q hq => (mem_without.mp hq).1
  cases z : giverAmong (stand h) p.name x with
  | none => exact giverAmong_nil hs z
  | some m =>
    refine giverAmong_less w.stand (w.without n).stand hs z fun r hr e => ?_
    exact keep_stand w hn hc hr (by rw [e]; exact hc p hp hR x hx m z)
theorem keep_order {h : House} (w : WH h) {n : Str} {R : Str → Prop} (hn : ¬ R n) (hc : ∀ p ∈ stand h, R p.name → ∀ x ∈ p.wants, ∀ m, giverAmong (stand h) p.name x = some m → R m) : ∀ y ∈ order h, R y → y ∈ order (without h n) := by
  have key : ∀ (k : Nat) (l r : List Str), l.length = k → order h = l ++ r → ∀ y ∈ l, R y → y ∈ order (without h n) := by
    intro k
    induction k with
    | zero => intro l r hk _ y hy; rw [List.eq_nil_of_length_eq_zero hk] at hy; cases hy
    | succ k ihk =>
      intro l0 r hk he y hy hR
      rcases List.eq_nil_or_concat l0 with e0 | ⟨l, a, e0⟩
      · rw [e0] at hk; cases hk
      rw [List.concat_eq_append] at e0
      subst e0
      have hk' : l.length = k := by rw [List.length_append, List.length_singleton] at hk; omega
      have ih := fun (r : List Str) => ihk l r hk'
      rcases List.mem_append.mp hy with hy | hy
      · exact ih (a :: r) (by rw [he, List.append_assoc]; rfl) y hy hR
      · have ey := List.mem_singleton.mp hy
        subst ey
        have hyo : y ∈ order h := by rw [he]; exact List.mem_append_left _ (List.mem_append_right _ (List.mem_singleton_self y))
        obtain ⟨p, hp, e⟩ := mem_sn.mp (order_sn hyo)
        subst e
        have hp' := keep_stand w hn hc hp hR
        have h1 := look_book w hp
        have h2 := look_book (w.without n) hp'
        have e2 : p.wants.filterMap (giverAmong (stand (without h n)) p.name) = p.wants.filterMap (giverAmong (stand h) p.name) := by
          have : ∀ ws : List Want, (∀ x ∈ ws, x ∈ p.wants) → ws.filterMap (giverAmong (stand (without h n)) p.name) = ws.filterMap (giverAmong (stand h) p.name) := fun ws => by
            induction ws with
            | nil => intro _; rfl
            | cons x ws ih2 =>
              intro hw
              rw [List.filterMap_cons, List.filterMap_cons, ih2 fun y hy => hw y (List.mem_cons_of_mem _ hy), keep_giver w hn hc hp hR (hw x List.mem_cons_self)]
          exact this p.wants fun _ h => h
        rw [e2] at h2
        refine order_full (w.without n).bok.nd h2 fun z hz => ?_
        have hb := begun_order w.bok.nd l p.name r (by show order h = _; rw [he, List.append_assoc]; rfl) _ h1 z hz
        obtain ⟨x, hx, ex⟩ := List.mem_filterMap.mp hz
        exact ih (p.name :: r) (by rw [he, List.append_assoc]; rfl) z hb (hc p hp hR x hx z ex)
  intro y hy
  exact key _ (order h) [] rfl (by rw [List.append_nil]) y hy
/-- whom one leans on -/
theorem leans_iff {h : House} (w : WH h) {p : Part} (hp : p ∈ stand h) (x : Str) : x ∈ leans h p.name ↔ Reach (giversBook h) (p.wants.filterMap (giverAmong (stand h) p.name)) x :=
  (leans_spec w.bok w.closed (look_book w hp)).2 x
/-- who is lost leans on the one taken away -/
theorem lost_leans {h : House} (w : WH h) {n x : Str} (hx : x ∈ lost h n) : n ∈ leans h x := by
  unfold lost at hx
  rw [mem_sortT, List.mem_filter, Bool.and_eq_true] at hx
  obtain ⟨h1, h2, h3⟩ := hx
  have h2 : x ≠ n := by simpa using h2
  have h3 : x ∉ order (without h n) := by simpa using h3
  refine Decidable.byContradiction fun hnot => h3 ?_
  obtain ⟨p, hp, e⟩ := mem_sn.mp (order_sn h1)
  subst e
  refine keep_order w (n := n) (R := fun y => y = p.name ∨ y ∈ leans h p.name) (fun z => z.elim (fun e => h2 e.symm) hnot) (fun q hq hR v hv m hm => ?_) _ h1 (.inl rfl)
  right
  rw [leans_iff w hp]
  have hrow : m ∈ q.wants.filterMap (giverAmong (stand h) q.name) := List.mem_filterMap.mpr ⟨v, hv, hm⟩
  rcases hR with e | hR
  · have : q = p := name_inj w.stand.nd hq hp e
    rw [this] at hrow
    exact .base hrow
  · rw [leans_iff w hp] at hR
    exact .step hR (look_book w hq) hrow
theorem lost_order {h : House} {n x : Str} (hx : x ∈ lost h n) : x ∈ order h := by
  unfold lost at hx
  rw [mem_sortT] at hx
  exact (List.mem_filter.mp hx).1
end PD

/-! PARTHOST, THE PLAIN PART 12: chains, rank by rank. -/
namespace PD
open PySem PySem.Spec PyProof.Rows L2
/-- what rises and has the same things is the sorted list -/
theorem sortT_is {α : Type} (e : α → D) {xs ys : List α} (hp : ys.Perm xs) (hs : ys.Pairwise fun a b => PySem.W.dataLt (e a) (e b) = true) : sortT e xs = ys := by
  refine List.Perm.eq_of_pairwise (le := fun a b => (!PySem.W.dataLt (e b) (e a)) = true) (fun a b ha hb h1 h2 => ?_) (sortT_sorted e xs) (hs.imp fun h => by rw [lt_asymm h]; rfl) ((sortT_perm e xs).trans hp.symm)
  have ha' : a ∈ ys := hp.mem_iff.mpr ((mem_sortT e xs a).mp ha)
  have h3 := hs.imp (S := fun a b => PySem.W.dataLt (e a) (e b) = true ∨ PySem.W.dataLt (e b) (e a) = true) fun h => .inl h
  have h4 : ∀ x ∈ ys, ∀ y ∈ ys, x = y ∨ PySem.W.dataLt (e x) (e y) = true ∨ PySem.W.dataLt (e y) (e x) = true := fun x hx y hy => by
    have key : ∀ zs : List α, zs.Pairwise (fun a b => PySem.W.dataLt (e a) (e b) = true) → ∀ x ∈ zs, ∀ y ∈ zs, x = y ∨ PySem.W.dataLt (e x) (e y) = true ∨ PySem.W.dataLt (e y) (e x) = true := fun zs => by
      induction zs with
      | nil => intro _ x hx; cases hx
      | cons z zs ih =>
        intro hz x hx y hy
        rw [List.pairwise_cons] at hz
        rcases List.mem_cons.mp hx with ex | hx
        · rcases List.mem_cons.mp hy with ey | hy
          · exact .inl (by rw [ex, ey])
          · exact .inr (.inl (by rw [ex]; exact hz.1 y hy))
        · rcases List.mem_cons.mp hy with ey | hy
          · exact .inr (.inr (by rw [ey]; exact hz.1 x hx))
          · exact ih hz.2 x hx y hy
    exact key ys hs x hx y hy
  rcases h4 a ha' b hb with h | h | h
  · exact h
  · rw [h] at h2; cases h2
  · rw [h] at h1; cases h1
theorem lt_Q {a b : QRow} (h : a.rank < b.rank ∨ (a.rank = b.rank ∧ (a.place < b.place ∨ (a.place = b.place ∧ a.at_ < b.at_)))) : PySem.W.dataLt (eQ a) (eQ b) = true := by
  unfold eQ
  simp only [PySem.W.dataLt, PySem.W.keyToks, PySem.W.keyToksAll, List.cons_append, List.nil_append]
  rw [lex_self]
  rcases h with h | ⟨h, h'⟩
  · rw [lex_cons]; simp [PyProof.Rows.itemLt, h]
  · rw [h, lex_self, lex_self]
    rcases h' with h' | ⟨h', h''⟩
    · rw [lex_cons]; simp [PyProof.Rows.itemLt, h']
    · rw [h', lex_self, lex_self, lex_cons]; simp [PyProof.Rows.itemLt, h'']
def RANKS : List Int := (List.range 19).map fun (i : Nat) => (i : Int) - 9
theorem RANKS_pw : RANKS.Pairwise fun a b => a < b := by decide
theorem mem_RANKS {r : Int} (h : -9 ≤ r ∧ r ≤ 9) : r ∈ RANKS := List.mem_map.mpr ⟨(r + 9).toNat, List.mem_range.mpr (by omega), by omega⟩
def before (a b : QRow) : Prop := a.place < b.place ∨ (a.place = b.place ∧ a.at_ < b.at_)
/-- rows with rank by rank -/
def byRank (rows : List QRow) : List QRow := RANKS.flatMap fun r => rows.filter fun q => decide (q.rank = r)
theorem pw_flat {α β : Type} {R : β → β → Prop} (f : α → List β) (S : α → α → Prop) : ∀ (xs : List α), xs.Pairwise S → (∀ x ∈ xs, (f x).Pairwise R) → (∀ x ∈ xs, ∀ y ∈ xs, S x y → ∀ a ∈ f x, ∀ b ∈ f y, R a b) → (xs.flatMap f).Pairwise R
  | [], _, _, _ => .nil
  | x :: xs, hs, h1, h2 => by
    rw [List.flatMap_cons, List.pairwise_append]
    rw [List.pairwise_cons] at hs
    refine ⟨h1 x List.mem_cons_self, pw_flat f S xs hs.2 (fun y hy => h1 y (List.mem_cons_of_mem _ hy)) (fun y hy z hz => h2 y (List.mem_cons_of_mem _ hy) z (List.mem_cons_of_mem _ hz)), fun a ha b hb => ?_⟩
    obtain ⟨y, hy, hb⟩ := List.mem_flatMap.mp hb
    exact h2 x List.mem_cons_self y (List.mem_cons_of_mem _ hy) (hs.1 y hy) a ha b hb
theorem byRank_pw {rows : List QRow} (h : rows.Pairwise before) : (byRank rows).Pairwise fun a b => PySem.W.dataLt (eQ a) (eQ b) = true := by
  refine pw_flat _ (fun a b => a < b) RANKS RANKS_pw (fun r hr => ?_) fun r _ s _ hrs a ha b hb => ?_
  · have h2 : (rows.filter fun q => decide (q.rank = r)).Pairwise before := h.sublist List.filter_sublist
    refine List.Pairwise.imp_of_mem ?_ h2
    intro a b ha hb hab
    have e1 := (List.mem_filter.mp ha).2
    have e2 := (List.mem_filter.mp hb).2
    simp only [decide_eq_true_eq] at e1 e2
    exact lt_Q (.inr ⟨by rw [e1, e2], hab⟩)
  · have e1 := (List.mem_filter.mp ha).2
    have e2 := (List.mem_filter.mp hb).2
    simp only [decide_eq_true_eq] at e1 e2
    exact lt_Q (.inl (by rw [e1, e2]; exact hrs))
theorem perm_flat_filter : ∀ (rs : List Int) (rows : List QRow), rs.Pairwise (fun a b => a < b) → (rs.flatMap fun r => rows.filter fun q => decide (q.rank = r)).Perm (rows.filter fun q => decide (q.rank ∈ rs))
  | [], rows, _ => by simp
  | r :: rs, rows, h => by
    rw [List.flatMap_cons]
    rw [List.pairwise_cons] at h
    have ih := perm_flat_filter rs rows h.2
    have hne : r ∉ rs := fun z => Int.lt_irrefl _ (h.1 r z)
    refine ((List.Perm.refl _).append ih).trans ?_
    clear ih
    induction rows with
    | nil => simp
    | cons q rows ih =>
      rw [List.filter_cons, List.filter_cons, List.filter_cons]
      by_cases e : q.rank = r
      · rw [if_pos (by simpa using e), if_neg (by rw [e]; simpa using hne), if_pos (by simp [e])]
        exact ih.cons q
      · rw [if_neg (by simpa using e)]
        by_cases e2 : q.rank ∈ rs
        · rw [if_pos (by simpa using e2), if_pos (by simp [e2])]
          exact List.perm_middle.trans (ih.cons q)
        · rw [if_neg (by simpa using e2), if_neg (by simp [e, e2])]
          exact ih
theorem sort_rows {rows : List QRow} (h : rows.Pairwise before) (hr : ∀ q ∈ rows, -9 ≤ q.rank ∧ q.rank ≤ 9) : sortT eQ rows = byRank rows := by
  refine sortT_is eQ ?_ (byRank_pw h)
  refine (perm_flat_filter RANKS rows RANKS_pw).trans ?_
  rw [List.filter_eq_self.mpr fun q hq => by simpa using mem_RANKS (hr q hq)]
theorem enumI_lt {α : Type} : ∀ (xs : List α) (k : Int), (enumI k xs).Pairwise (fun a b => a.1 < b.1) ∧ ∀ x ∈ enumI k xs, k ≤ x.1
  | [], k => ⟨.nil, fun x h => by cases h⟩
  | x :: xs, k => by
    obtain ⟨h1, h2⟩ := enumI_lt xs (k + 1)
    refine ⟨?_, fun y hy => ?_⟩
    · rw [enumI, List.pairwise_cons]
      exact ⟨fun y hy => by have := h2 y hy; show k < y.1; omega, h1⟩
    · rw [enumI] at hy
      rcases List.mem_cons.mp hy with rfl | hy
      · exact Int.le_refl _
      · have := h2 y hy; omega
theorem rowsAt_spec {hook : Str} {place : Int} {n : Str} {ks : List Hook} {q : QRow} (hq : q ∈ rowsAt hook place n ks) : q.place = place ∧ q.name = n ∧ ∃ x ∈ enumI 0 ks, q.at_ = x.1 ∧ x.2.hook = hook ∧ q.rank = x.2.rank ∧ q.deed = x.2.deed := by
  unfold rowsAt at hq
  obtain ⟨x, hx, hq⟩ := List.mem_flatMap.mp hq
  split at hq
  · rename_i e
    rw [List.mem_singleton.mp hq]
    exact ⟨rfl, rfl, x, hx, rfl, e, rfl, rfl⟩
  · cases hq
theorem rowsAt_pw (hook : Str) (place : Int) (n : Str) (ks : List Hook) : (rowsAt hook place n ks).Pairwise before := by
  unfold rowsAt
  refine pw_flat _ (fun a b : Int × Hook => a.1 < b.1) _ (enumI_lt ks 0).1 (fun x hx => ?_) fun x _ y _ hxy a ha b hb => ?_
  · split
    · exact List.pairwise_singleton _ _
    · exact .nil
  · split at ha
    · split at hb
      · rw [List.mem_singleton.mp ha, List.mem_singleton.mp hb]
        exact .inr ⟨rfl, hxy⟩
      · cases hb
    · cases ha
theorem chainRows_pw (h : House) (hook : Str) : (chainRows h hook).Pairwise before := by
  unfold chainRows
  refine pw_flat _ (fun a b : Int × Str => a.1 < b.1) _ (enumI_lt (order h) 0).1 (fun x hx => ?_) fun x _ y _ hxy a ha b hb => ?_
  · cases partOf h x.2 with
    | none => exact .nil
    | some p => exact rowsAt_pw _ _ _ _
  · cases q : partOf h x.2 with
    | none => rw [q] at ha; cases ha
    | some p =>
      cases q' : partOf h y.2 with
      | none => rw [q'] at hb; cases hb
      | some p' =>
        rw [q] at ha
        rw [q'] at hb
        left
        rw [(rowsAt_spec ha).1, (rowsAt_spec hb).1]
        exact hxy
theorem chainRows_rank {h : House} (w : WH h) (hook : Str) : ∀ q ∈ chainRows h hook, -9 ≤ q.rank ∧ q.rank ≤ 9 := by
  intro q hq
  have : (q.name, q.rank, q.deed) ∈ chain h hook := by
    unfold chain
    exact List.mem_map.mpr ⟨q, (mem_sortT _ _ _).mpr hq, rfl⟩
  exact (chain_ok w hook _ this).2.1
theorem chain_ranks {h : House} (w : WH h) (hook : Str) : chain h hook = (byRank (chainRows h hook)).map fun q => (q.name, q.rank, q.deed) := by
  unfold chain
  rw [sort_rows (chainRows_pw h hook) (chainRows_rank w hook)]
end PD

/-! PARTHOST, THE PLAIN PART 13: one more part that wants nothing and gives nothing. -/
namespace PD
open PySem PySem.Spec PyProof.Rows L2
theorem gives_none {z : Part} (hf : z.faces = []) {x : Want} (hlo : 1 ≤ x.lo) : gives z x = false := by
  unfold gives makeOf
  rw [hf]
  simp [look]
  intro h
  omega
/-- h' is h and one more part z that wants nothing, and gives nothing -/
structure Ins (h h' : House) (z : Part) : Prop where
  w : WH h'
  mem : z ∈ h'
  wants : z.wants = []
  gives : ∀ p ∈ h', ∀ x ∈ p.wants, gives z x = false
  less : without h' z.name = h
theorem Ins.giver {h h' : House} {z : Part} (i : Ins h h' z) : ∀ p ∈ stand h', ∀ x ∈ p.wants, giverAmong (stand h') p.name x ≠ some z.name := fun p hp x hx e => by
  obtain ⟨q, hq, hn, _, hg⟩ := giverAmong_in e
  have : q = z := name_inj i.w.nd (stand_mem hq) i.mem hn
  rw [this, i.gives p (stand_mem hp) x hx] at hg
  cases hg
theorem Ins.wh {h h' : House} {z : Part} (i : Ins h h' z) : WH h := i.less ▸ i.w.without z.name
theorem Ins.stand {h h' : House} {z : Part} (i : Ins h h' z) : PD.stand h = without (PD.stand h') z.name := by
  rw [← i.less]; exact stand_without i.w i.giver
theorem Ins.stands {h h' : House} {z : Part} (i : Ins h h' z) : z ∈ PD.stand h' := stand_no_must i.mem (by rw [i.wants]; intro w h; cases h)
theorem Ins.book {h h' : House} {z : Part} (i : Ins h h' z) : giversBook h = bookWithout (giversBook h') z.name := by
  rw [← i.less]; exact book_without i.w i.giver
theorem Ins.norow {h h' : House} {z : Part} (i : Ins h h' z) : ∀ x ∈ giversBook h', z.name ∉ x.2 := fun x hx hz => by
  unfold giversBook at hx
  obtain ⟨p, hp, rfl⟩ := List.mem_map.mp hx
  obtain ⟨y, hy, e⟩ := List.mem_filterMap.mp hz
  exact i.giver p hp y hy e
theorem Ins.order {h h' : House} {z : Part} (i : Ins h h' z) : PD.order h = (PD.order h').filter fun m => !decide (m = z.name) := by
  unfold PD.order
  rw [i.book, orderB_without i.norow]
theorem Ins.begins {h h' : House} {z : Part} (i : Ins h h' z) : z.name ∈ PD.order h' := by
  have hl := look_book i.w i.stands
  rw [i.wants] at hl
  exact order_full (by rw [book_keys]; exact i.w.stand.nd) hl (fun x h => by cases h)
theorem Ins.stuck {h h' : House} {z : Part} (i : Ins h h' z) : PD.stuck h' = PD.stuck h := by
  have hb := i.begins
  unfold PD.stuck
  rw [i.order, i.book]
  unfold bookWithout
  have e : ((giversBook h').filter fun x => !decide (x.1 = z.name)).map (·.1) = ((giversBook h').map (·.1)).filter fun m => !decide (m = z.name) := by rw [List.filter_map]; rfl
  rw [e, List.filter_filter]
  refine List.filter_congr fun n hn => ?_
  by_cases e : n = z.name
  · subst e; simp [hb]
  · simp [e]
/-! ### last of all -/
theorem ready_snoc (b : Book) (n : Str) (f : List Str) (hn : n ∉ f) : ready (b ++ [(n, [])]) f = ready b f ++ [n] := by
  unfold ready
  rw [List.filter_append, List.map_append]
  simp [hn]
theorem ready_snoc' (b : Book) (n : Str) (f : List Str) (hb : ∀ x ∈ b, n ∉ x.2) : ready (b ++ [(n, [])]) (f ++ [n]) = (ready b f).filter fun m => !decide (m = n) := by
  unfold ready
  rw [List.filter_append, List.map_append, List.filter_map, List.filter_filter]
  have e : ((List.filter (fun x => !decide (x.1 ∈ f ++ [n]) && x.2.all fun y => decide (y ∈ f ++ [n])) [(n, ([] : List Str))]).map Prod.fst) = [] := by simp
  rw [e, List.append_nil]
  congr 1
  refine List.filter_congr fun x hx => ?_
  have h1 : (x.2.all fun y => decide (y ∈ f ++ [n])) = x.2.all fun y => decide (y ∈ f) := by
    rw [Bool.eq_iff_iff, List.all_eq_true, List.all_eq_true]
    refine ⟨fun h y hy => ?_, fun h y hy => ?_⟩
    · have := h y hy
      rw [decide_eq_true_eq] at this ⊢
      rcases List.mem_append.mp this with h' | h'
      · exact h'
      · exact absurd (List.mem_singleton.mp h' ▸ hy) (hb x hx)
    · have := h y hy
      rw [decide_eq_true_eq] at this ⊢
      exact List.mem_append_left _ this
  show (_ && _) = _
  rw [h1]
  by_cases e1 : x.1 = n <;> by_cases e2 : x.1 ∈ f <;> simp [e1, e2]
theorem oiter_snoc {b : Book} {n : Str} (hn : n ∉ b.map (·.1)) : ∀ (k : Nat) (f : List Str), n ∉ f → (∃ m, oiter (b ++ [(n, [])]) m f = oiter b k f) ∧ n ∉ oiter b k f
  | 0, f, hf => ⟨⟨0, rfl⟩, hf⟩
  | k + 1, f, hf => by
    rw [oiter]
    cases h : ready b f with
    | nil =>
      have e : orderStep b f = f := by unfold orderStep; rw [h]
      rw [e]; exact oiter_snoc hn k f hf
    | cons x r =>
      have e : orderStep b f = f ++ [x] := by unfold orderStep; rw [h]
      have e' : orderStep (b ++ [(n, [])]) f = f ++ [x] := by unfold orderStep; rw [ready_snoc _ _ _ hf, h]; rfl
      have hx := (ready_mem (b := b) (f := f) (x := x) (by rw [h]; exact List.mem_cons_self)).1
      have hf' : n ∉ f ++ [x] := fun z => by
        rcases List.mem_append.mp z with z | z
        · exact hf z
        · exact hn (List.mem_singleton.mp z ▸ hx)
      obtain ⟨⟨m, h1⟩, h2⟩ := oiter_snoc hn k (f ++ [x]) hf'
      rw [e]
      exact ⟨⟨m + 1, by rw [oiter, e', h1]⟩, h2⟩
theorem orderB_snoc {b : Book} {n : Str} (hn : n ∉ b.map (·.1)) (hb : ∀ x ∈ b, n ∉ x.2) : orderB (b ++ [(n, [])]) = orderB b ++ [n] := by
  obtain ⟨⟨m, h1⟩, h2⟩ := oiter_snoc hn b.length [] (by simp)
  rw [← orderB_iter] at h1 h2
  have hr : ready b (orderB b) = [] := by
    have := orderB_fix b
    unfold orderStep at this
    cases h : ready b (orderB b) with
    | nil => rfl
    | cons x r =>
      rw [h] at this
      exact absurd this (by simp)
  refine orderB_of (m := m + 1) ?_ ?_
  · rw [oiter_add, h1]
    show orderStep _ _ = _
    unfold orderStep
    rw [ready_snoc _ _ _ h2, hr]; rfl
  · unfold orderStep
    rw [ready_snoc' _ _ _ hb, hr]; rfl
theorem Ins.stand_last {h : House} {z : Part} (i : Ins h (h ++ [z]) z) : PD.stand (h ++ [z]) = PD.stand h ++ [z] := by
  have e := i.stand
  have hz := i.stands
  obtain ⟨l1, l2, e1, s1, s2⟩ := List.sublist_append_iff.mp (stand_sub (h ++ [z]))
  have hn : ∀ p ∈ h, p.name ≠ z.name := fun p hp hn => by
    have := i.w.nd
    rw [List.map_append, List.nodup_append] at this
    exact this.2.2 p.name (List.mem_map.mpr ⟨p, hp, rfl⟩) z.name (by simp) hn
  have h2 : l2 = [z] := by
    cases l2 with
    | nil =>
      rw [e1, List.append_nil] at hz
      exact absurd rfl (hn z (s1.subset hz))
    | cons a l2 =>
      have h1 := s2.length_le
      have h2 := s2.subset (List.mem_cons_self (a := a) (l := l2))
      rw [List.length_cons, List.length_singleton] at h1
      have h3 : l2 = [] := List.eq_nil_of_length_eq_zero (by omega)
      rw [h3, List.mem_singleton.mp h2]
  rw [e, e1, h2]
  congr 1
  unfold without
  rw [List.filter_append]
  have : l1.filter (fun p => !decide (p.name = z.name)) = l1 := List.filter_eq_self.mpr fun p hp => by simpa using hn p (s1.subset hp)
  rw [this]
  simp
theorem Ins.book_last {h : House} {z : Part} (i : Ins h (h ++ [z]) z) : giversBook (h ++ [z]) = giversBook h ++ [(z.name, [])] := by
  unfold giversBook
  rw [i.stand_last, List.map_append]
  congr 1
  · refine List.map_congr_left fun p hp => ?_
    congr 1
    have hps : p ∈ PD.stand (h ++ [z]) := by rw [i.stand_last]; exact List.mem_append_left _ hp
    have : ∀ x ∈ p.wants, giverAmong (PD.stand h ++ [z]) p.name x = giverAmong (PD.stand h) p.name x := fun x hx => by
      unfold giverAmong giversFor
      rw [List.filter_append]
      have := i.gives p (stand_mem hps) x hx
      simp [this]
    clear hps hp
    generalize p.wants = ws at this
    induction ws with
    | nil => rfl
    | cons x ws ih =>
      rw [List.filterMap_cons, List.filterMap_cons, this x List.mem_cons_self, ih fun y hy => this y (List.mem_cons_of_mem _ hy)]
  · simp [i.wants]
theorem Ins.order_last {h : House} {z : Part} (i : Ins h (h ++ [z]) z) : PD.order (h ++ [z]) = PD.order h ++ [z.name] := by
  unfold PD.order
  rw [i.book_last]
  have hk : (giversBook (h ++ [z])).map (·.1) = _ := congrArg (List.map (·.1)) i.book_last
  have hnd : ((giversBook (h ++ [z])).map (·.1)).Nodup := by rw [book_keys]; exact i.w.stand.nd
  refine orderB_snoc (fun hz => ?_) fun x hx => i.norow x (by rw [i.book_last]; exact List.mem_append_left _ hx)
  rw [hk, List.map_append, List.nodup_append] at hnd
  exact hnd.2.2 _ hz z.name (by simp) rfl
/-! ### chains of it -/
theorem enumI_app {α : Type} : ∀ (xs ys : List α) (k : Int), enumI k (xs ++ ys) = enumI k xs ++ enumI (k + xs.length) ys
  | [], ys, k => by simp [enumI]
  | x :: xs, ys, k => by
    rw [List.cons_append, enumI, enumI, enumI_app xs ys (k + 1), List.length_cons, List.cons_append]
    congr 3
    omega
theorem Ins.rows_last {h : House} {z : Part} (i : Ins h (h ++ [z]) z) (hook : Str) : chainRows (h ++ [z]) hook = chainRows h hook ++ rowsAt hook (PD.order h).length z.name z.hooks := by
  have hn : ∀ p ∈ h, p.name ≠ z.name := fun p hp hn => by
    have := i.w.nd
    rw [List.map_append, List.nodup_append] at this
    exact this.2.2 p.name (List.mem_map.mpr ⟨p, hp, rfl⟩) z.name (by simp) hn
  unfold chainRows
  rw [i.order_last, enumI_app, List.flatMap_append]
  congr 1
  · refine flatMap_congr' fun x hx => ?_
    have hx' := enumI_snd _ _ _ hx
    obtain ⟨p, hp, e⟩ := mem_sn.mp (order_sn hx')
    have h1 := partOf_mem i.w.nd (List.mem_append_left [z] (stand_mem hp))
    have h2 := partOf_mem i.wh.nd (stand_mem hp)
    rw [← e, h1, h2]
  · have h1 := partOf_mem i.w.nd i.mem
    simp only [enumI, List.flatMap_cons, List.flatMap_nil, List.append_nil]
    rw [h1, Int.zero_add]
theorem byRank_flat (rs : List Int) (rows : List QRow) (q : QRow) (h : q.rank ∉ rs) : (rs.flatMap fun r => (rows ++ [q]).filter fun q => decide (q.rank = r)) = rs.flatMap fun r => rows.filter fun q => decide (q.rank = r) :=
  flatMap_congr' fun r hr => by
    rw [List.filter_append]
    have : q.rank ≠ r := fun e => h (e ▸ hr)
    simp [this]
theorem byRank_high {rows : List QRow} {q : QRow} (hq : q.rank = 9) : byRank (rows ++ [q]) = byRank rows ++ [q] := by
  have e : RANKS = ((List.range 18).map fun (i : Nat) => (i : Int) - 9) ++ [9] := by decide
  unfold byRank
  rw [e, List.flatMap_append, List.flatMap_append, byRank_flat _ _ _ (by rw [hq]; decide)]
  simp [hq]
theorem byRank_low {rows : List QRow} {q : QRow} (hq : q.rank = -9) (hn : ∀ r ∈ rows, r.rank ≠ -9) : byRank (rows ++ [q]) = q :: byRank rows := by
  have e : RANKS = [-9] ++ ((List.range 18).map fun (i : Nat) => (i : Int) - 8) := by decide
  have h0 : rows.filter (fun q => decide (q.rank = -9)) = [] := List.filter_eq_nil_iff.mpr fun r hr => by simpa using hn r hr
  unfold byRank
  rw [e, List.flatMap_append, List.flatMap_append, byRank_flat ((List.range 18).map fun (i : Nat) => (i : Int) - 8) _ _ (by rw [hq]; decide)]
  simp [hq, h0]
theorem byRank_mem {rows : List QRow} {q : QRow} (h : q ∈ byRank rows) : q ∈ rows := by
  unfold byRank at h
  obtain ⟨r, _, h⟩ := List.mem_flatMap.mp h
  exact (List.mem_filter.mp h).1
theorem mem_byRank {rows : List QRow} {q : QRow} (h : q ∈ rows) (hr : -9 ≤ q.rank ∧ q.rank ≤ 9) : q ∈ byRank rows :=
  List.mem_flatMap.mpr ⟨q.rank, mem_RANKS hr, List.mem_filter.mpr ⟨h, by simp⟩⟩
/-- the chain with one more, of rank above all -/
theorem Ins.chain_high {h : House} {z : Part} (i : Ins h (h ++ [z]) z) {hook : Str} {d : Deed} (hk : z.hooks = [⟨hook, 9, d⟩]) : chain (h ++ [z]) hook = chain h hook ++ [(z.name, 9, d)] := by
  rw [chain_ranks i.w, chain_ranks i.wh, i.rows_last, hk]
  have e : rowsAt hook (PD.order h).length z.name [⟨hook, 9, d⟩] = [⟨9, (PD.order h).length, 0, z.name, d⟩] := by simp [rowsAt, enumI]
  rw [e, byRank_high rfl, List.map_append]; rfl
theorem Ins.chain_low {h : House} {z : Part} (i : Ins h (h ++ [z]) z) {hook : Str} {d : Deed} (hk : z.hooks = [⟨hook, -9, d⟩]) (hn : ∀ q ∈ chain h hook, q.2.1 ≠ -9) : chain (h ++ [z]) hook = (z.name, -9, d) :: chain h hook := by
  have hn' : ∀ r ∈ chainRows h hook, r.rank ≠ -9 := fun r hr e => by
    refine hn (r.name, r.rank, r.deed) ?_ e
    rw [chain_ranks i.wh]
    exact List.mem_map.mpr ⟨r, mem_byRank hr (chainRows_rank i.wh hook r hr), rfl⟩
  rw [chain_ranks i.w, chain_ranks i.wh, i.rows_last, hk]
  have e : rowsAt hook (PD.order h).length z.name [⟨hook, -9, d⟩] = [⟨-9, (PD.order h).length, 0, z.name, d⟩] := by simp [rowsAt, enumI]
  rw [e, byRank_low rfl hn', List.map_cons]
/-! ### what a part has in the chain -/
def mineOf (h : House) (hook : Str) (p : Part) : List Hook := p.hooks.filter fun k => decide (k.hook = hook) && decide (p.name ∈ order h)
def dueOf (n : Str) (ks : List Hook) (rs : List Int) : List (Str × Int × Deed) := rs.flatMap fun r => (ks.filter fun k => decide (k.rank = r)).map fun k => (n, r, k.deed)
theorem rowsAt_rank (hook : Str) (place : Int) (n : Str) (r : Int) : ∀ (ks : List Hook) (k : Int), (((enumI k ks).flatMap fun x => if x.2.hook = hook then [(⟨x.2.rank, place, x.1, n, x.2.deed⟩ : QRow)] else []).filter fun q => decide (q.rank = r)).map (fun q => (q.name, q.rank, q.deed)) =
    ((ks.filter fun k => decide (k.hook = hook)).filter fun k => decide (k.rank = r)).map fun k => (n, r, k.deed)
  | [], _ => rfl
  | x :: ks, k => by
    have ih := rowsAt_rank hook place n r ks (k + 1)
    rw [enumI, List.flatMap_cons, List.filter_append, List.map_append, ih, List.filter_cons]
    by_cases h1 : x.hook = hook <;> by_cases h2 : x.rank = r <;> simp [h1, h2]
theorem flat_one {g : Int × Str → List QRow} (hg : ∀ x, ∀ q ∈ g x, q.name = x.2) (n : Str) : ∀ (xs : List Str) (k : Int), xs.Nodup → (n ∉ xs → ((enumI k xs).flatMap g).filter (fun q => decide (q.name = n)) = []) ∧ (n ∈ xs → ∃ i, ((enumI k xs).flatMap g).filter (fun q => decide (q.name = n)) = g (i, n))
  | [], k, _ => ⟨fun _ => rfl, fun h => by cases h⟩
  | x :: xs, k, nd => by
    rw [List.nodup_cons] at nd
    obtain ⟨i1, i2⟩ := flat_one hg n xs (k + 1) nd.2
    rw [enumI, List.flatMap_cons, List.filter_append]
    by_cases e : x = n
    · have h1 : (g (k, x)).filter (fun q => decide (q.name = n)) = g (k, x) := List.filter_eq_self.mpr fun q hq => by rw [hg _ q hq]; simpa using e
      rw [h1, i1 (e ▸ nd.1), List.append_nil]
      exact ⟨fun h => absurd (e ▸ List.mem_cons_self) h, fun _ => ⟨k, by rw [e]⟩⟩
    · have h1 : (g (k, x)).filter (fun q => decide (q.name = n)) = [] := List.filter_eq_nil_iff.mpr fun q hq => by rw [hg _ q hq]; simpa using e
      rw [h1, List.nil_append]
      refine ⟨fun h => i1 fun z => h (List.mem_cons_of_mem _ z), fun h => i2 ?_⟩
      rcases List.mem_cons.mp h with h | h
      · exact absurd h.symm e
      · exact h
def rowG (h : House) (hook : Str) (x : Int × Str) : List QRow := match partOf h x.2 with
  | some p => rowsAt hook x.1 x.2 p.hooks
  | none => []
theorem chainRows_G (h : House) (hook : Str) : chainRows h hook = (enumI 0 (order h)).flatMap (rowG h hook) := rfl
theorem chain_part {h : House} (w : WH h) (hook : Str) {p : Part} (hp : p ∈ h) : (chain h hook).filter (fun q => decide (q.1 = p.name)) = dueOf p.name (mineOf h hook p) RANKS := by
  rw [chain_ranks w, List.filter_map]
  unfold byRank dueOf
  rw [List.filter_flatMap, List.map_flatMap]
  refine flatMap_congr' fun r _ => ?_
  rw [List.filter_filter]
  have e : ∀ rows : List QRow, (rows.filter fun a => ((fun q : Str × Int × Deed => decide (q.1 = p.name)) ∘ fun q : QRow => (q.name, q.rank, q.deed)) a && decide (a.rank = r)) = (rows.filter fun q => decide (q.name = p.name)).filter fun q => decide (q.rank = r) := fun rows => by
    rw [List.filter_filter]
    refine List.filter_congr fun a _ => ?_
    show (_ && _) = (_ && _)
    rw [Bool.and_comm]; rfl
  rw [e]
  have hg : ∀ x : Int × Str, ∀ q ∈ rowG h hook x, q.name = x.2 := fun x q hq => by
    unfold rowG at hq
    cases hh : partOf h x.2 with
    | none => rw [hh] at hq; cases hq
    | some p => rw [hh] at hq; exact (rowsAt_spec hq).2.1
  obtain ⟨i1, i2⟩ := flat_one hg p.name (order h) 0 (orderB_nd _)
  unfold mineOf
  rw [chainRows_G]
  by_cases c : p.name ∈ order h
  · obtain ⟨i, hi⟩ := i2 c
    rw [hi]
    unfold rowG
    dsimp only
    rw [partOf_mem w.nd hp]
    have := rowsAt_rank hook i p.name r p.hooks 0
    simp only [c, decide_true, Bool.and_true]
    exact this
  · rw [i1 c]
    simp [c]
theorem sum_names {α : Type} (f : α → Str) : ∀ (ns : List Str) (xs : List α), ns.Nodup → (∀ x ∈ xs, f x ∈ ns) → (ns.map fun n => (xs.filter fun x => decide (f x = n)).length).sum = xs.length
  | [], xs, _, h => by
    cases xs with
    | nil => rfl
    | cons x xs => exact absurd (h x List.mem_cons_self) (by simp)
  | n :: ns, xs, nd, h => by
    rw [List.nodup_cons] at nd
    rw [List.map_cons, List.sum_cons]
    have ih := sum_names f ns (xs.filter fun x => !decide (f x = n)) nd.2 fun x hx => by
      obtain ⟨h1, h2⟩ := List.mem_filter.mp hx
      rcases List.mem_cons.mp (h x h1) with e | e
      · simp [e] at h2
      · exact e
    have e1 : (ns.map fun m => ((xs.filter fun x => !decide (f x = n)).filter fun x => decide (f x = m)).length) = ns.map fun m => (xs.filter fun x => decide (f x = m)).length := by
      refine List.map_congr_left fun m hm => ?_
      rw [List.filter_filter]
      congr 1
      refine List.filter_congr fun x _ => ?_
      by_cases e : f x = m
      · have : f x ≠ n := fun z => nd.1 (z ▸ e ▸ hm)
        simp [e]
        exact fun z => this (e.trans z)
      · simp [e]
    rw [e1] at ih
    rw [ih]
    clear e1 ih h
    induction xs with
    | nil => rfl
    | cons x xs ih =>
      by_cases e : f x = n
      · rw [List.filter_cons_of_pos (by simpa using e), List.filter_cons_of_neg (by simpa using e), List.length_cons, List.length_cons]; omega
      · rw [List.filter_cons_of_neg (by simpa using e), List.filter_cons_of_pos (by simpa using e), List.length_cons, List.length_cons]; omega
theorem chain_rise {h : House} (w : WH h) (hook : Str) : (chain h hook).Pairwise fun a b => a.2.1 ≤ b.2.1 := by
  rw [chain_ranks w, List.pairwise_map]
  unfold byRank
  refine pw_flat _ (fun a b => a < b) RANKS RANKS_pw (fun r _ => ?_) fun r _ s _ hrs a ha b hb => ?_
  · have : ∀ q ∈ (chainRows h hook).filter (fun q => decide (q.rank = r)), q.rank = r := fun q hq => by simpa using (List.mem_filter.mp hq).2
    generalize (chainRows h hook).filter (fun q => decide (q.rank = r)) = xs at this
    rw [List.pairwise_iff_forall_sublist]
    intro a b s
    have h1 := this a (s.subset (by simp))
    have h2 := this b (s.subset (by simp))
    show a.rank ≤ b.rank
    omega
  · have e1 := (List.mem_filter.mp ha).2
    have e2 := (List.mem_filter.mp hb).2
    simp only [decide_eq_true_eq] at e1 e2
    show a.rank ≤ b.rank
    omega
theorem flat_len {α β : Type} (f : α → List β) (c : Nat) : ∀ xs : List α, (∀ x ∈ xs, (f x).length ≤ c) → (xs.flatMap f).length ≤ c * xs.length
  | [], _ => by simp
  | x :: xs, h => by
    rw [List.flatMap_cons, List.length_append, List.length_cons, Nat.mul_succ]
    have := h x List.mem_cons_self
    have := flat_len f c xs fun y hy => h y (List.mem_cons_of_mem _ hy)
    omega
theorem order_len {h : House} (w : WH h) : (order h).length ≤ 100 := by
  have := nodup_len (order h) _ (orderB_nd _) (fun x hx => order_stand hx)
  rw [List.length_map] at this
  exact Nat.le_trans this w.stand.len
theorem chain_len {h : House} (w : WH h) (hook : Str) : (chain h hook).length ≤ 10000 := by
  unfold chain
  rw [List.length_map, (sortT_perm eQ _).length_eq]
  rw [chainRows_G]
  have := flat_len (rowG h hook) 100 (enumI 0 (order h)) fun x hx => by
    unfold rowG
    cases hh : partOf h x.2 with
    | none => simp
    | some p =>
      have := rowsAt_len hook x.1 x.2 p.hooks
      have := (w.parts p (List.mem_of_find?_eq_some hh)).klen
      show (rowsAt hook x.1 x.2 p.hooks).length ≤ 100
      omega
  rw [enumI_len] at this
  have := order_len w
  omega
theorem rise_at {xs : List (Str × Int × Deed)} (h : xs.Pairwise fun a b => a.2.1 ≤ b.2.1) {i : Nat} (h1 : 1 ≤ i) (h2 : i < xs.length) : ∃ a b, xs[i]? = some a ∧ xs[i - 1]? = some b ∧ b.2.1 ≤ a.2.1 := by
  refine ⟨xs[i], xs[i - 1], List.getElem?_eq_getElem h2, List.getElem?_eq_getElem (by omega), ?_⟩
  exact List.pairwise_iff_getElem.mp h (i - 1) i (by omega) h2 (by omega)
end PD

/-! PARTHOST, THE PLAIN PART 14: some parts of a house that are closed under giving; those that began, by themselves; the last one. -/
namespace PD
open PySem PySem.Spec PyProof.Rows L2
theorem filterMap_congr' {α β : Type} {f g : α → Option β} : ∀ {xs : List α}, (∀ x ∈ xs, f x = g x) → xs.filterMap f = xs.filterMap g
  | [], _ => rfl
  | x :: xs, h => by
    rw [List.filterMap_cons, List.filterMap_cons, h x List.mem_cons_self, filterMap_congr' fun y hy => h y (List.mem_cons_of_mem _ hy)]
/-- names of parts that stand, closed under giving -/
structure ClosedS (h : House) (C : Str → Bool) : Prop where
  w : WH h
  st : ∀ p ∈ h, C p.name = true → p ∈ stand h
  cl : ∀ p ∈ stand h, C p.name = true → ∀ x ∈ p.wants, ∀ m, giverAmong (stand h) p.name x = some m → C m = true
def only (h : House) (C : Str → Bool) : House := h.filter fun p => C p.name
theorem mem_only {h : House} {C : Str → Bool} {p : Part} : p ∈ only h C ↔ p ∈ h ∧ C p.name = true := List.mem_filter
section
variable {h : House} {C : Str → Bool}
theorem ClosedS.wh (c : ClosedS h C) : WH (only h C) := c.w.sub List.filter_sublist
theorem ClosedS.holds (c : ClosedS h C) : Holds (only h C) := fun p hp x hx hm => by
  obtain ⟨h1, h2⟩ := mem_only.mp hp
  have h1 := c.st p h1 h2
  cases z : giverAmong (stand h) p.name x with
  | none => exact absurd ((giverAmong_none' _ _ _).mp z) (holds_stand h p h1 x hx hm)
  | some m =>
    obtain ⟨q, k1, k2, k3, k4⟩ := giverAmong_in z
    exact List.ne_nil_of_mem (mem_givers.mpr ⟨mem_only.mpr ⟨stand_mem k1, by rw [k2]; exact c.cl p h1 h2 x hx m z⟩, k3, k4⟩)
theorem ClosedS.stand (c : ClosedS h C) : PD.stand (only h C) = only h C :=
  sub_eq c.w.ndp ((stand_sub _).trans List.filter_sublist) List.filter_sublist fun p => ⟨stand_mem, fun hp => stand_greatest c.holds (fun _ h => h) p hp⟩
theorem ClosedS.eq (c : ClosedS h C) : only h C = only (PD.stand h) C :=
  sub_eq c.w.ndp List.filter_sublist (List.filter_sublist.trans (stand_sub h)) fun p => ⟨fun hp => mem_only.mpr ⟨c.st p (mem_only.mp hp).1 (mem_only.mp hp).2, (mem_only.mp hp).2⟩, fun hp => mem_only.mpr ⟨stand_mem (mem_only.mp hp).1, (mem_only.mp hp).2⟩⟩
theorem ClosedS.giver (c : ClosedS h C) {p : Part} (hp : p ∈ only h C) {x : Want} (hx : x ∈ p.wants) : giverAmong (only h C) p.name x = giverAmong (PD.stand h) p.name x := by
  obtain ⟨h1, h2⟩ := mem_only.mp hp
  have h1 := c.st p h1 h2
  have hs : ∀ q ∈ only h C, q ∈ PD.stand h := fun q hq => c.st q (mem_only.mp hq).1 (mem_only.mp hq).2
  cases z : giverAmong (PD.stand h) p.name x with
  | none => exact giverAmong_nil hs z
  | some m => exact giverAmong_less c.w.stand c.wh hs z fun r hr e => mem_only.mpr ⟨stand_mem hr, by rw [e]; exact c.cl p h1 h2 x hx m z⟩
theorem ClosedS.book (c : ClosedS h C) : giversBook (only h C) = (giversBook h).filter fun x => C x.1 := by
  unfold giversBook
  rw [c.stand, List.filter_map]
  have e : (PD.stand h).filter ((fun x : Str × List Str => C x.1) ∘ fun p => (p.name, p.wants.filterMap (giverAmong (PD.stand h) p.name))) = only h C := c.eq.symm
  rw [e]
  refine List.map_congr_left fun p hp => ?_
  congr 1
  exact filterMap_congr' fun x hx => c.giver hp hx
end
/-! ### the order of some of a book -/
theorem oiter_mono (b : Book) : ∀ (n : Nat) (f : List Str), ∀ x ∈ f, x ∈ oiter b n f
  | 0, _, _, h => h
  | n + 1, f, x, h => by
    rw [oiter]
    refine oiter_mono b n _ x ?_
    rcases orderStep_or b f with e | ⟨y, _, e⟩ <;> rw [e]
    · exact h
    · exact List.mem_append_left _ h
theorem oiter_in (b : Book) (k : Nat) : ∀ x ∈ oiter b k [], x ∈ orderB b := fun x hx => by
  have h1 : oiter b (k + b.length) [] = orderB b := by
    rw [Nat.add_comm, oiter_add, ← orderB_iter, oiter_fix (orderB_fix b)]
  rw [← h1, oiter_add]
  exact oiter_mono b _ _ x hx
theorem oiter_succ (b : Book) (n : Nat) (f : List Str) : oiter b (n + 1) f = orderStep b (oiter b n f) := by rw [oiter_add]; rfl
theorem ready_only (b : Book) (C : Str → Bool) (f : List Str) : ready (b.filter fun x => C x.1) f = (ready b f).filter C := by
  unfold ready
  rw [List.filter_map, List.filter_filter, List.filter_filter]
  congr 1
  exact List.filter_congr fun x _ => Bool.and_comm _ _
theorem oiter_only {b : Book} {C : Str → Bool} (hC : ∀ x ∈ orderB b, C x = true) : ∀ n, oiter (b.filter fun x => C x.1) n [] = oiter b n []
  | 0 => rfl
  | n + 1 => by
    rw [oiter_succ, oiter_succ, oiter_only hC n]
    have hr := ready_only b C (oiter b n [])
    have hin := oiter_in b (n + 1)
    rw [oiter_succ] at hin
    unfold orderStep at hin ⊢
    rw [hr]
    cases h : ready b (oiter b n []) with
    | nil => rfl
    | cons x r =>
      rw [h] at hin
      have : C x = true := hC x (hin x (List.mem_append_right _ (List.mem_singleton_self x)))
      rw [List.filter_cons, if_pos this]
theorem orderB_ready (b : Book) : ready b (orderB b) = [] := by
  have hb := orderB_fix b
  cases h : ready b (orderB b) with
  | nil => rfl
  | cons x r =>
    unfold orderStep at hb
    rw [h] at hb
    have := congrArg List.length hb
    simp at this
theorem orderB_only {b : Book} {C : Str → Bool} (hC : ∀ x ∈ orderB b, C x = true) : orderB (b.filter fun x => C x.1) = orderB b := by
  refine orderB_of (m := b.length) (by rw [oiter_only hC, orderB_iter]) ?_
  have hr := ready_only b C (orderB b)
  rw [orderB_ready] at hr
  unfold orderStep
  rw [hr]; rfl
/-! ### those that began, by themselves -/
def begun (h : House) : House := only h fun n => decide (n ∈ order h)
theorem begun_closed {h : House} (w : WH h) : ClosedS h fun n => decide (n ∈ order h) := by
  refine ⟨w, fun p hp hc => ?_, fun p hp hc x hx m z => ?_⟩
  · exact (mem_sn_part w hp).mp (order_sn (of_decide_eq_true hc))
  · have hc := of_decide_eq_true hc
    obtain ⟨l, r, e⟩ := List.append_of_mem hc
    have hb := begun_order w.bok.nd l p.name r e _ (look_book w hp) m (List.mem_filterMap.mpr ⟨x, hx, z⟩)
    refine decide_eq_true ?_
    rw [e]
    exact List.mem_append_left _ hb
theorem order_begun {h : House} (w : WH h) : order (begun h) = order h := by
  have e : giversBook (begun h) = _ := (begun_closed w).book
  unfold order at e ⊢
  rw [e]
  exact orderB_only (C := fun n => decide (n ∈ orderB (giversBook h))) fun x hx => decide_eq_true hx
theorem stand_begun {h : House} (w : WH h) : stand (begun h) = begun h := (begun_closed w).stand
theorem stuck_begun {h : House} (w : WH h) : stuck (begun h) = [] := by
  unfold stuck
  rw [book_keys, stand_begun w, order_begun w]
  refine List.filter_eq_nil_iff.mpr fun n hn => ?_
  obtain ⟨p, hp, rfl⟩ := List.mem_map.mp hn
  have := (mem_only.mp hp).2
  simp at this
  simp [this]
theorem order_nd (h : House) : (order h).Nodup := orderB_nd _
theorem sn_begun {h : House} (w : WH h) : sn (begun h) = sortT eS (order h) := by
  have hp := sn_pw (begun_closed w).wh
  rw [← sortT_of eS (xs := sn (begun h)) (hp.imp fun h => h)]
  refine sortT_nodup_eq (fun a => ?_) (hp.imp fun h => nlt_ne h) (order_nd h)
  unfold sn
  rw [stand_begun w]
  constructor
  · intro ha
    obtain ⟨p, hp, rfl⟩ := List.mem_map.mp ha
    exact of_decide_eq_true (mem_only.mp hp).2
  · intro ha
    obtain ⟨p, hp, rfl⟩ := mem_sn.mp (order_sn ha)
    exact List.mem_map.mpr ⟨p, mem_only.mpr ⟨stand_mem hp, decide_eq_true ha⟩, rfl⟩
/-! ### the last one, where none is stuck -/
theorem stuck_nil {h : House} (hs : stuck h = []) : ∀ n ∈ sn h, n ∈ order h := fun n hn => by
  unfold stuck at hs
  rw [book_keys] at hs
  have := List.filter_eq_nil_iff.mp hs n hn
  simpa using this
theorem nodup_snoc {α : Type} {l : List α} {a : α} (h : (l ++ [a]).Nodup) : a ∉ l := fun ha => by
  rw [List.nodup_append] at h
  exact h.2.2 a ha a (List.mem_singleton_self a) rfl
theorem last_none {h : House} (w : WH h) (hs : stuck h = []) {l : List Str} {n : Str} (e : order h = l ++ [n]) : ∀ p ∈ stand h, ∀ x ∈ p.wants, giverAmong (stand h) p.name x ≠ some n := fun p hp x hx z => by
  have hm : p.name ∈ order h := stuck_nil hs _ (mem_sn.mpr ⟨p, hp, rfl⟩)
  obtain ⟨l2, r2, e2⟩ := List.append_of_mem hm
  have hb := begun_order w.bok.nd l2 p.name r2 e2 _ (look_book w hp) n (List.mem_filterMap.mpr ⟨x, hx, z⟩)
  have hn := nodup_snoc (e ▸ order_nd h)
  rw [e] at e2
  obtain ⟨l3, a3, e3⟩ : ∃ l3 a3, p.name :: r2 = l3 ++ [a3] := by
    rcases List.eq_nil_or_concat (p.name :: r2) with z | ⟨l3, a3, z⟩
    · cases z
    · exact ⟨l3, a3, by rw [z, List.concat_eq_append]⟩
  rw [e3, ← List.append_assoc] at e2
  have e4 := List.append_inj' e2 rfl
  exact hn (by rw [e4.1]; exact List.mem_append_left _ hb)
theorem order_without {h : House} (w : WH h) {n : Str} (hn : ∀ p ∈ stand h, ∀ x ∈ p.wants, giverAmong (stand h) p.name x ≠ some n) : order (without h n) = (order h).filter fun m => !decide (m = n) := by
  unfold order
  rw [book_without w hn]
  refine orderB_without fun y hy hm => ?_
  obtain ⟨p, hp, rfl⟩ := List.mem_map.mp hy
  obtain ⟨x, hx, e⟩ := List.mem_filterMap.mp hm
  exact hn p hp x hx e
theorem filter_ne {l : List Str} {n : Str} (h : n ∉ l) : l.filter (fun m => !decide (m = n)) = l := List.filter_eq_self.mpr fun m hm => by
  have : m ≠ n := fun e => h (e ▸ hm)
  simp [this]
theorem order_last {h : House} (w : WH h) (hs : stuck h = []) {l : List Str} {n : Str} (e : order h = l ++ [n]) : order (without h n) = l := by
  rw [order_without w (last_none w hs e), e, List.filter_append, filter_ne (nodup_snoc (e ▸ order_nd h))]
  simp
/-! ### the head of the order -/
/-- one whose row is empty, and ahead of whom none of an empty row stands, begins first -/
theorem order_head {b : Book} {n : Str} {l r : Book} (e : b = l ++ (n, []) :: r) (hl : ∀ x ∈ l, x.2 ≠ []) : ∃ t, orderB b = n :: t := by
  have h0 : ready b [] = n :: ready r [] := by
    rw [e]
    unfold ready
    rw [List.filter_append, List.filter_cons, if_pos (by simp)]
    have : (l.filter fun x => !decide (x.1 ∈ ([] : List Str)) && x.2.all fun y => decide (y ∈ ([] : List Str))) = [] := List.filter_eq_nil_iff.mpr fun x hx => by
      have := hl x hx
      cases h : x.2 with
      | nil => exact absurd h this
      | cons a t => simp [h]
    rw [this]; rfl
  have hb : b.length = (b.length - 1) + 1 := by rw [e]; simp; omega
  rw [orderB_iter, hb, oiter]
  have e1 : orderStep b [] = [n] := by unfold orderStep; rw [h0]; rfl
  rw [e1]
  have : ∀ (k : Nat) (f : List Str), ∃ t, oiter b k f = f ++ t := fun k => by
    induction k with
    | zero => intro f; exact ⟨[], by rw [oiter, List.append_nil]⟩
    | succ k ih =>
      intro f
      rw [oiter]
      obtain ⟨t, ht⟩ := ih (orderStep b f)
      rcases orderStep_or b f with e | ⟨y, _, e⟩
      · rw [e] at ht ⊢; exact ⟨t, ht⟩
      · rw [e] at ht ⊢; exact ⟨y :: t, by rw [ht, List.append_assoc]; rfl⟩
  obtain ⟨t, ht⟩ := this (b.length - 1) [n]
  exact ⟨t, ht⟩
end PD

/-! PARTHOST, THE PLAIN PART 15: parts sorted; a part put at its place. -/
namespace PD
open PySem PySem.Spec PyProof.Rows L2
theorem alikeAll_map {α : Type} (e : α → D) (h : ∀ a b, PySem.W.alike (e a) (e b) = true) : ∀ xs ys : List α, PySem.W.alikeAll (xs.map e) (ys.map e) = true
  | [], _ => by simp [PySem.W.alikeAll]
  | _ :: _, [] => by simp [PySem.W.alikeAll]
  | x :: xs, y :: ys => by
    rw [List.map_cons, List.map_cons, PySem.W.alikeAll, h x y, alikeAll_map e h xs ys]; rfl
theorem alike_tup {α : Type} (e : α → D) (h : ∀ a b, PySem.W.alike (e a) (e b) = true) (xs ys : List α) : PySem.W.alike (.tuple (xs.map e)) (.tuple (ys.map e)) = true := by
  rw [PySem.W.alike]; exact alikeAll_map e h xs ys
theorem alike_eF (a b : Str × Int) : PySem.W.alike (eF a) (eF b) = true := rfl
theorem alike_eW (a b : Want) : PySem.W.alike (eW a) (eW b) = true := rfl
theorem alike_eK (a b : Hook) : PySem.W.alike (eK a) (eK b) = true := by simp [eK, PySem.W.alike, PySem.W.alikeAll, alike_eDd]
theorem alike_eP (a b : Part) : PySem.W.alike (eP a) (eP b) = true := by
  simp only [eP, PySem.W.alike, PySem.W.alikeAll, alikeAll_map eF alike_eF, alikeAll_map eW alike_eW, alikeAll_map eK alike_eK]; rfl
theorem sortD_P (xs : House) : sortD (.tuple (xs.map eP)) = some (.list ((sortT eP xs).map eP)) :=
  sortD_tup eP alike_eP plain_eP (fun a => Nat.le_trans (depth_eP a) (by omega)) (.inl fun _ => ⟨_, _, rfl⟩) xs
theorem sortD_Pl (xs : House) : sortD (.list (xs.map eP)) = some (.list ((sortT eP xs).map eP)) :=
  sortD_lst eP alike_eP plain_eP (fun a => Nat.le_trans (depth_eP a) (by omega)) (.inl fun _ => ⟨_, _, rfl⟩) xs
theorem lt_P {p q : Part} (h : nlt p.name q.name = true) : PySem.W.dataLt (eP p) (eP q) = true := by
  have hne : p.name ≠ q.name := nlt_ne h
  unfold nlt at h
  unfold eP
  simp only [PySem.W.dataLt, PySem.W.keyToks, PySem.W.keyToksAll, List.cons_append, List.nil_append] at h ⊢
  rw [lex_self, PySem.W.lex_atom (fun e => hne (PySem.W.str_of_cps (by injection e)))]
  exact h
/-- a house in order is sorted -/
theorem WH.sorted {h : House} (w : WH h) : sortT eP h = h := sortT_of eP ((List.pairwise_map.mp w.names).imp fun h => lt_P h)
/-- what has the parts of a house in order is sorted to it -/
theorem WH.sort_perm {h g : House} (w : WH h) (hp : g.Perm h) : sortT eP g = h := sortT_is eP hp.symm ((List.pairwise_map.mp w.names).imp fun h => lt_P h)
/-! ### a part put at its place -/
def insP (z : Part) (h : House) : House := h.filter (fun p => nlt p.name z.name) ++ z :: h.filter (fun p => !nlt p.name z.name)
theorem filter_split {z : Str} : ∀ {h : House}, (h.map (·.name)).Pairwise (fun a b => nlt a b = true) → h.filter (fun p => nlt p.name z) ++ h.filter (fun p => !nlt p.name z) = h
  | [], _ => rfl
  | p :: h, hp => by
    rw [List.map_cons, List.pairwise_cons] at hp
    have ih := filter_split (z := z) hp.2
    rw [List.filter_cons, List.filter_cons]
    cases e : nlt p.name z with
    | true => simp only [if_true, Bool.not_true, Bool.false_eq_true, if_false, List.cons_append, ih]
    | false =>
      have h1 : h.filter (fun p => nlt p.name z) = [] := List.filter_eq_nil_iff.mpr fun q hq hz => by
        have := nlt_trans (hp.1 q.name (List.mem_map.mpr ⟨q, hq, rfl⟩)) hz
        rw [e] at this; cases this
      rw [h1, List.nil_append] at ih
      simp only [Bool.not_false, if_true, Bool.false_eq_true, if_false, h1, List.nil_append, ih]
theorem insP_perm {h : House} (w : WH h) (z : Part) : (insP z h).Perm (h ++ [z]) := by
  unfold insP
  refine List.perm_middle.trans ?_
  rw [filter_split w.names]
  exact (List.perm_append_singleton z h).symm
theorem insP_names {h : House} (w : WH h) {z : Part} (hz : z.name ∉ h.map (·.name)) : ((insP z h).map (·.name)).Pairwise fun a b => nlt a b = true := by
  unfold insP
  rw [List.map_append, List.map_cons, List.pairwise_append, List.pairwise_cons]
  refine ⟨w.names.sublist (List.filter_sublist.map _), ⟨fun b hb => ?_, w.names.sublist (List.filter_sublist.map _)⟩, fun a ha b hb => ?_⟩
  · obtain ⟨q, hq, rfl⟩ := List.mem_map.mp hb
    obtain ⟨h1, h2⟩ := List.mem_filter.mp hq
    cases e : nlt z.name q.name with
    | true => rfl
    | false => exact absurd (List.mem_map.mpr ⟨q, h1, (nlt_total e (by simpa using h2)).symm⟩) hz
  · obtain ⟨p, hp, rfl⟩ := List.mem_map.mp ha
    have hp := (List.mem_filter.mp hp).2
    rcases List.mem_cons.mp hb with rfl | hb
    · exact hp
    · obtain ⟨q, hq, rfl⟩ := List.mem_map.mp hb
      obtain ⟨h1, h2⟩ := List.mem_filter.mp hq
      cases e : nlt z.name q.name with
      | true => exact nlt_trans hp e
      | false => exact absurd (List.mem_map.mpr ⟨q, h1, (nlt_total e (by simpa using h2)).symm⟩) hz
theorem insP_wh {h : House} (w : WH h) {z : Part} (wz : WP z) (hz : z.name ∉ h.map (·.name)) (hl : h.length < 100) : WH (insP z h) := by
  refine ⟨?_, fun p hp => ?_, insP_names w hz⟩
  · rw [(insP_perm w z).length_eq, List.length_append, List.length_singleton]; omega
  · rcases List.mem_append.mp ((insP_perm w z).mem_iff.mp hp) with hp | hp
    · exact w.parts p hp
    · rw [List.mem_singleton.mp hp]; exact wz
theorem insP_sort {h : House} (w : WH h) {z : Part} (hz : z.name ∉ h.map (·.name)) : sortT eP (h ++ [z]) = insP z h :=
  sortT_is eP (insP_perm w z) ((List.pairwise_map.mp (insP_names w hz)).imp fun h => lt_P h)
theorem insP_without {h : House} (w : WH h) {z : Part} (hz : z.name ∉ h.map (·.name)) : without (insP z h) z.name = h := by
  unfold insP without
  have hne : ∀ p ∈ h, decide (p.name = z.name) = false := fun p hp => decide_eq_false fun e => hz (List.mem_map.mpr ⟨p, hp, e⟩)
  rw [List.filter_append, List.filter_cons, if_neg (by simp)]
  conv => rhs; rw [← filter_split (z := z.name) w.names]
  congr 1
  · exact List.filter_eq_self.mpr fun p hp => by rw [hne p (List.mem_filter.mp hp).1]; rfl
  · exact List.filter_eq_self.mpr fun p hp => by rw [hne p (List.mem_filter.mp hp).1]; rfl
theorem insP_ins {h : House} (w : WH h) {z : Part} (wz : WP z) (hz : z.name ∉ h.map (·.name)) (hl : h.length < 100) (hw : z.wants = []) (hg : ∀ p ∈ h, ∀ x ∈ p.wants, gives z x = false) : Ins h (insP z h) z := by
  refine ⟨insP_wh w wz hz hl, List.mem_append_right _ List.mem_cons_self, hw, fun p hp x hx => ?_, insP_without w hz⟩
  rcases List.mem_append.mp ((insP_perm w z).mem_iff.mp hp) with hp | hp
  · exact hg p hp x hx
  · rw [List.mem_singleton.mp hp, hw] at hx; cases hx
theorem makeOf_out {z : Part} {f : Str} (h : f ∉ z.faces.map (·.1)) : makeOf z f = 0 := by
  unfold makeOf
  cases e : look z.faces.reverse f with
  | none => rfl
  | some v =>
    have := look_some_mem e
    exact absurd (List.mem_map.mpr ⟨_, List.mem_reverse.mp this, rfl⟩) h
theorem gives_out {z : Part} {x : Want} (h : x.face ∉ z.faces.map (·.1)) (hlo : 1 ≤ x.lo) : gives z x = false := by
  unfold gives
  rw [makeOf_out h]
  have : decide (x.lo ≤ 0) = false := decide_eq_false (by omega)
  rw [this]; rfl
end PD

/-! PARTHOST, THE PLAIN PART 16: places and slices. -/
namespace PD
open PySem PySem.Spec PyProof.Rows L2
theorem cutL_to {α : Type} (xs : List α) (k : Int) (hk : 0 ≤ k) : cutL xs none (some k) = xs.take k.toNat := by
  unfold cutL
  have e : HT.sIx xs.length xs.length (some k) = min k.toNat xs.length := by
    have := HT.sIx_nat xs.length xs.length k.toNat
    rw [Int.toNat_of_nonneg hk] at this
    exact this
  rw [e, HT.sIx_none, List.drop_zero, Nat.sub_zero]
  by_cases h : k.toNat ≤ xs.length
  · rw [Nat.min_eq_left h]
  · rw [Nat.min_eq_right (by omega), List.take_of_length_le (by omega), List.take_of_length_le (by omega)]
theorem cutL_init {α : Type} (xs : List α) : cutL xs none (some (-1)) = xs.dropLast := by
  unfold cutL
  have e : HT.sIx xs.length xs.length (some (-1)) = xs.length - 1 := by
    unfold HT.sIx
    simp only []
    rw [if_pos (by omega)]; omega
  rw [e, HT.sIx_none, List.drop_zero, Nat.sub_zero, List.dropLast_eq_take]
theorem cutL_map {α β : Type} (f : α → β) (xs : List α) (lo hi : Option Int) : cutL (xs.map f) lo hi = (cutL xs lo hi).map f := by
  unfold cutL
  rw [List.length_map, List.map_take, List.map_drop]
theorem atI_nat' {α : Type} (xs : List α) (i : Nat) : L2.atI xs (i : Int) = xs[i]? := by
  unfold L2.atI L2.ixN
  rw [if_pos (by omega)]
  by_cases h : i < xs.length
  · rw [if_pos (by omega)]; simp
  · rw [if_neg (by omega)]
    rw [List.getElem?_eq_none (by omega)]; rfl
theorem atI_last {α : Type} (xs : List α) (x : α) : L2.atI (xs ++ [x]) (-1) = some x := by
  unfold L2.atI L2.ixN
  rw [if_neg (by omega), if_pos (by rw [List.length_append, List.length_singleton]; omega)]
  rw [Option.bind_some, List.length_append, List.length_singleton]
  have : (-1 + ((xs.length + 1 : Nat) : Int)).toNat = xs.length := by omega
  rw [this]; simp
theorem ixT_last (xs : List D) (x : D) : ixD (.tuple (xs ++ [x])) (.int (-1)) = some x := atI_last xs x
theorem ixL_last (xs : List D) (x : D) : ixD (.list (xs ++ [x])) (.int (-1)) = some x := atI_last xs x
theorem ixT_nat (xs : List D) (i : Nat) : ixD (.tuple xs) (.int (i : Int)) = xs[i]? := atI_nat' xs i
theorem ixL_nat (xs : List D) (i : Nat) : ixD (.list xs) (.int (i : Int)) = xs[i]? := atI_nat' xs i
theorem ixT_lastS (xs : List Str) (x : Str) : ixD (.tuple ((xs ++ [x]).map eS)) (.int (-1)) = some (.str x) := by
  rw [List.map_append]; exact ixT_last _ _
theorem sl_t (xs : List D) (lo hi : Option Int) : slD (.tuple xs) lo hi = some (.tuple (cutL xs lo hi)) := rfl
theorem sl_l (xs : List D) (lo hi : Option Int) : slD (.list xs) lo hi = some (.list (cutL xs lo hi)) := rfl
theorem fSl_eq {f : Env → Option D} {g h : Env → Option (Option Int)} {env : Env} {c d : D} {lo hi : Option Int} (e1 : f env = some c) (e2 : g env = some lo) (e3 : h env = some hi) (e4 : slD c lo hi = some d) : fSl f g h env = some d := by
  unfold fSl
  rw [e1, Option.bind_some, e2, Option.bind_some, e3, Option.bind_some]; exact e4
theorem partD_eq {f : Env → Option D} {env : Env} {i : Int} (e : f env = some (.int i)) : partD f env = some (some i) := by
  unfold partD
  rw [e]; rfl
theorem f2_eq {op : D → D → Option D} {f g : Env → Option D} {env : Env} {x y z : D} (e1 : f env = some x) (e2 : g env = some y) (e3 : op x y = some z) : f2 op f g env = some z := by
  unfold f2
  rw [e1, Option.bind_some, e2, Option.bind_some]; exact e3
theorem f1_eq {op : D → Option D} {f : Env → Option D} {env : Env} {x z : D} (e1 : f env = some x) (e3 : op x = some z) : f1 op f env = some z := by
  unfold f1
  rw [e1, Option.bind_some]; exact e3
theorem qSet_eq {i : Nat} {f : Env → Option D} {env : Env} {d : D} (e : f env = some d) : qSet i f env = some (.next (env.set i (.dat d))) := by
  unfold qSet
  rw [e]; rfl
theorem neD_tupS0 (xs : List Str) : neD (.tuple (xs.map eS)) (.tuple []) = some (.bool (!decide (xs = []))) := neD_tupS xs []
theorem eqD_tupS0 (xs : List Str) : eqD (.tuple (xs.map eS)) (.tuple []) = some (.bool (decide (xs = []))) := eqD_tupS xs []
theorem ltD_str (a b : Str) : ltD (.str a) (.str b) = some (.bool (nlt a b)) := by
  have h : ltRoom (.str a) (.str b) = true := by simp [ltRoom, PySem.W.alike, PyData.plain, PyData.depth]
  unfold ltD
  rw [if_pos h]; rfl
theorem gtD_str (a b : Str) : gtD (.str a) (.str b) = some (.bool (nlt b a)) := by
  have h : ltRoom (.str a) (.str b) = true := by simp [ltRoom, PySem.W.alike, PyData.plain, PyData.depth]
  unfold gtD
  rw [if_pos h]; rfl
end PD

/-! PARTHOST, THE PLAIN PART 26: a host as plain Lean; what its methods do. -/
namespace PD
open PySem PySem.Spec PyProof.Rows L2
structure HS where
  book : House
  bad : List Str
  run : List Str
  rows : List (Str × Str)
def kP (p : Part) : D × D := (.str p.name, eP p)
def kN (n : Str) : D × D := (.str n, .bool true)
def eHS (s : HS) : HSt := ⟨s.book.map kP, s.bad.map kN, .tuple (s.run.map eS), s.rows.map eSS⟩
theorem getKV_parts (b : House) (n : Str) : getKV (b.map kP) (.inr n) = (partOf b n).map eP := by
  induction b with
  | nil => rfl
  | cons p b ih =>
    show (if (some (Sum.inr p.name) : Option Key) = some (.inr n) then some (eP p) else getKV (b.map kP) (.inr n)) = _
    unfold partOf at ih ⊢
    rw [List.find?_cons]
    by_cases e : p.name = n
    · rw [if_pos (by rw [e]), decide_eq_true e]; rfl
    · rw [if_neg (fun z => e (Sum.inr.inj (Option.some.inj z))), decide_eq_false e]; exact ih
theorem getKV_bad (b : List Str) (n : Str) : getKV (b.map kN) (.inr n) = if n ∈ b then some (.bool true) else none := by
  induction b with
  | nil => rfl
  | cons m b ih =>
    show (if (some (Sum.inr m) : Option Key) = some (.inr n) then some (PyData.bool true) else getKV (b.map kN) (.inr n)) = _
    by_cases e : m = n
    · rw [if_pos (by rw [e]), if_pos (by rw [e]; exact List.mem_cons_self)]
    · rw [if_neg (fun z => e (Sum.inr.inj (Option.some.inj z))), ih]
      have : (n ∈ m :: b) ↔ n ∈ b := by rw [List.mem_cons]; exact ⟨fun h => h.resolve_left (Ne.symm e), .inr⟩
      simp only [this]
theorem dropKV_parts (b : House) (n : Str) : dropKV (b.map kP) (.inr n) = (without b n).map kP := by
  induction b with
  | nil => rfl
  | cons p b ih =>
    show (if (some (Sum.inr p.name) : Option Key) = some (.inr n) then dropKV (b.map kP) (.inr n) else kP p :: dropKV (b.map kP) (.inr n)) = _
    unfold without at ih ⊢
    rw [List.filter_cons]
    by_cases e : p.name = n
    · rw [if_pos (by rw [e]), ih, decide_eq_true e]; rfl
    · rw [if_neg (fun z => e (Sum.inr.inj (Option.some.inj z))), ih, decide_eq_false e]; rfl
def less (b : List Str) (n : Str) : List Str := b.filter fun m => !decide (m = n)
theorem dropKV_bad (b : List Str) (n : Str) : dropKV (b.map kN) (.inr n) = (less b n).map kN := by
  induction b with
  | nil => rfl
  | cons m b ih =>
    show (if (some (Sum.inr m) : Option Key) = some (.inr n) then dropKV (b.map kN) (.inr n) else kN m :: dropKV (b.map kN) (.inr n)) = _
    unfold less at ih ⊢
    rw [List.filter_cons]
    by_cases e : m = n
    · rw [if_pos (by rw [e]), ih, decide_eq_true e]; rfl
    · rw [if_neg (fun z => e (Sum.inr.inj (Option.some.inj z))), ih, decide_eq_false e]; rfl
def putP (b : House) (p : Part) : House := if p.name ∈ b.map (·.name) then b.map (fun q => if q.name = p.name then p else q) else b ++ [p]
theorem partOf_some (b : House) (n : Str) : (partOf b n).isSome = decide (n ∈ b.map (·.name)) := by
  unfold partOf
  rw [Bool.eq_iff_iff, List.find?_isSome, decide_eq_true_eq, List.mem_map]
  constructor
  · rintro ⟨p, hp, e⟩; exact ⟨p, hp, of_decide_eq_true e⟩
  · rintro ⟨p, hp, e⟩; exact ⟨p, hp, decide_eq_true e⟩
theorem repKV_parts (p : Part) : ∀ b : House, repKV (b.map kP) (.inr p.name) (eP p) = (b.map fun q => if q.name = p.name then p else q).map kP
  | [] => rfl
  | q :: b => by
    show (if (some (Sum.inr q.name) : Option Key) = some (.inr p.name) then ((PyData.str q.name, eP p) : D × D) else kP q) :: repKV (b.map kP) (.inr p.name) (eP p) = _
    rw [repKV_parts p b, List.map_cons, List.map_cons]
    by_cases e : q.name = p.name
    · rw [if_pos (by rw [e]), if_pos e]; show _ :: _ = kP p :: _; unfold kP; rw [e]
    · rw [if_neg (fun z => e (Sum.inr.inj (Option.some.inj z))), if_neg e]
theorem putKV_parts (b : House) (p : Part) : putKV (b.map kP) (.inr p.name) (eP p) = (putP b p).map kP := by
  unfold putKV putP
  rw [getKV_parts, Option.isSome_map, partOf_some]
  by_cases e : p.name ∈ b.map (·.name)
  · rw [if_pos (decide_eq_true e), if_pos e]; exact repKV_parts p b
  · rw [decide_eq_false e, if_neg (by simp), if_neg e, List.map_append]; rfl
theorem putKV_bad {b : List Str} {n : Str} (h : n ∉ b) : putKV (b.map kN) (.inr n) (.bool true) = (b ++ [n]).map kN := by
  unfold putKV
  rw [getKV_bad, if_neg h, if_neg (by simp), List.map_append]; rfl
theorem notIn_bad (b : List Str) (n : Str) : notInD (.str n) (.dict (b.map kN)) = some (.bool (!decide (n ∈ b))) := by
  show ((some (getKV (b.map kN) (.inr n)).isSome : Option Bool).map fun b => PyData.bool (!b)) = _
  rw [getKV_bad]
  by_cases e : n ∈ b
  · rw [if_pos e, decide_eq_true e]; rfl
  · rw [if_neg e, decide_eq_false e]; rfl
theorem notIn_parts (b : House) (n : Str) : notInD (.str n) (.dict (b.map kP)) = some (.bool (!decide (n ∈ b.map (·.name)))) := by
  show ((some (getKV (b.map kP) (.inr n)).isSome : Option Bool).map fun b => PyData.bool (!b)) = _
  rw [getKV_parts, Option.isSome_map, partOf_some]; rfl
theorem sortD_keys {α : Type} (k : α → D × D) (nm : α → Str) (hk : ∀ a, (k a).1 = .str (nm a)) (b : List α) (hb : ∀ a ∈ b, (nm a).length ≤ 1000) : sortD (.dict (b.map k)) = some (.list ((sortT eS (b.map nm)).map eS)) := by
  have e : (b.map k).map (·.1) = (b.map nm).map eS := by rw [List.map_map, List.map_map]; exact List.map_congr_left fun a _ => hk a
  show (if keysOk _ = true ∧ sortOk _ = true then some (PyData.list (sortL _)) else none) = _
  have hko : keysOk (b.map k) = true := by
    unfold keysOk
    rw [List.all_eq_true]
    intro kv hkv
    obtain ⟨a, ha, rfl⟩ := List.mem_map.mp hkv
    rw [hk a]
    have := hb a ha
    exact decide_eq_true (by rw [sizeLine_eq]; omega)
  rw [e, if_pos ⟨hko, sortOk_map eS (fun _ _ => rfl) (fun _ => rfl) (fun _ => by simp [eS, PyData.depth]) (.inr fun _ => rfl) _⟩, sortL_map]
theorem noLDs_map {α : Type} (e : α → D) (h : ∀ a, noLD (e a) = true) : ∀ xs : List α, noLDs (xs.map e) = true
  | [] => rfl
  | x :: xs => by rw [List.map_cons, noLDs, h, noLDs_map e h xs]; rfl
theorem noLD_eP (p : Part) : noLD (eP p) = true := by
  have h3 : ∀ k, noLD (eK k) = true := fun k => by
    obtain ⟨a, b, ⟨c, d⟩⟩ := k
    cases d <;> rfl
  simp only [eP, noLD, noLDs, noLDs_map eF (fun _ => rfl), noLDs_map eW (fun _ => rfl), noLDs_map eK h3, Bool.and_self]
theorem noLD_eH (h : House) : noLD (eH h) = true := by unfold eH; rw [noLD]; exact noLDs_map eP noLD_eP h
theorem names_perm {b h : House} (w : WH h) (hp : b.Perm h) : sortT eS (b.map (·.name)) = h.map (·.name) := sortT_is eS (hp.symm.map _) w.names
theorem partOf_perm {b h : House} (w : WH h) (hp : b.Perm h) {p : Part} (hm : p ∈ h) : partOf b p.name = some p :=
  partOf_mem ((hp.map _).nodup_iff.mpr w.nd) (hp.mem_iff.mpr hm)
theorem ev_house_of {b h : House} (w : WH h) (hp : b.Perm h) : m_house_of [.dict (b.map kP)] = some (eH h) := by
  have h1 := sortD_keys kP (·.name) (fun _ => rfl) b fun p hm => (w.parts p (hp.mem_iff.mp hm)).nlen
  rw [names_perm w hp, List.map_map] at h1
  have c : compL (sN 1) fYes ce_house_of_0 [.dat (.dict (b.map kP)), .un] (h.map (eS ∘ fun p => p.name)) = some ((h.filter fun _ => true).map eP) :=
    compL_map (eS ∘ fun p : Part => p.name) _ _ _ fun p hm => ⟨_, rfl, rfl, fun _ => by
      show ixD (.dict (b.map kP)) (.str p.name) = some (eP p)
      show getKV (b.map kP) (.inr p.name) = some (eP p)
      rw [getKV_parts, partOf_perm w hp hm]; rfl⟩
  rw [filter_true] at c
  generalize h.map (eS ∘ fun p => p.name) = ks at h1 c
  simp [m_house_of, g_house_of, bodyD, startE, qSeq, qSet, qOwn, qRet, qIf, qNil, qFor, qApp, qExt, qPut, qRetOwn, qAlias, qAsg, qBrk, qCont, qDrop, qPop, fGet2, f1, f2, fV, fW, fC, fCons, fNil, fTup, fLst, fCall, fB, fAndB, fOrB, fNotB, fAndV, fOrV, fNotV, fIf, fChain, fIt, fLc, fYes, sN, sCons, sNil, wipeE, itemsH, lstH, lenH, ixP0, ixP1, ixP2, ixP3, ixP4, ixW0, ixW1, ixW2, ixW3, ixF0, ixF1, ixK0, ixK1, ixK2, ixT0, ixT1, ixT2, ixT3, ixL0, lenD_l, lenD_t, lenD_s, lstD_l, lstD_t, tupD_l, tupD_t, itemsD_l, itemsD_t, addD_i, addD_s, addD_t, subD_i, catD_l, intD_i, intD_b, isND_n, notND_n, isNone_n, isNone_s, isNone_i, isNone_b, isNone_l, isNone_t, isNone_p, isNone_o, modD_i, fdivD_i, timesD_t, min2_i, max2_i, negD_i, asB_b, Option.bind_some, Option.map_some, List.map_cons, List.map_nil, List.length_cons, List.length_nil, List.replicate, List.append_nil, List.getElem?_cons_zero, List.getElem?_cons_succ, eqD_O, neD_O, eqD_int, neD_int, eqD_str, neD_str, ltD_int, gtD_int, leD_int, geD_int, sizeLine_eq, List.set_cons_zero, List.set_cons_succ, seqD_l, seqD_t, sTup_t, h1, c, eH]
/-- those that are not broken -/
def sndP (h : House) (bad : List Str) : House := h.filter fun p => !decide (p.name ∈ bad)
theorem WH.snd {h : House} (w : WH h) (bad : List Str) : WH (sndP h bad) := w.sub List.filter_sublist
theorem hostAt0 (k : Hold) (t : HSt) (r : Env) : hostAt (.obj k (.host t) :: r) 0 = some t := rfl
theorem ev_house {s : HS} {h : House} (w : WH h) (hp : s.book.Perm h) : m_Host_house (eHS s) = some (eH h) := by
  have h1 := ev_house_of w hp
  unfold m_Host_house bodyHP g_Host_house qRet fHBor
  show (((m_house_of [.dict ((eHS s).get .parts)]).bind fun d => if noLD d = true then some d else none).map Res.ret).bind _ = _
  rw [show (eHS s).get .parts = s.book.map kP from rfl, h1, Option.bind_some, if_pos (noLD_eH h)]
  rfl
theorem ev_sound {s : HS} {h : House} (w : WH h) (hp : s.book.Perm h) : m_Host_sound (eHS s) = some (eH (sndP h s.bad)) := by
  have h1 := ev_house w hp
  have c : compL (sN 1) ct_Host_sound_0 (fV 1) [.obj .bor (.host (eHS s)), .un] (h.map eP) = some ((sndP h s.bad).map eP) :=
    compL_map eP _ _ _ fun p hm => ⟨_, rfl, by
      have h2 := notIn_bad s.bad p.name
      simp [ct_Host_sound_0, bodyD, startE, qSeq, qSet, qOwn, qRet, qIf, qNil, qFor, qApp, qExt, qPut, qRetOwn, qAlias, qAsg, qBrk, qCont, qDrop, qPop, fGet2, f1, f2, fV, fW, fC, fCons, fNil, fTup, fLst, fCall, fB, fAndB, fOrB, fNotB, fAndV, fOrV, fNotV, fIf, fChain, fIt, fLc, fYes, sN, sCons, sNil, wipeE, itemsH, lstH, lenH, ixP0, ixP1, ixP2, ixP3, ixP4, ixW0, ixW1, ixW2, ixW3, ixF0, ixF1, ixK0, ixK1, ixK2, ixT0, ixT1, ixT2, ixT3, ixL0, lenD_l, lenD_t, lenD_s, lstD_l, lstD_t, tupD_l, tupD_t, itemsD_l, itemsD_t, addD_i, addD_s, addD_t, subD_i, catD_l, intD_i, intD_b, isND_n, notND_n, isNone_n, isNone_s, isNone_i, isNone_b, isNone_l, isNone_t, isNone_p, isNone_o, modD_i, fdivD_i, timesD_t, min2_i, max2_i, negD_i, asB_b, Option.bind_some, Option.map_some, List.map_cons, List.map_nil, List.length_cons, List.length_nil, List.replicate, List.append_nil, List.getElem?_cons_zero, List.getElem?_cons_succ, eqD_O, neD_O, eqD_int, neD_int, eqD_str, neD_str, ltD_int, gtD_int, leD_int, geD_int, sizeLine_eq, List.set_cons_zero, List.set_cons_succ, seqD_l, seqD_t, sTup_t, fHDict, hostAt, obAt, HSt.get, eHS, h2], fun _ => rfl⟩
  have e : startO 2 .bor (eHS s) [] = [.obj .bor (.host (eHS s)), .un] := rfl
  unfold m_Host_sound bodyHP g_Host_sound
  rw [e]
  simp [bodyD, startE, qSeq, qSet, qOwn, qRet, qIf, qNil, qFor, qApp, qExt, qPut, qRetOwn, qAlias, qAsg, qBrk, qCont, qDrop, qPop, fGet2, f1, f2, fV, fW, fC, fCons, fNil, fTup, fLst, fCall, fB, fAndB, fOrB, fNotB, fAndV, fOrV, fNotV, fIf, fChain, fIt, fLc, fYes, sN, sCons, sNil, wipeE, itemsH, lstH, lenH, ixP0, ixP1, ixP2, ixP3, ixP4, ixW0, ixW1, ixW2, ixW3, ixF0, ixF1, ixK0, ixK1, ixK2, ixT0, ixT1, ixT2, ixT3, ixL0, lenD_l, lenD_t, lenD_s, lstD_l, lstD_t, tupD_l, tupD_t, itemsD_l, itemsD_t, addD_i, addD_s, addD_t, subD_i, catD_l, intD_i, intD_b, isND_n, notND_n, isNone_n, isNone_s, isNone_i, isNone_b, isNone_l, isNone_t, isNone_p, isNone_o, modD_i, fdivD_i, timesD_t, min2_i, max2_i, negD_i, asB_b, Option.bind_some, Option.map_some, List.map_cons, List.map_nil, List.length_cons, List.length_nil, List.replicate, List.append_nil, List.getElem?_cons_zero, List.getElem?_cons_succ, eqD_O, neD_O, eqD_int, neD_int, eqD_str, neD_str, ltD_int, gtD_int, leD_int, geD_int, sizeLine_eq, List.set_cons_zero, List.set_cons_succ, seqD_l, seqD_t, sTup_t, fHP, hostAt0, h1, eH, c]
/-! ### settling -/
def goneS (run now : List Str) : List (Str × Str) := (run.reverse.filter fun n => !decide (n ∈ now)).map fun n => ("out", n)
def comeS (run now : List Str) : List (Str × Str) := (now.filter fun n => !decide (n ∈ run)).map fun n => ("in", n)
def settleS (h : House) (s : HS) : HS := { s with run := order (sndP h s.bad), rows := s.rows ++ goneS s.run (order (sndP h s.bad)) ++ comeS s.run (order (sndP h s.bad)) }
structure Few (n : Nat) (s : HS) : Prop where
  rows : s.rows.length + n ≤ 1000000
  run : s.run.length ≤ 100
theorem goneS_len (run now : List Str) : (goneS run now).length ≤ run.length := by
  unfold goneS; rw [List.length_map]; exact Nat.le_trans List.filter_sublist.length_le (by rw [List.length_reverse]; exact Nat.le_refl _)
theorem comeS_len (run now : List Str) : (comeS run now).length ≤ now.length := by
  unfold comeS; rw [List.length_map]; exact List.filter_sublist.length_le
theorem Few.settle {n : Nat} {h : House} {s : HS} (w : WH h) (f : Few (n + 200) s) : Few n (settleS h s) := by
  have h1 := goneS_len s.run (order (sndP h s.bad))
  have h2 := comeS_len s.run (order (sndP h s.bad))
  have h3 := order_len (w.snd s.bad)
  have h4 := f.rows
  have h5 := f.run
  refine ⟨?_, h3⟩
  simp only [settleS, List.length_append]
  omega
theorem ev_settle {n : Nat} {s : HS} {h : House} (w : WH h) (hp : s.book.Perm h) (f : Few (n + 200) s) : m_Host_settle (eHS s) [] = some (.none, eHS (settleS h s)) := by
  have h1 := ev_sound w hp
  have h2 := (w.snd s.bad).order
  have f3 := (f.settle w).rows
  have f4 := f.rows
  simp only [settleS, List.length_append] at f3
  generalize hnow : order (sndP h s.bad) = now at h2 f3
  have e : startO 3 .slf (eHS s) [] = [.obj .slf (.host (eHS s)), .un, .un] := rfl
  have c1 : compL (sN 2) ct_Host_settle_0 ce_Host_settle_1 [.obj .slf (.host (eHS s)), .dat (.tuple (now.map eS)), .un] (s.run.reverse.map eS) = some ((goneS s.run now).map eSS) := by
    refine (compL_map eS (fun x => !decide (x ∈ now)) (fun x => eSS ("out", x)) s.run.reverse fun x hx => ⟨_, rfl, ?_, fun _ => rfl⟩).trans ?_
    · have := notInT_S now x
      simp [ct_Host_settle_0, bodyD, startE, qSeq, qSet, qOwn, qRet, qIf, qNil, qFor, qApp, qExt, qPut, qRetOwn, qAlias, qAsg, qBrk, qCont, qDrop, qPop, fGet2, f1, f2, fV, fW, fC, fCons, fNil, fTup, fLst, fCall, fB, fAndB, fOrB, fNotB, fAndV, fOrV, fNotV, fIf, fChain, fIt, fLc, fYes, sN, sCons, sNil, wipeE, itemsH, lstH, lenH, ixP0, ixP1, ixP2, ixP3, ixP4, ixW0, ixW1, ixW2, ixW3, ixF0, ixF1, ixK0, ixK1, ixK2, ixT0, ixT1, ixT2, ixT3, ixL0, lenD_l, lenD_t, lenD_s, lstD_l, lstD_t, tupD_l, tupD_t, itemsD_l, itemsD_t, addD_i, addD_s, addD_t, subD_i, catD_l, intD_i, intD_b, isND_n, notND_n, isNone_n, isNone_s, isNone_i, isNone_b, isNone_l, isNone_t, isNone_p, isNone_o, modD_i, fdivD_i, timesD_t, min2_i, max2_i, negD_i, asB_b, Option.bind_some, Option.map_some, List.map_cons, List.map_nil, List.length_cons, List.length_nil, List.replicate, List.append_nil, List.getElem?_cons_zero, List.getElem?_cons_succ, eqD_O, neD_O, eqD_int, neD_int, eqD_str, neD_str, ltD_int, gtD_int, leD_int, geD_int, sizeLine_eq, List.set_cons_zero, List.set_cons_succ, seqD_l, seqD_t, sTup_t, eS, this]
    · unfold goneS; rw [List.map_map]; rfl
  have c2 : ∀ rs, compL (sN 2) ct_Host_settle_2 ce_Host_settle_3 [.obj .slf (.host ⟨s.book.map kP, s.bad.map kN, .tuple (s.run.map eS), rs⟩), .dat (.tuple (now.map eS)), .un] (now.map eS) = some ((comeS s.run now).map eSS) := by
    intro rs
    refine (compL_map eS (fun x => !decide (x ∈ s.run)) (fun x => eSS ("in", x)) now fun x hx => ⟨_, rfl, ?_, fun _ => rfl⟩).trans ?_
    · have := notInT_S s.run x
      simp [ct_Host_settle_2, bodyD, startE, qSeq, qSet, qOwn, qRet, qIf, qNil, qFor, qApp, qExt, qPut, qRetOwn, qAlias, qAsg, qBrk, qCont, qDrop, qPop, fGet2, f1, f2, fV, fW, fC, fCons, fNil, fTup, fLst, fCall, fB, fAndB, fOrB, fNotB, fAndV, fOrV, fNotV, fIf, fChain, fIt, fLc, fYes, sN, sCons, sNil, wipeE, itemsH, lstH, lenH, ixP0, ixP1, ixP2, ixP3, ixP4, ixW0, ixW1, ixW2, ixW3, ixF0, ixF1, ixK0, ixK1, ixK2, ixT0, ixT1, ixT2, ixT3, ixL0, lenD_l, lenD_t, lenD_s, lstD_l, lstD_t, tupD_l, tupD_t, itemsD_l, itemsD_t, addD_i, addD_s, addD_t, subD_i, catD_l, intD_i, intD_b, isND_n, notND_n, isNone_n, isNone_s, isNone_i, isNone_b, isNone_l, isNone_t, isNone_p, isNone_o, modD_i, fdivD_i, timesD_t, min2_i, max2_i, negD_i, asB_b, Option.bind_some, Option.map_some, List.map_cons, List.map_nil, List.length_cons, List.length_nil, List.replicate, List.append_nil, List.getElem?_cons_zero, List.getElem?_cons_succ, eqD_O, neD_O, eqD_int, neD_int, eqD_str, neD_str, ltD_int, gtD_int, leD_int, geD_int, sizeLine_eq, List.set_cons_zero, List.set_cons_succ, seqD_l, seqD_t, sTup_t, eS, fHRun, hostAt, obAt, this]
    · unfold comeS; rw [List.map_map]; rfl
  unfold m_Host_settle bodyHM g_Host_settle
  rw [e]
  rw [qSeq_next (env' := [.obj .slf (.host (eHS s)), .dat (.tuple (now.map eS)), .un]) (by simp [bodyD, startE, qSeq, qSet, qOwn, qRet, qIf, qNil, qFor, qApp, qExt, qPut, qRetOwn, qAlias, qAsg, qBrk, qCont, qDrop, qPop, fGet2, f1, f2, fV, fW, fC, fCons, fNil, fTup, fLst, fCall, fB, fAndB, fOrB, fNotB, fAndV, fOrV, fNotV, fIf, fChain, fIt, fLc, fYes, sN, sCons, sNil, wipeE, itemsH, lstH, lenH, ixP0, ixP1, ixP2, ixP3, ixP4, ixW0, ixW1, ixW2, ixW3, ixF0, ixF1, ixK0, ixK1, ixK2, ixT0, ixT1, ixT2, ixT3, ixL0, lenD_l, lenD_t, lenD_s, lstD_l, lstD_t, tupD_l, tupD_t, itemsD_l, itemsD_t, addD_i, addD_s, addD_t, subD_i, catD_l, intD_i, intD_b, isND_n, notND_n, isNone_n, isNone_s, isNone_i, isNone_b, isNone_l, isNone_t, isNone_p, isNone_o, modD_i, fdivD_i, timesD_t, min2_i, max2_i, negD_i, asB_b, Option.bind_some, Option.map_some, List.map_cons, List.map_nil, List.length_cons, List.length_nil, List.replicate, List.append_nil, List.getElem?_cons_zero, List.getElem?_cons_succ, eqD_O, neD_O, eqD_int, neD_int, eqD_str, neD_str, ltD_int, gtD_int, leD_int, geD_int, sizeLine_eq, List.set_cons_zero, List.set_cons_succ, seqD_l, seqD_t, sTup_t, fHP, hostAt0, h1, h2]) rfl]
  rw [qSeq_next (env' := [.obj .slf (.host ⟨s.book.map kP, s.bad.map kN, .tuple (s.run.map eS), (s.rows ++ goneS s.run now).map eSS⟩), .dat (.tuple (now.map eS)), .un]) (by
    have l1 : s.rows.length + (goneS s.run now).length ≤ 16777216 := by omega
    have r1 : fLc (fIt (f1 revD (fHRun 0))) [2] (sN 2) ct_Host_settle_0 ce_Host_settle_1 [.obj .slf (.host (eHS s)), .dat (.tuple (now.map eS)), .un] = some (.list ((goneS s.run now).map eSS)) := by
      have r0 : fIt (f1 revD (fHRun 0)) [.obj .slf (.host (eHS s)), .dat (.tuple (now.map eS)), .un] = some (s.run.reverse.map eS) := by
        show (some (PyData.tuple (s.run.map eS).reverse)).bind itemsD = _
        rw [← List.map_reverse]; rfl
      unfold fLc
      rw [r0, Option.bind_some]
      show (compL _ _ _ [.obj .slf (.host (eHS s)), .dat (.tuple (now.map eS)), .un] _).map PyData.list = _
      rw [c1]; rfl
    unfold qHExt
    show (some (Hold.slf, eHS s)).bind _ = _
    rw [Option.bind_some, r1, Option.bind_some]
    show (if (s.rows.map eSS).length + ((goneS s.run now).map eSS).length ≤ sizeLine then _ else _) = _
    rw [if_pos (by rw [List.length_map, List.length_map, sizeLine_eq]; exact l1), List.map_append]; rfl) rfl]
  rw [qSeq_next (env' := [.obj .slf (.host ⟨s.book.map kP, s.bad.map kN, .tuple (s.run.map eS), (s.rows ++ goneS s.run now ++ comeS s.run now).map eSS⟩), .dat (.tuple (now.map eS)), .un]) (by
    have l1 : s.rows.length + (goneS s.run now).length + (comeS s.run now).length ≤ 16777216 := by omega
    have r1 : fLc (fIt (fV 1)) [2] (sN 2) ct_Host_settle_2 ce_Host_settle_3 [.obj .slf (.host ⟨s.book.map kP, s.bad.map kN, .tuple (s.run.map eS), (s.rows ++ goneS s.run now).map eSS⟩), .dat (.tuple (now.map eS)), .un] = some (.list ((comeS s.run now).map eSS)) := by
      unfold fLc
      show (compL _ _ _ [.obj .slf (.host ⟨s.book.map kP, s.bad.map kN, .tuple (s.run.map eS), (s.rows ++ goneS s.run now).map eSS⟩), .dat (.tuple (now.map eS)), .un] (now.map eS)).map PyData.list = _
      rw [c2]; rfl
    unfold qHExt
    show (some (Hold.slf, (⟨s.book.map kP, s.bad.map kN, .tuple (s.run.map eS), (s.rows ++ goneS s.run now).map eSS⟩ : HSt))).bind _ = _
    rw [Option.bind_some, r1, Option.bind_some]
    show (if ((s.rows ++ goneS s.run now).map eSS).length + ((comeS s.run now).map eSS).length ≤ sizeLine then _ else _) = _
    rw [if_pos (by rw [List.length_map, List.length_map, List.length_append, sizeLine_eq]; exact l1)]; simp only [List.map_append]; rfl) rfl]
  unfold settleS
  rw [hnow]
  rfl
end PD

/-! PARTHOST, THE PLAIN PART 27: the methods of a host, evaluated. -/
namespace PD
open PySem PySem.Spec PyProof.Rows L2
theorem settle_step {n : Nat} {s : HS} {h : House} (w : WH h) (hp : s.book.Perm h) (f : Few (n + 200) s) (k : Hold) (hk : k ≠ .bor) (r : Env) : qDropM (fHM 0 0 m_Host_settle fNil) (.obj k (.host (eHS s)) :: r) = some (.next (.obj k (.host (eHS (settleS h s))) :: r)) := by
  have h1 := ev_settle w hp f
  have h2 : hostMut (.obj k (.host (eHS s)) :: r) 0 = some (k, eHS s) := by cases k <;> first | rfl | exact absurd rfl hk
  unfold qDropM fHM
  rw [h2]
  show (((m_Host_settle (eHS s) []).map fun r' => (r'.1, Slot.obj k (.host r'.2) :: r)).map fun d => Res.next d.2) = _
  rw [h1]; rfl
/-- a part put in, one taken out, one mended -/
def putS (h : House) (s : HS) (p : Part) : HS := settleS h { s with book := putP s.book p, bad := less s.bad p.name }
def outS (h : House) (s : HS) (n : Str) : HS := settleS h { s with book := without s.book n, bad := less s.bad n }
def mendS (h : House) (s : HS) (n : Str) : HS := settleS h { s with bad := less s.bad n }
theorem pop2_step {s : HS} {k : Hold} (hk : k ≠ .bor) {r : Env} {n : Str} {fk : Env → Option D} (hf : fk (.obj k (.host (eHS s)) :: r) = some (.str n)) : qHPop2 0 .faulty fk (.obj k (.host (eHS s)) :: r) = some (.next (.obj k (.host (eHS { s with bad := less s.bad n })) :: r)) := by
  have h2 : hostMut (.obj k (.host (eHS s)) :: r) 0 = some (k, eHS s) := by cases k <;> first | rfl | exact absurd rfl hk
  unfold qHPop2
  rw [h2, Option.bind_some, hf, Option.bind_some]
  show some (Res.next (Slot.obj k (.host { eHS s with faulty := dropKV (s.bad.map kN) (.inr n) }) :: r)) = _
  rw [dropKV_bad]; rfl
theorem ev_put {n : Nat} {s : HS} {h : House} (w : WH h) {p : Part} (hp : (putP s.book p).Perm h) (hl : s.book.length ≤ 1000) (f : Few (n + 200) s) : m_Host_put (eHS s) [eP p] = some (.none, eHS (putS h s p)) := by
  have e : startO 2 .slf (eHS s) [eP p] = [.obj .slf (.host (eHS s)), .dat (eP p)] := rfl
  unfold m_Host_put bodyHM g_Host_put
  rw [e]
  rw [qSeq_next (env' := [.obj .slf (.host (eHS { s with book := putP s.book p })), .dat (eP p)]) (by
    unfold qHPut
    show (some (Hold.slf, eHS s)).bind _ = _
    rw [Option.bind_some]
    show (if (s.book.map kP).length < sizeLine then some (Res.next [Slot.obj .slf (.host { eHS s with parts := putKV (s.book.map kP) (.inr p.name) (eP p) }), .dat (eP p)]) else none) = _
    rw [if_pos (by rw [List.length_map, sizeLine_eq]; omega), putKV_parts]; rfl) rfl]
  rw [qSeq_next (pop2_step (k := .slf) (s := { s with book := putP s.book p }) (n := p.name) nofun rfl) rfl]
  rw [settle_step (s := { s with book := putP s.book p, bad := less s.bad p.name }) w hp ⟨f.rows, f.run⟩ .slf nofun]
  rfl
theorem ev_out {n : Nat} {s : HS} {h : House} (w : WH h) {x : Str} (hx : x ∈ s.book.map (·.name)) (hp : (without s.book x).Perm h) (f : Few (n + 200) s) : m_Host_out (eHS s) [.str x] = some (.none, eHS (outS h s x)) := by
  have e : startO 2 .slf (eHS s) [.str x] = [.obj .slf (.host (eHS s)), .dat (.str x)] := rfl
  have h1 := notIn_parts s.book x
  rw [decide_eq_true hx] at h1
  unfold m_Host_out bodyHM g_Host_out
  rw [e]
  rw [qSeq_next (env' := [.obj .slf (.host (eHS s)), .dat (.str x)]) (by
    unfold qIf
    show ((notInD (.str x) (.dict (s.book.map kP))).bind asB).bind _ = _
    rw [h1]; rfl) rfl]
  rw [qSeq_next (env' := [.obj .slf (.host (eHS { s with book := without s.book x })), .dat (.str x)]) (by
    unfold qHPop
    show (some (Hold.slf, eHS s)).bind _ = _
    rw [Option.bind_some]
    show (if (getKV (s.book.map kP) (.inr x)).isSome = true then some (Res.next [Slot.obj .slf (.host { eHS s with parts := dropKV (s.book.map kP) (.inr x) }), .dat (.str x)]) else none) = _
    rw [if_pos (by rw [getKV_parts, Option.isSome_map, partOf_some]; exact decide_eq_true hx), dropKV_parts]; rfl) rfl]
  rw [qSeq_next (pop2_step (k := .slf) (s := { s with book := without s.book x }) (n := x) nofun rfl) rfl]
  rw [settle_step (s := { s with book := without s.book x, bad := less s.bad x }) w hp ⟨f.rows, f.run⟩ .slf nofun]
  rfl
theorem ev_mend {n : Nat} {s : HS} {h : House} (w : WH h) {x : Str} (hx : x ∈ s.bad) (hp : s.book.Perm h) (f : Few (n + 200) s) : m_Host_mend (eHS s) [.str x] = some (.none, eHS (mendS h s x)) := by
  have e : startO 2 .slf (eHS s) [.str x] = [.obj .slf (.host (eHS s)), .dat (.str x)] := rfl
  have h1 := notIn_bad s.bad x
  rw [decide_eq_true hx] at h1
  unfold m_Host_mend bodyHM g_Host_mend
  rw [e]
  rw [qSeq_next (env' := [.obj .slf (.host (eHS s)), .dat (.str x)]) (by
    unfold qIf
    show ((notInD (.str x) (.dict (s.bad.map kN))).bind asB).bind _ = _
    rw [h1]; rfl) rfl]
  rw [qSeq_next (env' := [.obj .slf (.host (eHS { s with bad := less s.bad x })), .dat (.str x)]) (by
    unfold qHPop
    show (some (Hold.slf, eHS s)).bind _ = _
    rw [Option.bind_some]
    show (if (getKV (s.bad.map kN) (.inr x)).isSome = true then some (Res.next [Slot.obj .slf (.host { eHS s with faulty := dropKV (s.bad.map kN) (.inr x) }), .dat (.str x)]) else none) = _
    rw [if_pos (by rw [getKV_bad, if_pos hx]; rfl), dropKV_bad]; rfl) rfl]
  rw [settle_step (s := { s with bad := less s.bad x }) w hp ⟨f.rows, f.run⟩ .slf nofun]
  rfl
theorem ev_live (s : HS) : m_Host_live (eHS s) = some (.tuple (s.run.map eS)) := rfl
theorem ev_said (s : HS) : m_Host_said (eHS s) = some (.tuple (s.rows.map eSS)) := rfl
theorem ev_broken {s : HS} (hb : ∀ n ∈ s.bad, n.length ≤ 1000) : m_Host_broken (eHS s) = some (.tuple ((sortT eS s.bad).map eS)) := by
  have h1 := sortD_keys kN id (fun _ => rfl) s.bad hb
  rw [List.map_id] at h1
  unfold m_Host_broken bodyHP g_Host_broken
  show ((f1 tupD (f1 sortD (fHDict 0 .faulty)) (startO 1 .bor (eHS s) [])).map Res.ret).bind _ = _
  rw [f1_eq (op := tupD) (z := .tuple ((sortT eS s.bad).map eS)) (x := .list ((sortT eS s.bad).map eS)) (f1_eq (x := .dict (s.bad.map kN)) rfl h1) rfl]
  rfl
/-! ### pulling -/
theorem pullRun_name : ∀ (qs : List (Str × Int × Deed)) (w : Int) (m : Str), (pullRun qs w).2 = some m → ∃ q ∈ qs, q.1 = m
  | [], _, _, h => by cases h
  | q :: r, w, m, h => by
    unfold pullRun at h
    split at h
    · cases h
    · split at h
      · exact ⟨q, List.mem_cons_self, Option.some.inj h⟩
      · obtain ⟨q', h1, h2⟩ := pullRun_name r _ m h
        exact ⟨q', List.mem_cons_of_mem _ h1, h2⟩
theorem pulled_name {g : House} (w : WH g) {hook : Str} {x : Int} {m : Str} (h : (pulled g hook x).2 = some m) : ∃ p ∈ g, p.name = m := by
  obtain ⟨q, h1, h2⟩ := pullRun_name _ _ _ h
  have h3 := (chain_ok w hook q h1).2.2
  obtain ⟨p, hp, e⟩ := List.mem_map.mp (order_stand h3)
  exact ⟨p, stand_mem hp, e.trans h2⟩
theorem mem_sndP {h : House} {bad : List Str} {p : Part} : p ∈ sndP h bad ↔ p ∈ h ∧ p.name ∉ bad := by
  unfold sndP; rw [List.mem_filter]; simp
theorem sndP_snoc (h : House) (bad : List Str) (m : Str) : sndP h (bad ++ [m]) = without (sndP h bad) m := by
  unfold sndP without
  rw [List.filter_filter]
  refine List.filter_congr fun p _ => ?_
  by_cases e1 : p.name = m <;> by_cases e2 : p.name ∈ bad <;> simp [e1, e2]
theorem filter_lt {α : Type} {q : α → Bool} {xs : List α} {x : α} (hx : x ∈ xs) (hq : q x = false) : (xs.filter q).length < xs.length := by
  induction xs with
  | nil => cases hx
  | cons y ys ih =>
    rw [List.filter_cons]
    rcases List.mem_cons.mp hx with e | hx
    · subst e
      rw [hq, if_neg (by simp), List.length_cons]
      exact Nat.lt_succ_of_le List.filter_sublist.length_le
    · split
      · rw [List.length_cons, List.length_cons]; exact Nat.succ_lt_succ (ih hx)
      · rw [List.length_cons]; exact Nat.lt_succ_of_lt (ih hx)
theorem without_lt {g : House} {m : Str} {p : Part} (hp : p ∈ g) (e : p.name = m) : (without g m).length < g.length := filter_lt hp (by simp [e])
/-- pulled till none fails -/
def pullS (h : House) (hook : Str) (w : Int) : Nat → HS → HS
  | 0, s => s
  | k + 1, s => match (pulled (sndP h s.bad) hook w).2 with
    | none => s
    | some m => pullS h hook w k (settleS h { s with bad := s.bad ++ [m] })
theorem put_true {s : HS} {m : Str} (hm : m ∉ s.bad) (hl : s.bad.length ≤ 1000) {r : Env} {fk : Env → Option D} (hf : fk (.obj .slf (.host (eHS s)) :: r) = some (.str m)) :
    qHPut 0 .faulty fk (fC (.bool true)) (.obj .slf (.host (eHS s)) :: r) = some (.next (.obj .slf (.host (eHS { s with bad := s.bad ++ [m] })) :: r)) := by
  unfold qHPut
  show (some (Hold.slf, eHS s)).bind _ = _
  rw [Option.bind_some]
  show (some (PyData.bool true)).bind _ = _
  rw [Option.bind_some, hf, Option.bind_some]
  show (if (s.bad.map kN).length < sizeLine then some (Res.next (Slot.obj .slf (.host { eHS s with faulty := putKV (s.bad.map kN) (.inr m) (.bool true) }) :: r)) else none) = _
  rw [if_pos (by rw [List.length_map, sizeLine_eq]; omega), putKV_bad hm]; rfl
theorem pull_asg {s : HS} {h : House} (w : WH h) (hp : s.book.Perm h) (hook : Str) (x : Int) (a b : Slot) :
    qAsg (fCall m_pulled 3 (fCons (fHP 0 m_Host_sound) (fCons (fV 1) (fCons (fV 2) fNil)))) (sTup (sCons (sN 3) (sCons (sN 4) sNil))) [.obj .slf (.host (eHS s)), .dat (.str hook), .dat (.int x), a, b] =
      some (.next [.obj .slf (.host (eHS s)), .dat (.str hook), .dat (.int x), .dat (.int (pulled (sndP h s.bad) hook x).1), .dat (eO (pulled (sndP h s.bad) hook x).2)]) := by
  have h1 := ev_sound w hp
  have h2 := ev_pulled (w.snd s.bad) hook x
  have e : fCall m_pulled 3 (fCons (fHP 0 m_Host_sound) (fCons (fV 1) (fCons (fV 2) fNil))) [.obj .slf (.host (eHS s)), .dat (.str hook), .dat (.int x), a, b] = some (eR (pulled (sndP h s.bad) hook x)) := by
    simp [bodyD, startE, qSeq, qSet, qOwn, qRet, qIf, qNil, qFor, qApp, qExt, qPut, qRetOwn, qAlias, qAsg, qBrk, qCont, qDrop, qPop, fGet2, f1, f2, fV, fW, fC, fCons, fNil, fTup, fLst, fCall, fB, fAndB, fOrB, fNotB, fAndV, fOrV, fNotV, fIf, fChain, fIt, fLc, fYes, sN, sCons, sNil, wipeE, itemsH, lstH, lenH, ixP0, ixP1, ixP2, ixP3, ixP4, ixW0, ixW1, ixW2, ixW3, ixF0, ixF1, ixK0, ixK1, ixK2, ixT0, ixT1, ixT2, ixT3, ixL0, lenD_l, lenD_t, lenD_s, lstD_l, lstD_t, tupD_l, tupD_t, itemsD_l, itemsD_t, addD_i, addD_s, addD_t, subD_i, catD_l, intD_i, intD_b, isND_n, notND_n, isNone_n, isNone_s, isNone_i, isNone_b, isNone_l, isNone_t, isNone_p, isNone_o, modD_i, fdivD_i, timesD_t, min2_i, max2_i, negD_i, asB_b, Option.bind_some, Option.map_some, List.map_cons, List.map_nil, List.length_cons, List.length_nil, List.replicate, List.append_nil, List.getElem?_cons_zero, List.getElem?_cons_succ, eqD_O, neD_O, eqD_int, neD_int, eqD_str, neD_str, ltD_int, gtD_int, leD_int, geD_int, sizeLine_eq, List.set_cons_zero, List.set_cons_succ, seqD_l, seqD_t, sTup_t, fHP, hostAt0, h1, h2]
  unfold qAsg
  rw [e]; rfl
theorem bad_len {h : House} {s : HS} (hb : ∀ n ∈ s.bad, n ∈ h.map (·.name)) (nd : s.bad.Nodup) (w : WH h) : s.bad.length ≤ 100 := by
  have := nodup_len s.bad (h.map (·.name)) nd hb
  rw [List.length_map] at this
  have := w.len
  omega
/-- the broken ones are of the house -/
structure Bad (h : House) (s : HS) : Prop where
  of : ∀ n ∈ s.bad, n ∈ h.map (·.name)
  nd : s.bad.Nodup
theorem Bad.snoc {h : House} {s : HS} (b : Bad h s) (w : WH h) {hook : Str} {x : Int} {m : Str} (hm : (pulled (sndP h s.bad) hook x).2 = some m) : m ∉ s.bad ∧ Bad h (settleS h { s with bad := s.bad ++ [m] }) ∧ (sndP h (s.bad ++ [m])).length < (sndP h s.bad).length := by
  obtain ⟨p, hp, e⟩ := pulled_name (w.snd s.bad) hm
  have hb := (mem_sndP.mp hp).2
  rw [e] at hb
  refine ⟨hb, ⟨fun n hn => ?_, ?_⟩, by rw [sndP_snoc]; exact without_lt hp e⟩
  · rcases List.mem_append.mp hn with h1 | h1
    · exact b.of n h1
    · rw [List.mem_singleton.mp h1, ← e]; exact List.mem_map.mpr ⟨p, (mem_sndP.mp hp).1, rfl⟩
  · exact List.nodup_append.mpr ⟨b.nd, by simp, fun a ha c hc e2 => by rw [List.mem_singleton.mp hc] at e2; exact hb (e2 ▸ ha)⟩
theorem ev_pull_loop {h : House} (w : WH h) (hook : Str) (x : Int) {n : Nat} : ∀ (k m : Nat) (s : HS), (sndP h s.bad).length ≤ k → k < m → s.book.Perm h → Bad h s → Few (n + 200 * k) s →
    whileS lc_Host_pull_0 lb_Host_pull_1 m [.obj .slf (.host (eHS s)), .dat (.str hook), .dat (.int x), .dat (.int (pulled (sndP h s.bad) hook x).1), .dat (eO (pulled (sndP h s.bad) hook x).2)] =
      some (.next [.obj .slf (.host (eHS (pullS h hook x k s))), .dat (.str hook), .dat (.int x), .dat (.int (pulled (sndP h (pullS h hook x k s).bad) hook x).1), .dat .none]) ∧
    (pulled (sndP h (pullS h hook x k s).bad) hook x).2 = none ∧ Bad h (pullS h hook x k s) ∧ (pullS h hook x k s).book = s.book ∧ Few n (pullS h hook x k s)
  | k, 0, s, _, hm, _, _, _ => by omega
  | k, m + 1, s, hk, hm, hp, hb, f => by
    cases hn : (pulled (sndP h s.bad) hook x).2 with
    | none =>
      have e : pullS h hook x k s = s := by cases k with
        | zero => rfl
        | succ k => show (match (pulled (sndP h s.bad) hook x).2 with | none => s | some m => pullS h hook x k (settleS h { s with bad := s.bad ++ [m] })) = s; rw [hn]
      rw [e, hn]
      exact ⟨rfl, rfl, hb, rfl, ⟨by have := f.rows; omega, f.run⟩⟩
    | some y =>
      obtain ⟨h1, h2, h3⟩ := hb.snoc w hn
      cases k with
      | zero => omega
      | succ k =>
        have e : pullS h hook x (k + 1) s = pullS h hook x k (settleS h { s with bad := s.bad ++ [y] }) := by
          show (match (pulled (sndP h s.bad) hook x).2 with | none => s | some m => pullS h hook x k (settleS h { s with bad := s.bad ++ [m] })) = _
          rw [hn]
        have f' : Few (n + 200 * k + 200) { s with bad := s.bad ++ [y] } := ⟨by have := f.rows; show s.rows.length + _ ≤ _; omega, f.run⟩
        obtain ⟨k1, k2, k3, k4, k5⟩ := ev_pull_loop w hook x (n := n) k m (settleS h { s with bad := s.bad ++ [y] }) (by show (sndP h (s.bad ++ [y])).length ≤ k; omega) (by omega) hp h2 (f'.settle w)
        rw [e]
        refine ⟨?_, k2, k3, k4, k5⟩
        have b1 : lb_Host_pull_1 [.obj .slf (.host (eHS s)), .dat (.str hook), .dat (.int x), .dat (.int (pulled (sndP h s.bad) hook x).1), .dat (.str y)] = some (.next [.obj .slf (.host (eHS (settleS h { s with bad := s.bad ++ [y] }))), .dat (.str hook), .dat (.int x),
            .dat (.int (pulled (sndP h (settleS h { s with bad := s.bad ++ [y] }).bad) hook x).1), .dat (eO (pulled (sndP h (settleS h { s with bad := s.bad ++ [y] }).bad) hook x).2)]) := by
          unfold lb_Host_pull_1
          rw [qSeq_next (put_true h1 (by have := bad_len hb.of hb.nd w; omega) rfl) rfl]
          rw [qSeq_next (settle_step (s := { s with bad := s.bad ++ [y] }) w hp f' .slf nofun _) rfl]
          exact pull_asg (s := settleS h { s with bad := s.bad ++ [y] }) w hp hook x _ _
        show (lc_Host_pull_0 _).bind _ = _
        rw [show lc_Host_pull_0 [.obj .slf (.host (eHS s)), .dat (.str hook), .dat (.int x), .dat (.int (pulled (sndP h s.bad) hook x).1), .dat (eO (some y))] = some true from rfl, Option.bind_some, if_pos rfl]
        rw [show eO (some y) = .str y from rfl, b1]
        exact k1
def pullH (h : House) (hook : Str) (x : Int) (s : HS) : HS := pullS h hook x h.length s
theorem ev_pull {n : Nat} {s : HS} {h : House} (w : WH h) (hp : s.book.Perm h) (hb : Bad h s) (f : Few (n + 20000) s) (hook : Str) (x : Int) :
    m_Host_pull (eHS s) [.str hook, .int x] = some (.int (pulled (sndP h (pullH h hook x s).bad) hook x).1, eHS (pullH h hook x s)) ∧ (pulled (sndP h (pullH h hook x s).bad) hook x).2 = none ∧ Bad h (pullH h hook x s) ∧ (pullH h hook x s).book = s.book ∧ Few n (pullH h hook x s) := by
  have hl := w.len
  have hsl : (sndP h s.bad).length ≤ h.length := List.filter_sublist.length_le
  obtain ⟨k1, k2⟩ := ev_pull_loop w hook x (n := n) h.length 100000 s hsl (by omega) hp hb ⟨by have := f.rows; omega, f.run⟩
  refine ⟨?_, k2⟩
  have e : startO 5 .slf (eHS s) [.str hook, .int x] = [.obj .slf (.host (eHS s)), .dat (.str hook), .dat (.int x), .un, .un] := rfl
  unfold m_Host_pull bodyHR g_Host_pull
  rw [e]
  rw [qSeq_next (pull_asg w hp hook x .un .un) rfl, qSeq_next k1 rfl]
  rfl
end PD

/-! PARTHOST, THE PLAIN PART 28: hosts in a law's slots; a host filled. -/
namespace PD
open PySem PySem.Spec PyProof.Rows L2
theorem hAt {env : Env} {i : Nat} {k : Hold} {t : HSt} (a : env[i]? = some (.obj k (.host t))) : hostAt env i = some t := by unfold hostAt obAt; rw [a]; rfl
theorem hMut {env : Env} {i : Nat} {t : HSt} (a : env[i]? = some (.obj .new (.host t))) : hostMut env i = some (.new, t) := by unfold hostMut; rw [a]
theorem fHP_eq {env : Env} {i : Nat} {k : Hold} {t : HSt} {m : HSt → Option D} {d : D} (a : env[i]? = some (.obj k (.host t))) (e : m t = some d) : fHP i m env = some d := by unfold fHP; rw [hAt a, Option.bind_some, e]
theorem fHM_eq {env : Env} {i n : Nat} {t t' : HSt} {m : HSt → List D → Option (D × HSt)} {fa : Env → Option (List D)} {ds : List D} {d : D} (a : env[i]? = some (.obj .new (.host t))) (e : fa env = some ds) (hl : ds.length = n) (h : m t ds = some (d, t')) :
    fHM i n m fa env = some (d, env.set i (.obj .new (.host t'))) := by
  unfold fHM
  rw [hMut a, Option.bind_some, e, Option.bind_some, if_pos hl]
  show (m t ds).map _ = _
  rw [h]; rfl
theorem drop_eq {env : Env} {i n : Nat} {t t' : HSt} {m : HSt → List D → Option (D × HSt)} {fa : Env → Option (List D)} {ds : List D} {d : D} (a : env[i]? = some (.obj .new (.host t))) (e : fa env = some ds) (hl : ds.length = n) (h : m t ds = some (d, t')) :
    qDropM (fHM i n m fa) env = some (.next (env.set i (.obj .new (.host t')))) := by
  unfold qDropM
  rw [fHM_eq a e hl h]; rfl
theorem obj_eq {env : Env} {i : Nat} : qObj i fNew env = some (.next (env.set i (.obj .new (.host (eHS ⟨[], [], [], []⟩))))) := rfl
theorem one_arg {f : Env → Option D} {env : Env} {d : D} (e : f env = some d) : fCons f fNil env = some [d] := by unfold fCons fNil; rw [e]; rfl
theorem call1_eq {m : List D → Option D} {f : Env → Option D} {env : Env} {d r : D} (e : f env = some d) (h : m [d] = some r) : fCall m 1 (fCons f fNil) env = some r := by
  unfold fCall; rw [one_arg e, Option.bind_some, if_pos (by rfl)]; exact h
/-- loops that use something up -/
theorem loop_res {α : Type} (e : α → D) {t : D → Env → Option Env} {g : Env → Option Res} (c : Nat) (Good : Nat → Env → Prop) : ∀ (xs : List α), (∀ x ∈ xs, ∀ n env, Good (n + c) env → ∃ env1, t (e x) env = some env1 ∧ ∃ env2, g env1 = some (.next env2) ∧ Good n env2) →
    ∀ n env, Good (n + c * xs.length) env → ∃ env', loopS t g (xs.map e) env = some (.next env') ∧ Good n env'
  | [], _, n, env, hg => ⟨env, rfl, hg⟩
  | x :: xs, h, n, env, hg => by
    rw [List.length_cons, Nat.mul_succ, ← Nat.add_assoc] at hg
    obtain ⟨env1, h1, env2, h2, h3⟩ := h x List.mem_cons_self (n + c * xs.length) env hg
    obtain ⟨env', h4, h5⟩ := loop_res e c Good xs (fun y hy => h y (List.mem_cons_of_mem _ hy)) n env2 h3
    exact ⟨env', by rw [List.map_cons, loopS, h1, Option.bind_some, h2, Option.bind_some]; exact h4, h5⟩
theorem for_res {α : Type} (e : α → D) {f : Env → Option (List D)} {t : D → Env → Option Env} {g : Env → Option Res} (c : Nat) (Good : Nat → Env → Prop) (xs : List α) {n : Nat} {env : Env} (hf : f env = some (xs.map e)) (he : Good (n + c * xs.length) env)
    (h : ∀ x ∈ xs, ∀ n env, Good (n + c) env → ∃ env1, t (e x) env = some env1 ∧ ∃ env2, g env1 = some (.next env2) ∧ Good n env2) : ∃ env', qFor f t g env = some (.next env') ∧ Good n env' := by
  obtain ⟨env', k1, k2⟩ := loop_res e c Good xs h n env he
  refine ⟨env', ?_, k2⟩
  show (f env).bind _ = _
  rw [hf]; exact k1
/-- the host holds the house, nothing broken, what runs is what the order tells -/
structure Whole (h : House) (n : Nat) (s : HS) : Prop where
  book : s.book.Perm h
  bad : s.bad = []
  run : s.run = order h
  few : Few n s
theorem sndP_nil (h : House) : sndP h [] = h := by unfold sndP; exact List.filter_eq_self.mpr fun p _ => by simp
theorem without_none {b : House} {n : Str} (h : n ∉ b.map (·.name)) : without b n = b := by
  unfold without
  exact List.filter_eq_self.mpr fun p hp => by
    have : p.name ≠ n := fun e => h (e ▸ List.mem_map.mpr ⟨p, hp, rfl⟩)
    simp [this]
theorem putP_new {b : House} {p : Part} (h : p.name ∉ b.map (·.name)) : putP b p = b ++ [p] := by unfold putP; rw [if_neg h]
theorem Few.mono {n m : Nat} {s : HS} (f : Few n s) (h : m ≤ n) : Few m s := ⟨by have := f.rows; omega, f.run⟩
theorem Whole.put {g h : House} {n : Nat} {s : HS} {p : Part} (x : Whole g (n + 200) s) (w : WH h) (hp : (putP s.book p).Perm h) : Whole h n (putS h s p) ∧ (putS h s p).rows = s.rows ++ goneS (order g) (order h) ++ comeS (order g) (order h) := by
  have hb : less s.bad p.name = [] := by rw [x.bad]; rfl
  refine ⟨⟨hp, hb, ?_, Few.settle w ⟨x.few.rows, x.few.run⟩⟩, ?_⟩
  · show order (sndP h (less s.bad p.name)) = order h
    rw [hb, sndP_nil]
  · show s.rows ++ goneS s.run (order (sndP h (less s.bad p.name))) ++ comeS s.run (order (sndP h (less s.bad p.name))) = _
    rw [hb, sndP_nil, x.run]
theorem Whole.out {g h : House} {n : Nat} {s : HS} {y : Str} (x : Whole g (n + 200) s) (w : WH h) (hp : (without s.book y).Perm h) : Whole h n (outS h s y) ∧ (outS h s y).rows = s.rows ++ goneS (order g) (order h) ++ comeS (order g) (order h) := by
  have hb : less s.bad y = [] := by rw [x.bad]; rfl
  refine ⟨⟨hp, hb, ?_, Few.settle w ⟨x.few.rows, x.few.run⟩⟩, ?_⟩
  · show order (sndP h (less s.bad y)) = order h
    rw [hb, sndP_nil]
  · show s.rows ++ goneS s.run (order (sndP h (less s.bad y))) ++ comeS s.run (order (sndP h (less s.bad y))) = _
    rw [hb, sndP_nil, x.run]
theorem WH.nil : WH [] := ⟨Nat.zero_le _, nofun, List.Pairwise.nil⟩
theorem order_nil : order [] = [] := by
  cases h : order [] with
  | nil => rfl
  | cons y r =>
    have : y ∈ order [] := by rw [h]; exact List.mem_cons_self
    obtain ⟨p, hp, _⟩ := List.mem_map.mp (order_stand this)
    exact absurd (stand_mem hp) List.not_mem_nil
theorem whole_new (n : Nat) (hn : n ≤ 1000000) : Whole [] n ⟨[], [], [], []⟩ := ⟨List.Perm.nil, rfl, order_nil.symm, ⟨by show 0 + n ≤ _; omega, Nat.zero_le _⟩⟩
/-- for part in house: host.put(part) -/
theorem fill_loop {i j : Nat} (hij : i ≠ j) {h : House} (w : WH h) {n : Nat} : ∀ (r l : House) (s : HS) (env : Env), l ++ r = h → Whole l (n + 200 * r.length) s → env[i]? = some (.obj .new (.host (eHS s))) → j < env.length →
    ∃ env' s', loopS (sN j) (qDropM (fHM i 1 m_Host_put (fCons (fV j) fNil))) (r.map eP) env = some (.next env') ∧ Whole h n s' ∧ env'[i]? = some (.obj .new (.host (eHS s'))) ∧ env'.length = env.length ∧ ∀ k, k ≠ i → k ≠ j → env'[k]? = env[k]?
  | [], l, s, env, e, x, a, hj => by
    rw [List.append_nil] at e
    subst e
    exact ⟨env, s, rfl, x, a, rfl, fun _ _ _ => rfl⟩
  | p :: r, l, s, env, e, x, a, hj => by
    rw [List.length_cons, Nat.mul_succ, ← Nat.add_assoc] at x
    have e' : (l ++ [p]) ++ r = h := by rw [List.append_assoc]; exact e
    have wl : WH (l ++ [p]) := w.sub (by rw [← e']; exact List.sublist_append_left _ _)
    have hn : p.name ∉ l.map (·.name) := by
      have := wl.nd
      rw [List.map_append, List.nodup_append] at this
      exact fun hm => this.2.2 _ hm _ List.mem_cons_self rfl
    have hn' : p.name ∉ s.book.map (·.name) := fun hm => hn ((x.book.map _).mem_iff.mp hm)
    have hp : (putP s.book p).Perm (l ++ [p]) := by rw [putP_new hn']; exact x.book.append_right [p]
    have hlen : s.book.length ≤ 1000 := by
      have := x.book.length_eq
      have := wl.len
      rw [List.length_append] at this
      omega
    have h1 := ev_put wl hp hlen x.few
    obtain ⟨x', _⟩ := x.put wl hp
    have a1 : (env.set j (.dat (eP p)))[i]? = some (.obj .new (.host (eHS s))) := by rw [List.getElem?_set_ne (Ne.symm hij)]; exact a
    have a2 : fV j (env.set j (.dat (eP p))) = some (eP p) := by unfold fV; rw [List.getElem?_set_self hj]
    have st := drop_eq (n := 1) a1 (one_arg a2) rfl h1
    obtain ⟨env', s', k1, k2, k3, k4, k5⟩ := fill_loop hij w (n := n) r (l ++ [p]) (putS (l ++ [p]) s p) ((env.set j (.dat (eP p))).set i (.obj .new (.host (eHS (putS (l ++ [p]) s p))))) e' x'
      (by rw [List.getElem?_set_self]; rw [List.length_set]; exact (List.getElem?_eq_some_iff.mp a).1) (by rw [List.length_set, List.length_set]; exact hj)
    refine ⟨env', s', ?_, k2, k3, by rw [k4, List.length_set, List.length_set], fun k h1 h2 => by rw [k5 k h1 h2, List.getElem?_set_ne (Ne.symm h1), List.getElem?_set_ne (Ne.symm h2)]⟩
    show (sN j (eP p) env).bind _ = _
    rw [show sN j (eP p) env = some (env.set j (.dat (eP p))) from rfl, Option.bind_some, st, Option.bind_some]
    exact k1
theorem fill_eq {i j : Nat} (hij : i ≠ j) {h : House} (w : WH h) (h7 : h.length ≤ 7) {n : Nat} (hn : n ≤ 900000) {f : Env → Option (List D)} {env : Env} (hf : f env = some (h.map eP)) (a : env[i]? = some (.obj .new (.host (eHS ⟨[], [], [], []⟩)))) (hj : j < env.length) :
    ∃ env' s', qFor f (sN j) (qDropM (fHM i 1 m_Host_put (fCons (fV j) fNil))) env = some (.next env') ∧ Whole h n s' ∧ env'[i]? = some (.obj .new (.host (eHS s'))) ∧ env'.length = env.length ∧ ∀ k, k ≠ i → k ≠ j → env'[k]? = env[k]? := by
  obtain ⟨env', s', k1, k2⟩ := fill_loop hij w (n := n) h [] _ env rfl (whole_new _ (by omega)) a hj
  refine ⟨env', s', ?_, k2⟩
  show (f env).bind _ = _
  rw [hf]; exact k1
theorem neD_SS (xs ys : List (Str × Str)) : neD (.list (xs.map eSS)) (.list (ys.map eSS)) = some (.bool (!decide (xs = ys))) :=
  neD_of (plain_lst eSS plain_eSS xs) (plain_lst eSS plain_eSS ys) (Nat.le_trans (depth_lst eSS 1 depth_eSS xs) (by omega)) (eqv_lst eSS eqv_eSS xs ys)
theorem neD_HH (xs ys : House) : neD (eH xs) (eH ys) = some (.bool (!decide (xs = ys))) :=
  neD_of (plain_tup eP plain_eP xs) (plain_tup eP plain_eP ys) (Nat.le_trans (depth_tup eP 4 depth_eP xs) (by omega)) (eqv_tup eP eqv_eP xs ys)
theorem neD_PP (p q : Part) : neD (eP p) (eP q) = some (.bool (!decide (p = q))) := neD_of (plain_eP p) (plain_eP q) (Nat.le_trans (depth_eP p) (by omega)) (eqv_eP p q)
theorem others_without {h : House} (w : WH h) {p : Part} (hp : p ∈ h) : h.filter (fun q => !decide (q = p)) = without h p.name := by
  unfold without
  refine List.filter_congr fun q hq => ?_
  by_cases e : q = p
  · rw [decide_eq_true e, decide_eq_true (by rw [e])]
  · rw [decide_eq_false e, decide_eq_false fun z => e (name_inj w.nd hq hp z)]
theorem catD_SS (xs ys : List (Str × Str)) (hl : xs.length + ys.length ≤ 1000000) : catD (.list (xs.map eSS)) (.list (ys.map eSS)) = some (.list ((xs ++ ys).map eSS)) := by
  rw [catD_l, if_pos (by rw [List.length_map, List.length_map, sizeLine_eq]; omega), List.map_append]
theorem said_from {f g : Env → Option D} {env : Env} {rows : List (Str × Str)} {n : Nat} (e1 : f env = some (.tuple (rows.map eSS))) (e2 : g env = some (.int (n : Int))) : f1 lstD' (fSl f (partD g) noPart) env = some (.list ((rows.drop n).map eSS)) := by
  refine f1_eq (x := .tuple ((rows.drop n).map eSS)) (fSl_eq e1 (partD_eq e2) rfl ?_) rfl
  rw [sl_t, cutL_map, cutL_from _ _ (by omega)]; rfl
end PD

/-! PARTHOST, THE PLAIN PART 29: hosts some of whose parts are broken. -/
namespace PD
open PySem PySem.Spec PyProof.Rows L2
/-- the host holds the house h, b are broken, what runs is what the order of the others tells -/
structure Held (h : House) (b : List Str) (n : Nat) (s : HS) : Prop where
  book : s.book.Perm h
  bad : s.bad = b
  of : ∀ x ∈ b, x ∈ h.map (·.name)
  nd : b.Nodup
  run : s.run = order (sndP h b)
  few : Few n s
theorem Whole.held {h : House} {n : Nat} {s : HS} (x : Whole h n s) : Held h [] n s := ⟨x.book, x.bad, nofun, List.nodup_nil, by rw [x.run, sndP_nil], x.few⟩
theorem Held.whole {h : House} {n : Nat} {s : HS} (x : Held h [] n s) : Whole h n s := ⟨x.book, x.bad, by rw [x.run, sndP_nil], x.few⟩
theorem Held.mono {h : House} {b : List Str} {n m : Nat} {s : HS} (x : Held h b n s) (hm : m ≤ n) : Held h b m s := ⟨x.book, x.bad, x.of, x.nd, x.run, x.few.mono hm⟩
/-- the one that fails is broken too -/
def stepG (h : House) (hook : Str) (w : Int) (b : List Str) : List Str := match (pulled (sndP h b) hook w).2 with
  | none => b
  | some m => b ++ [m]
def pullG (h : House) (hook : Str) (w : Int) : Nat → List Str → List Str
  | 0, b => b
  | k + 1, b => pullG h hook w k (stepG h hook w b)
section
variable {h : House} {hook : Str} {w : Int}
theorem stepG_none {b : List Str} (e : (pulled (sndP h b) hook w).2 = none) : stepG h hook w b = b := by unfold stepG; rw [e]
theorem stepG_some {b : List Str} {m : Str} (e : (pulled (sndP h b) hook w).2 = some m) : stepG h hook w b = b ++ [m] := by unfold stepG; rw [e]
theorem pullG_none {b : List Str} (e : (pulled (sndP h b) hook w).2 = none) : ∀ k, pullG h hook w k b = b
  | 0 => rfl
  | k + 1 => by rw [pullG, stepG_none e, pullG_none e k]
theorem pullG_add : ∀ (j k : Nat) (b : List Str), pullG h hook w (j + k) b = pullG h hook w k (pullG h hook w j b)
  | 0, k, b => by rw [Nat.zero_add]; rfl
  | j + 1, k, b => by rw [Nat.succ_add, pullG, pullG, pullG_add j k]
theorem pullS_bad : ∀ (k : Nat) (s : HS), (pullS h hook w k s).bad = pullG h hook w k s.bad
  | 0, s => rfl
  | k + 1, s => by
    cases e : (pulled (sndP h s.bad) hook w).2 with
    | none => rw [pullG_none e]; show (match (pulled (sndP h s.bad) hook w).2 with | none => s | some m => pullS h hook w k (settleS h { s with bad := s.bad ++ [m] })).bad = _; rw [e]
    | some m =>
      rw [pullG, stepG_some e]
      show (match (pulled (sndP h s.bad) hook w).2 with | none => s | some m => pullS h hook w k (settleS h { s with bad := s.bad ++ [m] })).bad = _
      rw [e]
      exact pullS_bad k (settleS h { s with bad := s.bad ++ [m] })
theorem pullS_run : ∀ (k : Nat) (s : HS), s.run = order (sndP h s.bad) → (pullS h hook w k s).run = order (sndP h (pullS h hook w k s).bad)
  | 0, s, r => r
  | k + 1, s, r => by
    cases e : (pulled (sndP h s.bad) hook w).2 with
    | none => rw [show pullS h hook w (k + 1) s = s from by show (match (pulled (sndP h s.bad) hook w).2 with | none => s | some m => pullS h hook w k (settleS h { s with bad := s.bad ++ [m] })) = _; rw [e]]; exact r
    | some m =>
      rw [show pullS h hook w (k + 1) s = pullS h hook w k (settleS h { s with bad := s.bad ++ [m] }) from by show (match (pulled (sndP h s.bad) hook w).2 with | none => s | some m => pullS h hook w k (settleS h { s with bad := s.bad ++ [m] })) = _; rw [e]]
      exact pullS_run k _ rfl
end
theorem Held.bd {h : House} {b : List Str} {n : Nat} {s : HS} (x : Held h b n s) : Bad h s := ⟨by rw [x.bad]; exact x.of, by rw [x.bad]; exact x.nd⟩
theorem Held.pull {h : House} {b : List Str} {n : Nat} {s : HS} (x : Held h b (n + 20000) s) (w : WH h) (hook : Str) (a : Int) :
    m_Host_pull (eHS s) [.str hook, .int a] = some (.int (pulled (sndP h (pullG h hook a h.length b)) hook a).1, eHS (pullH h hook a s)) ∧ (pulled (sndP h (pullG h hook a h.length b)) hook a).2 = none ∧ Held h (pullG h hook a h.length b) n (pullH h hook a s) := by
  obtain ⟨k1, k2, k3, k4, k5⟩ := ev_pull w x.book x.bd x.few hook a
  have e : (pullH h hook a s).bad = pullG h hook a h.length b := by unfold pullH; rw [pullS_bad, x.bad]
  rw [e] at k1 k2
  refine ⟨k1, k2, by rw [k4]; exact x.book, e, by rw [← e]; exact k3.of, by rw [← e]; exact k3.nd, ?_, k5⟩
  rw [← e]
  exact pullS_run _ _ (by rw [x.run, x.bad])
theorem less_last {b : List Str} {y : Str} (nd : (b ++ [y]).Nodup) : less (b ++ [y]) y = b := by
  have hn : y ∉ b := fun hy => (List.nodup_append.mp nd).2.2 y hy y List.mem_cons_self rfl
  unfold less
  rw [List.filter_append]
  have e1 : b.filter (fun m => !decide (m = y)) = b := List.filter_eq_self.mpr fun m hm => by
    have : m ≠ y := fun e => hn (e ▸ hm)
    simp [this]
  rw [e1]; simp
theorem Held.mend {h : House} {b : List Str} {y : Str} {n : Nat} {s : HS} (x : Held h (b ++ [y]) (n + 200) s) (w : WH h) : m_Host_mend (eHS s) [.str y] = some (.none, eHS (mendS h s y)) ∧ Held h b n (mendS h s y) := by
  have e : less s.bad y = b := by rw [x.bad]; exact less_last x.nd
  refine ⟨ev_mend w (by rw [x.bad]; simp) x.book x.few, x.book, e, fun z hz => x.of z (by simp [hz]), (List.nodup_append.mp x.nd).1, ?_, Few.settle w ⟨x.few.rows, x.few.run⟩⟩
  show order (sndP h (less s.bad y)) = _
  rw [e]
theorem Held.broken {h : House} {b : List Str} {n : Nat} {s : HS} (x : Held h b n s) (w : WH h) : m_Host_broken (eHS s) = some (.tuple ((sortT eS b).map eS)) := by
  rw [ev_broken fun m hm => ?_, x.bad]
  rw [x.bad] at hm
  obtain ⟨p, hp, e⟩ := List.mem_map.mp (x.of m hm)
  rw [← e]; exact (w.parts p hp).nlen
theorem Held.few_bad {h : House} {b : List Str} {n : Nat} {s : HS} (x : Held h b n s) (w : WH h) : b.length ≤ 100 := by
  have := bad_len x.bd.of x.bd.nd w
  rw [x.bad] at this
  exact this
theorem call_eq {m : List D → Option D} {n : Nat} {fa : Env → Option (List D)} {env : Env} {ds : List D} {r : D} (e : fa env = some ds) (hl : ds.length = n) (h : m ds = some r) : fCall m n fa env = some r := by
  unfold fCall; rw [e, Option.bind_some, if_pos hl]; exact h
/-- logic of tests -/
theorem orF {f g : Env → Option Bool} {env : Env} (e1 : f env = some false) (e2 : g env = some false) : fOrB f g env = some false := by unfold fOrB; rw [e1, Option.bind_some, if_neg (by simp), e2]
theorem bF {f : Env → Option D} {env : Env} {b : Bool} (e : f env = some (.bool b)) : fB f env = some b := by unfold fB; rw [e]; rfl
theorem ifF {c : Env → Option Bool} {g : Env → Option Res} {env : Env} (e : c env = some false) : qIf c g qNil env = some (.next env) := by unfold qIf; rw [e, Option.bind_some, if_neg (by simp)]; rfl
theorem ifT {c : Env → Option Bool} {g g' : Env → Option Res} {env : Env} (e : c env = some true) : qIf c g g' env = g env := by unfold qIf; rw [e, Option.bind_some, if_pos rfl]
theorem fV_eq {i : Nat} {env : Env} {d : D} (a : env[i]? = some (.dat d)) : fV i env = some d := by unfold fV; rw [a]
theorem fW_own {i : Nat} {env : Env} {d : D} (a : env[i]? = some (.own d)) : fW i env = some d := by unfold fW; rw [a]
theorem fW_dat {i : Nat} {env : Env} {d : D} (a : env[i]? = some (.dat d)) : fW i env = some d := by unfold fW; rw [a]
theorem nd_HH (h : House) : neD (eH h) (eH h) = some (.bool false) := by rw [neD_HH, decide_eq_true rfl]; rfl
theorem nd_tS (xs : List Str) : neD (.tuple (xs.map eS)) (.tuple (xs.map eS)) = some (.bool false) := by rw [neD_tupS, decide_eq_true rfl]; rfl
theorem nd_lS (xs : List Str) : neD (.list (xs.map eS)) (.list (xs.map eS)) = some (.bool false) := by rw [neD_lstS, decide_eq_true rfl]; rfl
theorem nd_lSS (xs : List (Str × Str)) : neD (.list (xs.map eSS)) (.list (xs.map eSS)) = some (.bool false) := by rw [neD_SS, decide_eq_true rfl]; rfl
end PD

/-! PARTHOST, THE PLAIN PART 30: what was said tells who is live; parts put in, taken out, mended while others are broken. -/
namespace PD
open PySem PySem.Spec PyProof.Rows L2
/-- who is live by what was said -/
def tell : List (Str × Str) → List Str → Option (List Str)
  | [], f => some f
  | x :: r, f => if (x.1 = "in" ∧ x.2 ∈ f) ∨ (x.1 = "out" ∧ x.2 ∉ f) then none else tell r (less f x.2 ++ (if x.1 = "in" then [x.2] else []))
theorem tell_app : ∀ (xs ys : List (Str × Str)) (f : List Str), tell (xs ++ ys) f = (tell xs f).bind (tell ys)
  | [], ys, f => rfl
  | x :: xs, ys, f => by
    rw [List.cons_append, tell, tell]
    split
    · rfl
    · exact tell_app xs ys _
theorem out_in : ("out" : Str) ≠ "in" := by decide +kernel
theorem mem_less {f : List Str} {n x : Str} : x ∈ less f n ↔ x ∈ f ∧ x ≠ n := by unfold less; simp
theorem tell_gone : ∀ (ns f : List Str), ns.Nodup → (∀ n ∈ ns, n ∈ f) → f.Nodup → ∃ l, tell (ns.map fun n => ("out", n)) f = some l ∧ l.Nodup ∧ ∀ x, x ∈ l ↔ x ∈ f ∧ x ∉ ns
  | [], f, _, _, nd => ⟨f, rfl, nd, fun x => by simp⟩
  | n :: ns, f, hn, hf, nd => by
    rw [List.nodup_cons] at hn
    rw [List.map_cons, tell, if_neg (by
      rintro (⟨h, _⟩ | ⟨_, h⟩)
      · exact out_in h
      · exact h (hf n List.mem_cons_self))]
    dsimp only
    rw [if_neg out_in, List.append_nil]
    obtain ⟨l, h1, h2, h3⟩ := tell_gone ns (less f n) hn.2 (fun m hm => mem_less.mpr ⟨hf m (List.mem_cons_of_mem _ hm), fun e => hn.1 (e ▸ hm)⟩) (nd.filter _)
    refine ⟨l, h1, h2, fun x => ?_⟩
    rw [h3, mem_less, List.mem_cons, not_or]
    exact ⟨fun ⟨⟨a, b⟩, c⟩ => ⟨a, b, c⟩, fun ⟨a, b, c⟩ => ⟨⟨a, b⟩, c⟩⟩
theorem tell_come : ∀ (ns f : List Str), ns.Nodup → (∀ n ∈ ns, n ∉ f) → f.Nodup → ∃ l, tell (ns.map fun n => ("in", n)) f = some l ∧ l.Nodup ∧ ∀ x, x ∈ l ↔ x ∈ f ∨ x ∈ ns
  | [], f, _, _, nd => ⟨f, rfl, nd, fun x => by simp⟩
  | n :: ns, f, hn, hf, nd => by
    rw [List.nodup_cons] at hn
    have hnf := hf n List.mem_cons_self
    rw [List.map_cons, tell, if_neg (by
      rintro (⟨_, h⟩ | ⟨h, _⟩)
      · exact hnf h
      · exact out_in h.symm)]
    dsimp only
    rw [if_pos rfl]
    have el : less f n = f := List.filter_eq_self.mpr fun m hm => by
      have : m ≠ n := fun e => hnf (e ▸ hm)
      simp [this]
    rw [el]
    obtain ⟨l, h1, h2, h3⟩ := tell_come ns (f ++ [n]) hn.2 (fun m hm hf' => by
      rcases List.mem_append.mp hf' with h | h
      · exact hf m (List.mem_cons_of_mem _ hm) h
      · rw [List.mem_singleton.mp h] at hm; exact hn.1 hm) (List.nodup_append.mpr ⟨nd, by simp, fun a ha b hb e => by rw [List.mem_singleton.mp hb] at e; exact hnf (e ▸ ha)⟩)
    refine ⟨l, h1, h2, fun x => ?_⟩
    rw [h3, List.mem_append, List.mem_singleton, List.mem_cons, or_assoc]
/-- what was said tells what runs -/
structure Tells (s : HS) : Prop where
  nd : s.run.Nodup
  told : ∃ l, tell s.rows [] = some l ∧ l.Nodup ∧ ∀ x, x ∈ l ↔ x ∈ s.run
theorem Tells.settle {h : House} {s t : HS} (x : Tells s) (e1 : t.run = s.run) (e2 : t.rows = s.rows) : Tells (settleS h t) := by
  have ndn : (order (sndP h t.bad)).Nodup := orderB_nd _
  refine ⟨ndn, ?_⟩
  obtain ⟨l, h1, h2, h3⟩ := x.told
  show ∃ l, tell (t.rows ++ goneS t.run (order (sndP h t.bad)) ++ comeS t.run (order (sndP h t.bad))) [] = some l ∧ l.Nodup ∧ ∀ x, x ∈ l ↔ x ∈ order (sndP h t.bad)
  rw [e1, e2]
  generalize order (sndP h t.bad) = now at *
  rw [tell_app, tell_app, h1, Option.bind_some]
  obtain ⟨l2, k1, k2, k3⟩ := tell_gone (s.run.reverse.filter fun n => !decide (n ∈ now)) l (((List.reverse_perm _).nodup_iff.mpr x.nd).filter _) (fun n hn => (h3 n).mpr (by have := (List.mem_filter.mp hn).1; exact List.mem_reverse.mp this)) h2
  obtain ⟨l3, m1, m2, m3⟩ := tell_come (now.filter fun n => !decide (n ∈ s.run)) l2 (ndn.filter _) (fun n hn hl => by
    have a := (List.mem_filter.mp hn).2
    simp only [Bool.not_eq_true', decide_eq_false_iff_not] at a
    exact a ((h3 n).mp ((k3 n).mp hl).1)) k2
  refine ⟨l3, ?_, m2, fun y => ?_⟩
  · show (tell (goneS s.run now) l).bind _ = _
    unfold goneS
    rw [k1, Option.bind_some]
    exact m1
  · rw [m3, k3, h3]
    simp only [List.mem_filter, List.mem_reverse, Bool.not_eq_true', decide_eq_false_iff_not]
    constructor
    · rintro (⟨a, b⟩ | ⟨a, _⟩)
      · exact Classical.byContradiction fun c => b ⟨a, c⟩
      · exact a
    · intro a
      by_cases b : y ∈ s.run
      · exact .inl ⟨b, fun c => c.2 a⟩
      · exact .inr ⟨a, b⟩
theorem Tells.pull {h : House} {hook : Str} {w : Int} : ∀ (k : Nat) (s : HS), Tells s → Tells (pullS h hook w k s)
  | 0, s, x => x
  | k + 1, s, x => by
    show Tells (match (pulled (sndP h s.bad) hook w).2 with | none => s | some m => pullS h hook w k (settleS h { s with bad := s.bad ++ [m] }))
    split
    · exact x
    · rename_i m _
      exact Tells.pull k _ (x.settle rfl rfl)
theorem tells_new : Tells ⟨[], [], [], []⟩ := ⟨List.nodup_nil, [], rfl, List.nodup_nil, fun x => Iff.rfl⟩
/-! ### parts that are not broken, put in and taken out -/
theorem less_out {b : List Str} {n : Str} (h : n ∉ b) : less b n = b := List.filter_eq_self.mpr fun m hm => by
  have : m ≠ n := fun e => h (e ▸ hm)
  simp [this]
theorem Held.out {h : House} {b : List Str} {n : Nat} {s : HS} (x : Held h b (n + 200) s) (w : WH h) {y : Str} (hy : y ∈ h.map (·.name)) (hb : y ∉ b) : m_Host_out (eHS s) [.str y] = some (.none, eHS (outS (without h y) s y)) ∧ Held (without h y) b n (outS (without h y) s y) := by
  have pm : (without s.book y).Perm (without h y) := x.book.filter _
  have e : less s.bad y = b := by rw [x.bad]; exact less_out hb
  refine ⟨ev_out (w.without y) ((x.book.map _).mem_iff.mpr hy) pm x.few, pm, e, fun z hz => ?_, x.nd, ?_, Few.settle (w.without y) ⟨x.few.rows, x.few.run⟩⟩
  · obtain ⟨p, hp, e2⟩ := List.mem_map.mp (x.of z hz)
    exact List.mem_map.mpr ⟨p, mem_without.mpr ⟨hp, fun e3 => hb (by rw [← e3, e2]; exact hz)⟩, e2⟩
  · show order (sndP (without h y) (less s.bad y)) = _
    rw [e]
theorem Held.put {g h : House} {b : List Str} {n : Nat} {s : HS} {p : Part} (x : Held g b (n + 200) s) (w : WH h) (hl : g.length ≤ 1000) (hp : (putP s.book p).Perm h) (hb : p.name ∉ b) (hs : ∀ z ∈ b, z ∈ h.map (·.name)) : m_Host_put (eHS s) [eP p] = some (.none, eHS (putS h s p)) ∧ Held h b n (putS h s p) := by
  have e : less s.bad p.name = b := by rw [x.bad]; exact less_out hb
  refine ⟨ev_put w hp (by rw [x.book.length_eq]; exact hl) x.few, hp, e, hs, x.nd, ?_, Few.settle w ⟨x.few.rows, x.few.run⟩⟩
  show order (sndP h (less s.bad p.name)) = _
  rw [e]
theorem back_perm {h : House} (w : WH h) {p : Part} (hp : p ∈ h) {b : House} (hb : b.Perm (without h p.name)) : (putP b p).Perm h := by
  have hn : p.name ∉ b.map (·.name) := fun z => by
    obtain ⟨q, hq, e⟩ := List.mem_map.mp ((hb.map _).mem_iff.mp z)
    exact (mem_without.mp hq).2 e
  rw [putP_new hn]
  refine (hb.append_right [p]).trans ?_
  refine (List.perm_ext_iff_of_nodup ?_ w.ndp).mpr fun q => ?_
  · rw [List.nodup_append]
    exact ⟨(w.without _).ndp, by simp, fun a ha b hb e => by rw [List.mem_singleton.mp hb] at e; exact (mem_without.mp ha).2 (by rw [e])⟩
  · rw [List.mem_append, mem_without, List.mem_singleton]
    constructor
    · rintro (⟨h1, _⟩ | rfl)
      · exact h1
      · exact hp
    · intro hq
      by_cases e : q.name = p.name
      · exact .inr (name_inj w.nd hq hp e)
      · exact .inl ⟨hq, e⟩
theorem Held.mendAny {h : House} {b : List Str} {y : Str} {n : Nat} {s : HS} (x : Held h b (n + 200) s) (w : WH h) (hy : y ∈ b) : m_Host_mend (eHS s) [.str y] = some (.none, eHS (mendS h s y)) ∧ Held h (less b y) n (mendS h s y) := by
  have e : less s.bad y = less b y := by rw [x.bad]
  refine ⟨ev_mend w (by rw [x.bad]; exact hy) x.book x.few, x.book, e, fun z hz => x.of z (mem_less.mp hz).1, x.nd.filter _, ?_, Few.settle w ⟨x.few.rows, x.few.run⟩⟩
  show order (sndP h (less s.bad y)) = _
  rw [e]
end PD

namespace PD.W
open PySem PySem.Spec PyProof.Rows L2
/-! ### who is live by what was said -/
theorem now_loop (t : HSt) : ∀ (rows : List (Str × Str)) (f l : List Str) (env : Env), tell rows f = some l → f.length + rows.length ≤ 2000000 → env.length = 5 → env[1]? = some (.dat (.list (f.map eS))) →
    ∃ env', loopS (sTup (sCons (sN 2) (sCons (sN 3) sNil))) lb__law_now_1 (rows.map eSS) env = some (.next env') ∧ env'[1]? = some (.dat (.list (l.map eS)))
  | [], f, l, env, h, _, _, a1 => by cases h; exact ⟨env, rfl, a1⟩
  | (w, n) :: rows, f, l, env, h, hl, l0, a1 => by
    rw [List.length_cons] at hl
    rw [tell] at h
    split at h
    · cases h
    · rename_i hno
      dsimp only at hno h
      have b1 : ∃ env1, (sTup (sCons (sN 2) (sCons (sN 3) sNil))) (eSS (w, n)) env = some env1 ∧ env1.length = 5 ∧ env1[1]? = some (.dat (.list (f.map eS))) ∧ env1[2]? = some (.dat (.str w)) ∧ env1[3]? = some (.dat (.str n)) :=
        ⟨(env.set 2 (.dat (.str w))).set 3 (.dat (.str n)), rfl, by simp [List.getElem?_set, -getElem?_pos, l0], by simp [List.getElem?_set, -getElem?_pos, l0, a1], by simp [List.getElem?_set, -getElem?_pos, l0], by simp [List.getElem?_set, -getElem?_pos, l0]⟩
      obtain ⟨env1, k1, l1, a1, a2, a3⟩ := b1
      have q1 : fB (f2 eqD (fV 2) (fC (.str "in"))) env1 = some (decide (w = "in")) := bF (f2_eq (y := .str "in") (fV_eq a2) rfl (eqD_str w "in"))
      have q2 : fB (f2 eqD (fV 2) (fC (.str "out"))) env1 = some (decide (w = "out")) := bF (f2_eq (y := .str "out") (fV_eq a2) rfl (eqD_str w "out"))
      have q3 : fB (f2 inD (fV 3) (fV 1)) env1 = some (decide (n ∈ f)) := bF (f2_eq (fV_eq a3) (fV_eq a1) (inL_S f n))
      have q4 : fB (f2 notInD (fV 3) (fV 1)) env1 = some (!decide (n ∈ f)) := bF (f2_eq (fV_eq a3) (fV_eq a1) (notInL_S f n))
      have t1 : fOrB (fAndB (fB (f2 eqD (fV 2) (fC (.str "in")))) (fB (f2 inD (fV 3) (fV 1)))) (fAndB (fB (f2 eqD (fV 2) (fC (.str "out")))) (fB (f2 notInD (fV 3) (fV 1)))) env1 = some false := by
        refine orF ?_ ?_
        · unfold fAndB
          rw [q1, Option.bind_some, q3]
          by_cases e : w = "in"
          · rw [decide_eq_true e, if_pos rfl, decide_eq_false fun z => hno (.inl ⟨e, z⟩)]
          · rw [decide_eq_false e, if_neg (by simp)]
        · unfold fAndB
          rw [q2, Option.bind_some, q4]
          by_cases e : w = "out"
          · rw [decide_eq_true e, if_pos rfl, decide_eq_true (Classical.byContradiction fun z => hno (.inr ⟨e, z⟩))]; rfl
          · rw [decide_eq_false e, if_neg (by simp)]
      have c : compL (sN 4) ct__law_now_0 (fV 4) (env1.set 4 .un) (f.map eS) = some ((less f n).map eS) := compL_map eS _ _ _ fun y hy => ⟨_, rfl, by
          refine bF (f2_eq (x := .str y) (y := .str n) (by unfold fV; rw [List.getElem?_set_self (by rw [List.length_set]; omega)]; rfl) (by unfold fV; rw [List.getElem?_set_ne (by decide), List.getElem?_set_ne (by decide), a3]) (neD_str y n)), fun _ => by unfold fV; rw [List.getElem?_set_self (by rw [List.length_set]; omega)]⟩
      have q5 : fLc (fIt (fV 1)) [4] (sN 4) ct__law_now_0 (fV 4) env1 = some (.list ((less f n).map eS)) := by
        unfold fLc
        rw [show fIt (fV 1) env1 = some (f.map eS) from by unfold fIt fV; rw [a1]; rfl, Option.bind_some]
        show (compL _ _ _ (env1.set 4 .un) _).map PyData.list = _
        rw [c]; rfl
      have q6 : f2 repL (fLst (fCons (fV 3) fNil)) (f1 intD (f2 eqD (fV 2) (fC (.str "in")))) env1 = some (.list ((if w = "in" then [n] else []).map eS)) := by
        refine f2_eq (x := .list [.str n]) (y := .int (if w = "in" then 1 else 0)) (by unfold fLst; rw [one_arg (fV_eq a3)]; rfl) (f1_eq (x := .bool (decide (w = "in"))) (f2_eq (y := .str "in") (fV_eq a2) rfl (eqD_str w "in")) ?_) ?_
        · by_cases e : w = "in"
          · rw [decide_eq_true e, if_pos e]; rfl
          · rw [decide_eq_false e, if_neg e]; rfl
        · by_cases e : w = "in"
          · rw [if_pos e, if_pos e]; rfl
          · rw [if_neg e, if_neg e]; rfl
      have ll : (less f n).length ≤ f.length := List.filter_sublist.length_le
      have st : lb__law_now_1 env1 = some (.next (env1.set 1 (.dat (.list ((less f n ++ if w = "in" then [n] else []).map eS))))) := by
        unfold lb__law_now_1
        rw [qSeq_next (ifF t1) rfl]
        refine qSet_eq (f2_eq q5 q6 ?_)
        rw [catD_l, if_pos, List.map_append]
        rw [List.length_map, List.length_map, sizeLine_eq]
        split <;> simp <;> omega
      obtain ⟨env', k2, k3⟩ := now_loop t rows (less f n ++ if w = "in" then [n] else []) l (env1.set 1 (.dat (.list ((less f n ++ if w = "in" then [n] else []).map eS)))) h (by rw [List.length_append]; split <;> simp <;> omega) (by rw [List.length_set, l1]) (List.getElem?_set_self (by omega))
      refine ⟨env', ?_, k3⟩
      rw [List.map_cons]
      show ((sTup (sCons (sN 2) (sCons (sN 3) sNil))) (eSS (w, n)) env).bind _ = _
      rw [k1, Option.bind_some, st, Option.bind_some]
      exact k2
theorem ev_now {s : HS} (x : Tells s) (hl : s.rows.length ≤ 1000000) : m__law_now (eHS s) [] = some (.list ((sortT eS s.run).map eS)) := by
  obtain ⟨l, h1, h2, h3⟩ := x.told
  unfold m__law_now bodyHB g__law_now
  have e : startO 5 .bor (eHS s) [] = [.obj .bor (.host (eHS s)), .un, .un, .un, .un] := rfl
  rw [e]
  rw [qSeq_next (env' := [.obj .bor (.host (eHS s)), .dat (.list []), .un, .un, .un]) rfl rfl]
  obtain ⟨env', k1, k2⟩ := now_loop (eHS s) s.rows [] l [.obj .bor (.host (eHS s)), .dat (.list []), .un, .un, .un] h1 (by show 0 + _ ≤ _; omega) rfl rfl
  have q : qFor (fIt (fHP 0 m_Host_said)) (sTup (sCons (sN 2) (sCons (sN 3) sNil))) lb__law_now_1 [.obj .bor (.host (eHS s)), .dat (.list []), .un, .un, .un] = some (.next env') := k1
  rw [qSeq_next q rfl]
  unfold qRet
  rw [f1_eq (fV_eq k2) (sortD_S l), sortT_nodup_eq h3 h2 x.nd]
  rfl
/-! ### a host filled in any order -/
def isAt (h : House) (places : List Nat) (p : Part) : Bool := places.any fun i => decide (h[i]? = some p)
def doneH (h : House) (places : List Nat) : House := h.filter fun p => !isAt h places p
def minus (places : List Nat) (a : Nat) : List Nat := places.filter fun i => !decide (i = a)
theorem isAt_minus {h : House} (nd : h.Nodup) {places : List Nat} {a : Nat} {p : Part} (ha : h[a]? = some p) (q : Part) : isAt h (minus places a) q = (isAt h places q && !decide (q = p)) := by
  unfold isAt minus
  rw [Bool.eq_iff_iff]
  simp only [List.any_eq_true, List.mem_filter, Bool.not_eq_true', decide_eq_false_iff_not, decide_eq_true_eq, Bool.and_eq_true]
  constructor
  · rintro ⟨i, ⟨h1, h2⟩, h3⟩
    refine ⟨⟨i, h1, h3⟩, fun e => h2 ?_⟩
    subst e
    exact (List.getElem?_inj (List.getElem?_eq_some_iff.mp h3).1 nd).mp (h3.trans ha.symm)
  · rintro ⟨⟨i, h1, h3⟩, h2⟩
    refine ⟨i, ⟨h1, fun e => h2 ?_⟩, h3⟩
    subst e
    exact Option.some.inj (h3.symm.trans ha)
theorem isAt_self {h : House} {places : List Nat} {a : Nat} {p : Part} (ha : h[a]? = some p) (hm : a ∈ places) : isAt h places p = true := by
  unfold isAt
  exact List.any_eq_true.mpr ⟨a, hm, decide_eq_true ha⟩
theorem mem_done {h : House} {places : List Nat} {q : Part} : q ∈ doneH h places ↔ q ∈ h ∧ isAt h places q = false := by unfold doneH; rw [List.mem_filter]; simp
theorem done_step {h : House} (w : WH h) {places : List Nat} {a : Nat} {p : Part} (ha : h[a]? = some p) (hm : a ∈ places) : (doneH h places ++ [p]).Perm (doneH h (minus places a)) := by
  have hp : p ∈ h := List.mem_of_getElem? ha
  refine (List.perm_ext_iff_of_nodup (List.nodup_append.mpr ⟨w.ndp.filter _, by simp, fun x hx y hy e => ?_⟩) (w.ndp.filter _)).mpr fun q => ?_
  · rw [List.mem_singleton.mp hy] at e
    have := (mem_done.mp hx).2
    rw [e, isAt_self ha hm] at this
    cases this
  · show q ∈ doneH h places ++ [p] ↔ q ∈ doneH h (minus places a)
    rw [List.mem_append, List.mem_singleton, mem_done, mem_done, isAt_minus w.ndp ha]
    by_cases e : q = p
    · subst e; simp [hp]
    · simp [e]
theorem name_done {h : House} (w : WH h) {places : List Nat} {a : Nat} {p : Part} (ha : h[a]? = some p) (hm : a ∈ places) : p.name ∉ (doneH h places).map (·.name) := fun z => by
  obtain ⟨q, hq, e⟩ := List.mem_map.mp z
  have := name_inj w.nd (mem_done.mp hq).1 (List.mem_of_getElem? ha) e
  have h2 := (mem_done.mp hq).2
  rw [this, isAt_self ha hm] at h2
  cases h2
def rn (p o : Part) : Part := { o with name := p.name }
def ren (g : House) (p o : Part) : House := g.map fun q => if q.name = p.name then rn p o else q
theorem WH.ren {g : House} (w : WH g) {p o : Part} (wp : WP p) (wo : WP o) : WH (ren g p o) := by
  refine ⟨by unfold PD.W.ren; rw [List.length_map]; exact w.len, fun q hq => ?_, ?_⟩
  · obtain ⟨q', hq', rfl⟩ := List.mem_map.mp hq
    split
    · exact ⟨wp.nlen, wo.flen, wo.wlen, wo.klen, wo.fnd, wo.wnd, wo.lo, wo.rank, wo.deed⟩
    · exact w.parts q' hq'
  · have e : (PD.W.ren g p o).map (·.name) = g.map (·.name) := by
      unfold PD.W.ren
      rw [List.map_map]
      refine List.map_congr_left fun q _ => ?_
      show (if q.name = p.name then rn p o else q).name = q.name
      split
      · rename_i e; exact e.symm
      · rfl
    rw [e]; exact w.names
theorem put_ren {h : House} (w : WH h) {places : List Nat} {a : Nat} {p : Part} (ha : h[a]? = some p) (hm : a ∈ places) (o : Part) {b : House} (hb : b.Perm (doneH h places)) : (putP b (rn p o)).Perm (ren (doneH h (minus places a)) p o) := by
  have hn : p.name ∉ b.map (·.name) := fun z => name_done w ha hm ((hb.map _).mem_iff.mp z)
  rw [putP_new (p := rn p o) hn]
  have e : b ++ [rn p o] = (b ++ [p]).map fun q => if q.name = p.name then rn p o else q := by
    rw [List.map_append]
    congr 1
    · refine (List.map_id b).symm.trans (List.map_congr_left fun q hq => ?_)
      have : q.name ≠ p.name := fun e => hn (e ▸ List.mem_map.mpr ⟨q, hq, rfl⟩)
      rw [if_neg this]; rfl
    · show [rn p o] = [if p.name = p.name then rn p o else p]
      rw [if_pos rfl]
  rw [e]
  exact ((hb.append_right [p]).trans (done_step w ha hm)).map _
theorem put_back {h : House} (w : WH h) {places : List Nat} {a : Nat} {p : Part} (ha : h[a]? = some p) (o : Part) {b : House} (hb : b.Perm (ren (doneH h places) p o)) (hm : p ∈ doneH h places) : (putP b p).Perm (doneH h places) := by
  have hn : p.name ∈ b.map (·.name) := (hb.map _).mem_iff.mpr (List.mem_map.mpr ⟨rn p o, List.mem_map.mpr ⟨p, hm, if_pos rfl⟩, rfl⟩)
  unfold putP
  rw [if_pos hn]
  refine (hb.map _).trans ?_
  unfold ren
  rw [List.map_map]
  have e : (doneH h places).map ((fun q => if q.name = p.name then p else q) ∘ fun q => if q.name = p.name then rn p o else q) = doneH h places := by
    refine (List.map_congr_left fun q hq => ?_).trans (List.map_id _)
    show (if (if q.name = p.name then rn p o else q).name = p.name then p else (if q.name = p.name then rn p o else q)) = q
    by_cases e : q.name = p.name
    · rw [if_pos e, if_pos (show (rn p o).name = p.name from rfl)]
      exact (name_inj w.nd (mem_done.mp hq).1 (List.mem_of_getElem? ha) e).symm
    · rw [if_neg e, if_neg e]
  rw [e]
structure Fil (h os : House) (places : List Nat) (s : HS) (env : Env) : Prop where
  l0 : env.length = 8
  a0 : env[0]? = some (.dat (eH h))
  a1 : env[1]? = some (.dat (eH os))
  a2 : ∃ num : Int, env[2]? = some (.dat (.int num))
  a3 : env[3]? = some (.obj .new (.host (eHS s)))
  a4 : env[4]? = some (.dat (.list (places.map fun (i : Nat) => .int (i : Int))))
theorem fill_body {h os : House} (w : WH h) (wo : WH os) (h7 : h.length ≤ 7) {places : List Nat} (lt : ∀ i ∈ places, i < h.length) (ne : places ≠ []) {n : Nat} {s : HS} (x : Whole (doneH h places) (n + 400) s) (tl : Tells s) {env : Env} (F : Fil h os places s env) :
    ∃ env2, lb__law_filled_3 env = some (.next env2) ∧ ∃ a s2, a ∈ places ∧ Whole (doneH h (minus places a)) n s2 ∧ Tells s2 ∧ Fil h os (minus places a) s2 env2 := by
  obtain ⟨l0, a0, a1, ⟨num, a2⟩, a3, a4⟩ := F
  have hlen : 0 < places.length := List.length_pos_iff.mpr ne
  obtain ⟨k, hk⟩ : ∃ k : Nat, num % (places.length : Int) = (k : Int) := ⟨(num % (places.length : Int)).toNat, by have := Int.emod_nonneg num (b := (places.length : Int)) (by omega); omega⟩
  have hkl : k < places.length := by have := Int.emod_lt_of_pos num (b := (places.length : Int)) (by omega); omega
  obtain ⟨a, ha⟩ : ∃ a, places[k]? = some a := ⟨_, List.getElem?_eq_getElem hkl⟩
  have hm : a ∈ places := List.mem_of_getElem? ha
  obtain ⟨p, hp⟩ : ∃ p, h[a]? = some p := ⟨_, List.getElem?_eq_getElem (lt a hm)⟩
  have pm : p ∈ h := List.mem_of_getElem? hp
  have wd : WH (doneH h (minus places a)) := w.sub List.filter_sublist
  have pd : p ∈ doneH h (minus places a) := mem_done.mpr ⟨pm, by rw [isAt_minus w.ndp hp]; simp⟩
  unfold lb__law_filled_3
  have q5 : f2 ixD (fV 4) (f2 modD (fV 2) (f1 lenD (fV 4))) env = some (.int (a : Int)) := by
    refine f2_eq (y := .int (k : Int)) (fV_eq a4) (f2_eq (y := .int (places.length : Int)) (fV_eq a2) (f1_eq (fV_eq a4) ?_) ?_) ?_
    · show some (PyData.int ((places.map _).length : Nat)) = _
      rw [List.length_map]
    · rw [modD_i, if_pos (by omega), hk]
    · rw [ixL_nat, List.getElem?_map, ha]; rfl
  refine qSeq_ex2 (fun env => env.length = 8 ∧ env[0]? = some (.dat (eH h)) ∧ env[1]? = some (.dat (eH os)) ∧ env[2]? = some (.dat (.int num)) ∧ env[3]? = some (.obj .new (.host (eHS s))) ∧ env[4]? = some (.dat (.list (places.map fun (i : Nat) => .int (i : Int)))) ∧ env[5]? = some (.dat (.int (a : Int)))) ⟨_, qSet_eq q5, by simp [List.getElem?_set, -getElem?_pos, l0, a0, a1, a2, a3, a4]⟩ fun env ⟨l0, a0, a1, a2, a3, a4, a5⟩ => ?_
  have c4 : compL (sN 7) ct__law_filled_0 (fV 7) (env.set 7 .un) (places.map fun (i : Nat) => PyData.int (i : Int)) = some ((minus places a).map fun (i : Nat) => .int (i : Int)) := compL_map (fun (i : Nat) => PyData.int (i : Int)) _ _ _ fun i hi => ⟨_, rfl, by
      refine bF ((f2_eq (x := .int (i : Int)) (y := .int (a : Int)) (by unfold fV; rw [List.getElem?_set_self (by rw [List.length_set]; omega)]) (by unfold fV; rw [List.getElem?_set_ne (by decide), List.getElem?_set_ne (by decide), a5]) (neD_int _ _)).trans ?_)
      by_cases e : i = a
      · rw [decide_eq_true e, decide_eq_true (by rw [e])]
      · rw [decide_eq_false e, decide_eq_false fun z => e (by omega)], fun _ => by unfold fV; rw [List.getElem?_set_self (by rw [List.length_set]; omega)]⟩
  have q4 : fLc (fIt (fV 4)) [7] (sN 7) ct__law_filled_0 (fV 7) env = some (.list ((minus places a).map fun (i : Nat) => .int (i : Int))) := by
    unfold fLc
    rw [show fIt (fV 4) env = some (places.map fun (i : Nat) => PyData.int (i : Int)) from by unfold fIt fV; rw [a4]; rfl, Option.bind_some]
    show (compL _ _ _ (env.set 7 .un) _).map PyData.list = _
    rw [c4]; rfl
  refine qSeq_ex2 (fun env => env.length = 8 ∧ env[0]? = some (.dat (eH h)) ∧ env[1]? = some (.dat (eH os)) ∧ env[2]? = some (.dat (.int num)) ∧ env[3]? = some (.obj .new (.host (eHS s))) ∧ env[4]? = some (.dat (.list ((minus places a).map fun (i : Nat) => .int (i : Int)))) ∧ env[5]? = some (.dat (.int (a : Int)))) ⟨_, qSet_eq q4, by simp [List.getElem?_set, -getElem?_pos, l0, a0, a1, a2, a3, a5]⟩ fun env ⟨l0, a0, a1, a2, a3, a4, a5⟩ => ?_
  have hp' : ∀ env : Env, env[0]? = some (.dat (eH h)) → env[5]? = some (.dat (.int (a : Int))) → f2 ixD (fV 0) (fV 5) env = some (eP p) := fun env a0 a5 => f2_eq (fV_eq a0) (fV_eq a5) (by unfold eH; rw [ixT_nat, List.getElem?_map, hp]; rfl)
  -- the other part of the same name
  refine qSeq_ex2 (fun env => (∃ s1, (putP s1.book p).Perm (doneH h (minus places a)) ∧ s1.book.length ≤ 1000 ∧ s1.bad = [] ∧ Few (n + 200) s1 ∧ Tells s1 ∧ env[3]? = some (.obj .new (.host (eHS s1)))) ∧ env.length = 8 ∧ env[0]? = some (.dat (eH h)) ∧ env[1]? = some (.dat (eH os)) ∧ env[2]? = some (.dat (.int num)) ∧ env[4]? = some (.dat (.list ((minus places a).map fun (i : Nat) => .int (i : Int)))) ∧ env[5]? = some (.dat (.int (a : Int)))) ?_ fun env ⟨⟨s1, b1, b2, b3, b4, b5, a3⟩, l0, a0, a1, a2, a4, a5⟩ => ?_
  · have hwl := (w.sub (List.filter_sublist (p := fun p => !isAt h places p))).len
    have hbl : s.book.length ≤ 100 := by rw [x.book.length_eq]; exact hwl
    have fi : fIt (fSl (fV 1) (partD (fV 5)) (partD (f2 addD (fV 5) (fC (.int 1))))) env = some (((os.drop a).take 1).map eP) := by
      unfold fIt
      have z : ((a : Int) + 1) = ((a + 1 : Nat) : Int) := by omega
      rw [fSl_eq (fV_eq a1) (partD_eq (fV_eq a5)) (partD_eq (i := (a : Int) + 1) (f2_eq (y := .int 1) (fV_eq a5) rfl rfl)) (d := .tuple (((os.drop a).take 1).map eP)) ?_]
      · rfl
      · unfold eH
        rw [sl_t]
        unfold cutL
        rw [z, HT.sIx_nat, HT.sIx_nat, List.length_map, ← List.map_drop, ← List.map_take]
        congr 3
        by_cases c : a < os.length
        · rw [Nat.min_eq_left (by omega), Nat.min_eq_left (by omega)]
          rw [show a + 1 - a = 1 by omega]
        · rw [Nat.min_eq_right (show os.length ≤ a + 1 by omega), Nat.min_eq_right (show os.length ≤ a by omega), List.drop_length, List.drop_eq_nil_iff.mpr (by omega), List.take_nil, List.take_nil]
    cases ho : (os.drop a).take 1 with
    | nil =>
      rw [ho] at fi
      refine ⟨env, ?_, ⟨s, ?_, by omega, x.bad, x.few.mono (by omega), tl, a3⟩, l0, a0, a1, a2, a4, a5⟩
      · show (fIt _ env).bind _ = _
        rw [fi]; rfl
      · have hn : p.name ∉ s.book.map (·.name) := fun z => name_done w hp hm ((x.book.map _).mem_iff.mp z)
        rw [putP_new hn]
        exact (x.book.append_right [p]).trans (done_step w hp hm)
    | cons o rest =>
      have hr : rest = [] := by
        have : ((os.drop a).take 1).length ≤ 1 := List.length_take_le _ _
        rw [ho, List.length_cons] at this
        exact List.eq_nil_of_length_eq_zero (by omega)
      subst hr
      have om : o ∈ os := by
        have : o ∈ (os.drop a).take 1 := by rw [ho]; exact List.mem_cons_self
        exact List.mem_of_mem_drop (List.mem_of_mem_take this)
      have wr := WH.ren wd (w.parts p pm) (wo.parts o om)
      have pr := put_ren w hp hm o x.book
      have e1 := ev_put wr pr (by omega) (n := n + 200) x.few
      obtain ⟨x1, _⟩ := x.put (n := n + 200) wr pr
      have l1 : (putS (ren (doneH h (minus places a)) p o) s (rn p o)).book.length ≤ 1000 := by rw [x1.book.length_eq]; have := wr.len; omega
      rw [ho] at fi
      have q6 : f2 addD (fTup (fCons (f2 ixD (f2 ixD (fV 0) (fV 5)) (fC (.int 0))) fNil)) (fSl (fV 6) (partD (fC (.int 1))) noPart) (env.set 6 (.dat (eP o))) = some (eP (rn p o)) := by
        have n0 : f2 ixD (f2 ixD (fV 0) (fV 5)) (fC (.int 0)) (env.set 6 (.dat (eP o))) = some (.str p.name) := f2_eq (x := eP p) (y := .int 0) (hp' _ (by rw [List.getElem?_set_ne (by decide)]; exact a0) (by rw [List.getElem?_set_ne (by decide)]; exact a5)) rfl rfl
        refine f2_eq (x := .tuple [.str p.name]) (y := .tuple [.int o.make, .tuple (o.faces.map eF), .tuple (o.wants.map eW), .tuple (o.hooks.map eK)]) (by unfold fTup; rw [one_arg n0]; rfl) (fSl_eq (c := eP o) (by unfold fV; rw [List.getElem?_set_self (by omega)]) (partD_eq (i := 1) rfl) rfl rfl) rfl
      have st := drop_eq (n := 1) (i := 3) (env := env.set 6 (.dat (eP o))) (by rw [List.getElem?_set_ne (by decide)]; exact a3) (one_arg q6) rfl e1
      refine ⟨(env.set 6 (.dat (eP o))).set 3 (.obj .new (.host (eHS (putS (ren (doneH h (minus places a)) p o) s (rn p o))))), ?_, ⟨_, put_back w hp o x1.book pd, l1, x1.bad, x1.few, tl.settle rfl rfl, by rw [List.getElem?_set_self (by rw [List.length_set]; omega)]⟩, by simp [List.getElem?_set, -getElem?_pos, l0, a0, a1, a2, a4, a5]⟩
      show (fIt _ env).bind _ = _
      rw [fi, Option.bind_some]
      show ((sN 6 (eP o) env).bind fun env1 => (lb__law_filled_1 env1).bind _) = _
      rw [show sN 6 (eP o) env = some (env.set 6 (.dat (eP o))) from rfl, Option.bind_some]
      unfold lb__law_filled_1
      rw [st]; rfl
  have e2 := ev_put wd b1 b2 b4
  have x2 : Whole (doneH h (minus places a)) n (putS (doneH h (minus places a)) s1 p) := by
    have hb : less s1.bad p.name = [] := by rw [b3]; rfl
    refine ⟨b1, hb, ?_, Few.settle wd ⟨b4.rows, b4.run⟩⟩
    show order (sndP _ (less s1.bad p.name)) = _
    rw [hb, sndP_nil]
  have t2 : Tells (putS (doneH h (minus places a)) s1 p) := b5.settle rfl rfl
  refine qSeq_ex2 (fun env => env.length = 8 ∧ env[0]? = some (.dat (eH h)) ∧ env[1]? = some (.dat (eH os)) ∧ env[2]? = some (.dat (.int num)) ∧ env[3]? = some (.obj .new (.host (eHS (putS (doneH h (minus places a)) s1 p)))) ∧ env[4]? = some (.dat (.list ((minus places a).map fun (i : Nat) => .int (i : Int))))) ⟨_, drop_eq (n := 1) a3 (one_arg (hp' env a0 a5)) rfl e2, by simp [List.getElem?_set, -getElem?_pos, l0, a0, a1, a2, a4]⟩ fun env ⟨l0, a0, a1, a2, a3, a4⟩ => ?_
  exact ⟨_, qSet_eq (d := .int (num / 7 + 3)) (f2_eq (x := .int (num / 7)) (y := .int 3) (f2_eq (y := .int 7) (fV_eq a2) rfl rfl) rfl rfl), a, _, hm, x2, t2, by simp [List.getElem?_set, -getElem?_pos, l0], by simp [List.getElem?_set, -getElem?_pos, l0, a0], by simp [List.getElem?_set, -getElem?_pos, l0, a1], ⟨num / 7 + 3, by simp [List.getElem?_set, -getElem?_pos, l0]⟩, by simp [List.getElem?_set, -getElem?_pos, l0, a3], by simp [List.getElem?_set, -getElem?_pos, l0, a4]⟩
theorem fill_any {h os : House} (w : WH h) (wo : WH os) (h7 : h.length ≤ 7) {n : Nat} : ∀ (k m : Nat) (places : List Nat) (s : HS) (env : Env), places.length ≤ k → k < m → (∀ i ∈ places, i < h.length) → Whole (doneH h places) (n + 400 * k) s → Tells s → Fil h os places s env →
    ∃ env2 s2, whileS lc__law_filled_2 lb__law_filled_3 m env = some (.next env2) ∧ Whole (doneH h []) n s2 ∧ Tells s2 ∧ env2[3]? = some (.obj .new (.host (eHS s2)))
  | k, 0, _, _, _, _, hm, _, _, _, _ => by omega
  | k, m + 1, places, s, env, hk, hm, lt, x, tl, F => by
    by_cases e : places = []
    · subst e
      have t : lc__law_filled_2 env = some false := by
        refine bF (f2_eq (x := .list []) (y := .list []) (fV_eq F.a4) rfl (neD_lstS [] []))
      refine ⟨env, s, ?_, ⟨x.book, x.bad, x.run, x.few.mono (by omega)⟩, tl, F.a3⟩
      show (lc__law_filled_2 env).bind _ = _
      rw [t]; rfl
    · have hl := List.length_pos_iff.mpr e
      obtain ⟨k0, rfl⟩ : ∃ k0, k = k0 + 1 := ⟨k - 1, by omega⟩
      have t : lc__law_filled_2 env = some true := by
        refine bF (f2_eq (x := .list (places.map fun (i : Nat) => .int (i : Int))) (y := .list []) (fV_eq F.a4) rfl ?_)
        cases places with
        | nil => exact absurd rfl e
        | cons i r =>
          refine neD_of (b := false) ?_ rfl ?_ ?_
          · exact plain_lst (fun (i : Nat) => PyData.int (i : Int)) (fun _ => rfl) (i :: r)
          · exact Nat.le_trans (depth_lst (fun (i : Nat) => PyData.int (i : Int)) 0 (fun _ => by simp [PyData.depth]) (i :: r)) (by omega)
          · rw [List.map_cons, PyData.eqv, PyData.eqvAll]
      obtain ⟨env1, k1, a, s1, ham, x1, t1, F1⟩ := fill_body w wo h7 lt e (n := n + 400 * k0) ⟨x.book, x.bad, x.run, x.few.mono (by omega)⟩ tl F
      have hlt : (minus places a).length < places.length := filter_lt ham (by simp)
      obtain ⟨env2, s2, k2, k3⟩ := fill_any w wo h7 (n := n) k0 m (minus places a) s1 env1 (by omega) (by omega) (fun i hi => lt i (List.mem_filter.mp hi).1) x1 t1 F1
      refine ⟨env2, s2, ?_, k3⟩
      show (lc__law_filled_2 env).bind _ = _
      rw [t, Option.bind_some, if_pos rfl, k1, Option.bind_some]
      exact k2
theorem done_none {h : House} : doneH h [] = h := by unfold doneH isAt; exact List.filter_eq_self.mpr fun _ _ => rfl
theorem done_all {h : House} : doneH h (List.range h.length) = [] := by
  unfold doneH
  refine List.filter_eq_nil_iff.mpr fun p hp => ?_
  obtain ⟨i, hi, e⟩ := List.getElem_of_mem hp
  rw [isAt_self (a := i) (by rw [List.getElem?_eq_getElem hi, e]) (List.mem_range.mpr hi)]
  simp
theorem ev_filled {h os : House} (w : WH h) (wo : WH os) (h7 : h.length ≤ 7) (num : Int) {n : Nat} (hn : n ≤ 900000) : ∃ s, m__law_filled [eH h, eH os, .int num] = some (eHS s) ∧ Whole h n s ∧ Tells s := by
  unfold m__law_filled bodyO g__law_filled
  have e : startE 8 [eH h, eH os, .int num] = [.dat (eH h), .dat (eH os), .dat (.int num), .un, .un, .un, .un, .un] := rfl
  rw [e]
  rw [qSeq_next (env' := [.dat (eH h), .dat (eH os), .dat (.int num), .obj .new (.host (eHS ⟨[], [], [], []⟩)), .un, .un, .un, .un]) rfl rfl]
  have q : fLR (f1 lenD (fV 0)) [.dat (eH h), .dat (eH os), .dat (.int num), .obj .new (.host (eHS ⟨[], [], [], []⟩)), .un, .un, .un, .un] = some (.list ((List.range h.length).map fun (i : Nat) => .int (i : Int))) := by
    unfold fLR fR1
    rw [f1_eq (z := .int (h.length : Int)) (fV_eq (d := eH h) rfl) (by unfold eH; rw [lenD_t, List.length_map]), Option.bind_some]
    show (if _ then some (rangeD 0 ((h.length : Int)).toNat) else none).map PyData.list = _
    rw [if_pos (by omega)]
    unfold rangeD
    rw [Int.toNat_natCast]
    simp
  rw [qSeq_next (qSet_eq q) rfl]
  obtain ⟨env2, s2, k1, k2, k3, k4⟩ := fill_any w wo h7 (n := n) h.length 100000 (List.range h.length) ⟨[], [], [], []⟩ ([.dat (eH h), .dat (eH os), .dat (.int num), .obj .new (.host (eHS ⟨[], [], [], []⟩)), .un, .un, .un, .un].set 4 (.dat (.list ((List.range h.length).map fun (i : Nat) => .int (i : Int))))) (by rw [List.length_range]; exact Nat.le_refl _) (by omega) (fun i hi => List.mem_range.mp hi) (by rw [done_all]; exact whole_new _ (by omega)) tells_new ⟨rfl, rfl, rfl, ⟨num, rfl⟩, rfl, rfl⟩
  rw [qSeq_next k1 rfl]
  rw [done_none] at k2
  refine ⟨s2, ?_, k2, k3⟩
  show newAt env2 3 = _
  unfold newAt
  rw [k4]
/-! ### the law -/
theorem objO_eq {i : Nat} {f : Env → Option HSt} {env : Env} {t : HSt} (e : f env = some t) : qObj i f env = some (.next (env.set i (.obj .new (.host t)))) := by unfold qObj; rw [e]; rfl
theorem pulls {op : D → D → Option D} {env : Env} {t1 t2 t1' t2' : HSt} {hook : Str} {a r1 r2 : Int} {d : D} (l0 : env.length = 10) (a3 : env[3]? = some (.obj .new (.host t1))) (a4 : env[4]? = some (.obj .new (.host t2))) (a5 : env[5]? = some (.dat (.str hook))) (a6 : env[6]? = some (.dat (.int a)))
    (h1 : m_Host_pull t1 [.str hook, .int a] = some (.int r1, t1')) (h2 : m_Host_pull t2 [.str hook, .int a] = some (.int r2, t2')) (ho : op (.int r1) (.int r2) = some d) :
    f2M op (fHM 3 2 m_Host_pull (fCons (fV 5) (fCons (fV 6) fNil))) (fHM 4 2 m_Host_pull (fCons (fV 5) (fCons (fV 6) fNil))) env = some (d, (env.set 3 (.obj .new (.host t1'))).set 4 (.obj .new (.host t2'))) := by
  have ar : ∀ env : Env, env[5]? = some (.dat (.str hook)) → env[6]? = some (.dat (.int a)) → fCons (fV 5) (fCons (fV 6) fNil) env = some [.str hook, .int a] := fun env a5 a6 => by unfold fCons fNil; rw [fV_eq a5, fV_eq a6]; rfl
  have q1 := fHM_eq (n := 2) a3 (ar env a5 a6) rfl h1
  have q2 := fHM_eq (n := 2) (i := 4) (env := env.set 3 (.obj .new (.host t1'))) (by rw [List.getElem?_set_ne (by decide)]; exact a4) (ar _ (by rw [List.getElem?_set_ne (by decide)]; exact a5) (by rw [List.getElem?_set_ne (by decide)]; exact a6)) rfl h2
  unfold f2M
  rw [q1, Option.bind_some]
  show ((fHM 4 2 m_Host_pull _ (env.set 3 (.obj .new (.host t1')))).bind _) = _
  rw [q2, Option.bind_some]
  show (op (.int r1) (.int r2)).map _ = _
  rw [ho]; rfl
theorem sound_eq {h : House} (w : WH h) {b : List Str} {n : Nat} {s : HS} (x : Held h b n s) {env : Env} (l0 : env.length = 10) (a1 : env[1]? = some (.dat (eH h))) (a3 : env[3]? = some (.obj .new (.host (eHS s)))) : f1 tupD (fLc (fIt (fV 1)) [8] (sN 8) ct_law_0 (fV 8)) env = some (eH (sndP h b)) := by
  have c : compL (sN 8) ct_law_0 (fV 8) (env.set 8 .un) (h.map eP) = some ((sndP h b).map eP) := compL_map eP _ _ _ fun p hp => ⟨_, rfl, by
      have q1 : f2 ixD (fV 8) (fC (.int 0)) ((env.set 8 .un).set 8 (.dat (eP p))) = some (.str p.name) := f2_eq (x := eP p) (y := .int 0) (by unfold fV; rw [List.getElem?_set_self (by rw [List.length_set]; omega)]) rfl rfl
      have q2 : fHP 3 m_Host_broken ((env.set 8 .un).set 8 (.dat (eP p))) = some (.tuple ((sortT eS b).map eS)) := fHP_eq (by rw [List.getElem?_set_ne (by decide), List.getElem?_set_ne (by decide)]; exact a3) (x.broken w)
      have q3 := notInT_S (sortT eS b) p.name
      rw [show decide (p.name ∈ sortT eS b) = decide (p.name ∈ b) from decide_eq_decide.mpr (mem_sortT eS b _)] at q3
      exact bF (f2_eq q1 q2 q3), fun _ => by unfold fV; rw [List.getElem?_set_self (by rw [List.length_set]; omega)]⟩
  refine f1_eq (x := .list ((sndP h b).map eP)) ?_ rfl
  unfold fLc
  rw [show fIt (fV 1) env = some (h.map eP) from by unfold fIt fV; rw [a1]; rfl, Option.bind_some]
  show (compL _ _ _ (env.set 8 .un) _).map PyData.list = _
  rw [c]; rfl
structure Sl (h : House) (hook : Str) (a : Int) (snd : D) (s1 s2 : HS) (env : Env) : Prop where
  l0 : env.length = 10
  a1 : env[1]? = some (.dat (eH h))
  a3 : env[3]? = some (.obj .new (.host (eHS s1)))
  a4 : env[4]? = some (.obj .new (.host (eHS s2)))
  a5 : env[5]? = some (.dat (.str hook))
  a6 : env[6]? = some (.dat (.int a))
  a7 : env[7]? = some (.dat snd)
theorem Sl.set3 {h : House} {hook : Str} {a : Int} {sd : D} {s1 s2 t : HS} {env : Env} (S : Sl h hook a sd s1 s2 env) : Sl h hook a sd t s2 (env.set 3 (.obj .new (.host (eHS t)))) := by
  obtain ⟨l0, a1, a3, a4, a5, a6, a7⟩ := S
  exact ⟨by rw [List.length_set, l0], by rw [List.getElem?_set_ne (by decide)]; exact a1, List.getElem?_set_self (by omega), by rw [List.getElem?_set_ne (by decide)]; exact a4, by rw [List.getElem?_set_ne (by decide)]; exact a5, by rw [List.getElem?_set_ne (by decide)]; exact a6, by rw [List.getElem?_set_ne (by decide)]; exact a7⟩
theorem Sl.set4 {h : House} {hook : Str} {a : Int} {sd : D} {s1 s2 t : HS} {env : Env} (S : Sl h hook a sd s1 s2 env) : Sl h hook a sd s1 t (env.set 4 (.obj .new (.host (eHS t)))) := by
  obtain ⟨l0, a1, a3, a4, a5, a6, a7⟩ := S
  exact ⟨by rw [List.length_set, l0], by rw [List.getElem?_set_ne (by decide)]; exact a1, by rw [List.getElem?_set_ne (by decide)]; exact a3, List.getElem?_set_self (by omega), by rw [List.getElem?_set_ne (by decide)]; exact a5, by rw [List.getElem?_set_ne (by decide)]; exact a6, by rw [List.getElem?_set_ne (by decide)]; exact a7⟩
theorem Sl.set89 {h : House} {hook : Str} {a : Int} {sd : D} {s1 s2 : HS} {env : Env} (S : Sl h hook a sd s1 s2 env) {j : Nat} (hj : j = 8 ∨ j = 9) (x : Slot) : Sl h hook a sd s1 s2 (env.set j x) := by
  obtain ⟨l0, a1, a3, a4, a5, a6, a7⟩ := S
  exact ⟨by rw [List.length_set, l0], by rw [List.getElem?_set_ne (by omega)]; exact a1, by rw [List.getElem?_set_ne (by omega)]; exact a3, by rw [List.getElem?_set_ne (by omega)]; exact a4, by rw [List.getElem?_set_ne (by omega)]; exact a5, by rw [List.getElem?_set_ne (by omega)]; exact a6, by rw [List.getElem?_set_ne (by omega)]; exact a7⟩
theorem out_in_body {h : House} (w : WH h) {b : List Str} {p : Part} (hp : p ∈ h) {n : Nat} {s1 s2 : HS} (x : Held h b (n + 400) s1) {hook : Str} {a : Int} {sd : D} {env : Env} (S : Sl h hook a sd s1 s2 env) :
    ∃ env2, lb_law_1 (env.set 8 (.dat (eP p))) = some (.next env2) ∧ ∃ t, Held h b n t ∧ Sl h hook a sd t s2 env2 := by
  have S8 := S.set89 (j := 8) (.inl rfl) (.dat (eP p))
  have a8 : (env.set 8 (.dat (eP p)))[8]? = some (.dat (eP p)) := List.getElem?_set_self (by have := S.l0; omega)
  generalize env.set 8 (.dat (eP p)) = env at S8 a8
  have n0 : ∀ env : Env, env[8]? = some (.dat (eP p)) → f2 ixD (fV 8) (fC (.int 0)) env = some (.str p.name) := fun env a8 => f2_eq (x := eP p) (y := .int 0) (fV_eq a8) rfl rfl
  have q3 := notInT_S (sortT eS b) p.name
  rw [show decide (p.name ∈ sortT eS b) = decide (p.name ∈ b) from decide_eq_decide.mpr (mem_sortT eS b _)] at q3
  have t : fB (f2 notInD (f2 ixD (fV 8) (fC (.int 0))) (fHP 3 m_Host_broken)) env = some (!decide (p.name ∈ b)) := bF (f2_eq (n0 env a8) (fHP_eq S8.a3 (x.broken w)) q3)
  unfold lb_law_1
  by_cases hb : p.name ∈ b
  · rw [decide_eq_true hb] at t
    exact ⟨env, ifF t, s1, x.mono (by omega), S8⟩
  · rw [decide_eq_false hb] at t
    rw [ifT t]
    obtain ⟨o1, x1⟩ := Held.out (n := n + 200) x w (List.mem_map.mpr ⟨p, hp, rfl⟩) hb
    have wl := w.without p.name
    obtain ⟨o2, x2⟩ := x1.put w (by have := wl.len; omega) (back_perm w hp x1.book) hb x.of
    generalize outS (without h p.name) s1 p.name = t1 at *
    generalize putS h t1 p = t2 at *
    refine qSeq_ex2 (fun env => Sl h hook a sd t1 s2 env ∧ env[8]? = some (.dat (eP p))) ⟨_, drop_eq (n := 1) S8.a3 (one_arg (n0 env a8)) rfl o1, S8.set3, by rw [List.getElem?_set_ne (by decide)]; exact a8⟩ fun env ⟨S8, a8⟩ => ?_
    exact ⟨_, drop_eq (n := 1) S8.a3 (one_arg (fV_eq a8)) rfl o2, t2, x2, S8.set3⟩
theorem mend_all {h : House} (w : WH h) {s2 : HS} {hook : Str} {a : Int} {sd : D} {n : Nat} : ∀ (r b : List Str) (s1 : HS) (env : Env), r.Nodup → (∀ x, x ∈ b ↔ x ∈ r) → Held h b (n + 200 * r.length) s1 → Sl h hook a sd s1 s2 env →
    ∃ env2 t, loopS (sN 9) lb_law_2 (r.map eS) env = some (.next env2) ∧ Held h [] n t ∧ Sl h hook a sd t s2 env2
  | [], b, s1, env, _, hb, x, S => by
    have e : b = [] := List.eq_nil_iff_forall_not_mem.mpr fun y hy => by have := (hb y).mp hy; cases this
    subst e
    exact ⟨env, s1, rfl, x, S⟩
  | y :: r, b, s1, env, nd, hb, x, S => by
    rw [List.nodup_cons] at nd
    rw [List.length_cons, Nat.mul_succ, ← Nat.add_assoc] at x
    obtain ⟨o1, x1⟩ := x.mendAny w ((hb y).mpr List.mem_cons_self)
    have S9 := S.set89 (j := 9) (.inr rfl) (.dat (.str y))
    have a9 : (env.set 9 (.dat (.str y)))[9]? = some (.dat (.str y)) := List.getElem?_set_self (by have := S.l0; omega)
    obtain ⟨env2, t, k1, k2⟩ := mend_all w (n := n) r (less b y) (mendS h s1 y) _ nd.2 (fun z => by
      rw [mem_less, hb, List.mem_cons]
      constructor
      · rintro ⟨rfl | h1, h2⟩
        · exact absurd rfl h2
        · exact h1
      · exact fun h1 => ⟨.inr h1, fun e => nd.1 (e ▸ h1)⟩) x1 S9.set3
    refine ⟨env2, t, ?_, k2⟩
    rw [List.map_cons]
    show ((sN 9 (eS y) env).bind fun env1 => (lb_law_2 env1).bind _) = _
    rw [show sN 9 (eS y) env = some (env.set 9 (.dat (.str y))) from rfl, Option.bind_some]
    unfold lb_law_2
    rw [drop_eq (n := 1) S9.a3 (one_arg (fV_eq a9)) rfl o1, Option.bind_some]
    exact k1
theorem cons3 {f g k : Env → Option D} {env : Env} {a b c : D} (e1 : f env = some a) (e2 : g env = some b) (e3 : k env = some c) : fCons f (fCons g (fCons k fNil)) env = some [a, b, c] := by
  unfold fCons fNil; rw [e1, e2, e3]; rfl
theorem law_true (ns : List Int) (hl : ns.length ≤ 63) : m_law [.list (ns.map fun i => .int i)] = some (.bool true) := by
  have hm := fun (k : Nat) => ev_mixed ns k
  have hh := ev_law_house (mixed ns 0)
  have dw := drawnH (mixed ns 0)
  have hh2 := ev_law_house (mixed ns 1)
  have dw2 := drawnH (mixed ns 1)
  have w := dw.wh
  have wo := dw2.wh
  have h6 : (drawnHouse (mixed ns 0)).length ≤ 6 := dw.len
  generalize drawnHouse (mixed ns 0) = h at *
  generalize drawnHouse (mixed ns 1) = os at *
  obtain ⟨s1, f1', x1, t1⟩ := ev_filled w WH.nil (by omega) (mixed ns 2) (n := 500000) (by omega)
  obtain ⟨s2, f2', x2, t2⟩ := ev_filled w wo (by omega) (mixed ns 3) (n := 500000) (by omega)
  have e2 := w.order
  generalize hsc : (PyData.list (ns.map fun i => PyData.int i)) = sc at *
  unfold m_law
  refine bodyD_ret ?_
  unfold g_law
  have dr : ∀ (k : Nat) (env : Env), env[0]? = some (.dat sc) → fCall m__law_mixed 2 (fCons (fV 0) (fCons (fC (.int (k : Int))) fNil)) env = some (.int (mixed ns k)) := fun k env a0 => call_eq (ds := [sc, .int (k : Int)]) (by unfold fCons fNil; rw [fV_eq a0]; rfl) rfl (hm k)
  refine qSeq_ex (fun env => env.length = 10 ∧ env[0]? = some (.dat sc) ∧ env[1]? = some (.dat (eH h))) ⟨_, qSet_eq (call1_eq (dr 0 _ rfl) hh), rfl, rfl, rfl⟩ fun env ⟨l0, a0, a1⟩ => ?_
  refine qSeq_ex (fun env => env.length = 10 ∧ env[0]? = some (.dat sc) ∧ env[1]? = some (.dat (eH h)) ∧ env[2]? = some (.dat (eH os))) ⟨_, qSet_eq (call1_eq (dr 1 _ a0) hh2), by simp [List.getElem?_set, -getElem?_pos, l0, a0, a1]⟩ fun env ⟨l0, a0, a1, a2⟩ => ?_
  have o1 : fCallO m__law_filled 3 (fCons (fV 1) (fCons (fTup fNil) (fCons (fCall m__law_mixed 2 (fCons (fV 0) (fCons (fC (.int 2)) fNil))) fNil))) env = some (eHS s1) := by
    have q : fCons (fV 1) (fCons (fTup fNil) (fCons (fCall m__law_mixed 2 (fCons (fV 0) (fCons (fC (.int 2)) fNil))) fNil)) env = some [eH h, eH [], .int (mixed ns 2)] := cons3 (fV_eq a1) rfl (dr 2 env a0)
    unfold fCallO
    rw [q]; exact f1'
  refine qSeq_ex (fun env => env.length = 10 ∧ env[0]? = some (.dat sc) ∧ env[1]? = some (.dat (eH h)) ∧ env[2]? = some (.dat (eH os)) ∧ env[3]? = some (.obj .new (.host (eHS s1)))) ⟨_, objO_eq o1, by simp [List.getElem?_set, -getElem?_pos, l0, a0, a1, a2]⟩ fun env ⟨l0, a0, a1, a2, a3⟩ => ?_
  have o2 : fCallO m__law_filled 3 (fCons (fV 1) (fCons (fV 2) (fCons (fCall m__law_mixed 2 (fCons (fV 0) (fCons (fC (.int 3)) fNil))) fNil))) env = some (eHS s2) := by
    have q : fCons (fV 1) (fCons (fV 2) (fCons (fCall m__law_mixed 2 (fCons (fV 0) (fCons (fC (.int 3)) fNil))) fNil)) env = some [eH h, eH os, .int (mixed ns 3)] := cons3 (fV_eq a1) (fV_eq a2) (dr 3 env a0)
    unfold fCallO
    rw [q]; exact f2'
  refine qSeq_ex (fun env => env.length = 10 ∧ env[0]? = some (.dat sc) ∧ env[1]? = some (.dat (eH h)) ∧ env[3]? = some (.obj .new (.host (eHS s1))) ∧ env[4]? = some (.obj .new (.host (eHS s2)))) ⟨_, objO_eq o2, by simp [List.getElem?_set, -getElem?_pos, l0, a0, a1, a3]⟩ fun env ⟨l0, a0, a1, a3, a4⟩ => ?_
  have od : fCall m_order 1 (fCons (fV 1) fNil) env = some (.tuple ((order h).map eS)) := call1_eq (fV_eq a1) e2
  refine qSeq_ex (fun env' => env' = env) ⟨env, ifF (orF (bF (f2_eq (fHP_eq a3 (ev_house w x1.book)) (fV_eq a1) (nd_HH h))) (orF (bF (f2_eq (fHP_eq a4 (ev_house w x2.book)) (fV_eq a1) (nd_HH h))) (orF (bF (f2_eq (fHP_eq a3 (by rw [ev_live, x1.run])) od (nd_tS _))) (bF (f2_eq (fHP_eq a4 (by rw [ev_live, x2.run])) od (nd_tS _)))))), rfl⟩ fun env' e => ?_
  subst e
  have hk : ∃ hook : Str, f2 ixD (fTup (fCons (fC (.str "go")) (fCons (fC (.str "end")) fNil))) (f2 modD (fCall m__law_mixed 2 (fCons (fV 0) (fCons (fC (.int 4)) fNil))) (fC (.int 2))) env' = some (.str hook) := by
    have q := f2_eq (op := modD) (z := .int (mixed ns 4 % 2)) (dr 4 env' a0) (g := fC (.int 2)) rfl rfl
    rcases Int.emod_two_eq (mixed ns 4) with e | e
    · exact ⟨"go", f2_eq (x := .tuple [.str "go", .str "end"]) rfl q (by rw [e]; rfl)⟩
    · exact ⟨"end", f2_eq (x := .tuple [.str "go", .str "end"]) rfl q (by rw [e]; rfl)⟩
  obtain ⟨hook, hk⟩ := hk
  refine qSeq_ex (fun env => env.length = 10 ∧ env[0]? = some (.dat sc) ∧ env[1]? = some (.dat (eH h)) ∧ env[3]? = some (.obj .new (.host (eHS s1))) ∧ env[4]? = some (.obj .new (.host (eHS s2))) ∧ env[5]? = some (.dat (.str hook))) ⟨_, qSet_eq hk, by simp [List.getElem?_set, -getElem?_pos, l0, a0, a1, a3, a4]⟩ fun env ⟨l0, a0, a1, a3, a4, a5⟩ => ?_
  refine qSeq_ex (fun env => env.length = 10 ∧ env[1]? = some (.dat (eH h)) ∧ env[3]? = some (.obj .new (.host (eHS s1))) ∧ env[4]? = some (.obj .new (.host (eHS s2))) ∧ env[5]? = some (.dat (.str hook)) ∧ env[6]? = some (.dat (.int (mixed ns 5 % 1000)))) ⟨_, qSet_eq (f2_eq (dr 5 env a0) (y := .int 1000) rfl rfl), by simp [List.getElem?_set, -getElem?_pos, l0, a1, a3, a4, a5]⟩ fun env ⟨l0, a1, a3, a4, a5, a6⟩ => ?_
  generalize mixed ns 5 % 1000 = a at *
  obtain ⟨p1, z1, y1⟩ := Held.pull (n := 400000) (x1.held.mono (by omega)) w hook a
  obtain ⟨p2, _, y2⟩ := Held.pull (n := 400000) (x2.held.mono (by omega)) w hook a
  have tt1 : Tells (pullH h hook a s1) := Tells.pull _ _ t1
  have tt2 : Tells (pullH h hook a s2) := Tells.pull _ _ t2
  have hbg : pullG h hook a h.length [] = pullG h hook a h.length [] := rfl
  generalize hb : pullG h hook a h.length [] = b at *
  generalize pullH h hook a s1 = u1 at *
  generalize pullH h hook a s2 = u2 at *
  refine qSeq_ex (fun env => env.length = 10 ∧ env[1]? = some (.dat (eH h)) ∧ env[3]? = some (.obj .new (.host (eHS u1))) ∧ env[4]? = some (.obj .new (.host (eHS u2))) ∧ env[5]? = some (.dat (.str hook)) ∧ env[6]? = some (.dat (.int a))) (by
      have q := pulls (op := neD) l0 a3 a4 a5 a6 p1 p2 (neD_int _ _)
      rw [decide_eq_true rfl] at q
      refine ⟨(env.set 3 (.obj .new (.host (eHS u1)))).set 4 (.obj .new (.host (eHS u2))), ?_, by simp [List.getElem?_set, -getElem?_pos, l0, a1, a5, a6]⟩
      have br : fB (f2 neD (fHP 3 m_Host_broken) (fHP 4 m_Host_broken)) ((env.set 3 (.obj .new (.host (eHS u1)))).set 4 (.obj .new (.host (eHS u2)))) = some false := bF (f2_eq (fHP_eq (t := eHS u1) (by rw [List.getElem?_set_ne (by decide), List.getElem?_set_self (by omega)]) (y1.broken w)) (fHP_eq (t := eHS u2) (by rw [List.getElem?_set_self (by rw [List.length_set]; omega)]) (y2.broken w)) (nd_tS _))
      unfold qIfM fOrM fBM
      rw [q]
      show (((fP _ _).bind _)) = _
      unfold fP
      rw [br]; rfl) fun env ⟨l0, a1, a3, a4, a5, a6⟩ => ?_
  refine qSeq_ex (Sl h hook a (eH (sndP h b)) u1 u2) ⟨_, qSet_eq (sound_eq w y1 l0 a1 a3), by rw [List.length_set, l0], by rw [List.getElem?_set_ne (by decide)]; exact a1, by rw [List.getElem?_set_ne (by decide)]; exact a3, by rw [List.getElem?_set_ne (by decide)]; exact a4, by rw [List.getElem?_set_ne (by decide)]; exact a5, by rw [List.getElem?_set_ne (by decide)]; exact a6, List.getElem?_set_self (by omega)⟩ fun env S => ?_
  have os1 := (w.snd b).order
  have lv : ∀ (u : HS) (n : Nat), Held h b n u → ∀ (env : Env) (i : Nat), env[i]? = some (.obj .new (.host (eHS u))) → env[7]? = some (.dat (eH (sndP h b))) → fB (f2 neD (fHP i m_Host_live) (fCall m_order 1 (fCons (fV 7) fNil))) env = some false := fun u n y env i ai a7 => bF (f2_eq (fHP_eq ai (by rw [ev_live, y.run])) (call1_eq (fV_eq a7) os1) (nd_tS _))
  have nw : ∀ (u : HS) (n : Nat), Held h b n u → Tells u → ∀ (env : Env) (i : Nat), env[i]? = some (.obj .new (.host (eHS u))) → fB (f2 neD (fHB i 0 m__law_now fNil) (f1 sortD (fHP i m_Host_live))) env = some false := fun u n y t env i ai => by
    have q1 : fHB i 0 m__law_now fNil env = some (.list ((sortT eS u.run).map eS)) := by
      unfold fHB
      rw [hAt ai]
      exact ev_now t (by have := y.few.rows; omega)
    exact bF (f2_eq q1 (f1_eq (fHP_eq ai (ev_live u)) (sortD_Stup u.run)) (nd_lS _))
  refine qSeq_ex (fun env' => env' = env) ⟨env, ifF (orF (lv u1 _ y1 env 3 S.a3 S.a7) (orF (nw u1 _ y1 tt1 env 3 S.a3) (nw u2 _ y2 tt2 env 4 S.a4))), rfl⟩ fun env' e => ?_
  subst e
  have eb : pullG h hook a h.length b = b := pullG_none z1 _
  obtain ⟨p3, _, y3⟩ := Held.pull (n := 300000) (y1.mono (by omega)) w hook a
  obtain ⟨p4, _, y4⟩ := Held.pull (n := 300000) (y2.mono (by omega)) w hook a
  rw [eb] at p3 y3 p4 y4
  generalize pullH h hook a u1 = v1 at *
  generalize pullH h hook a u2 = v2 at *
  refine qSeq_ex (Sl h hook a (eH (sndP h b)) v1 v2) (by
      have q := pulls (op := neD) S.l0 S.a3 S.a4 S.a5 S.a6 p3 p4 (neD_int _ _)
      rw [decide_eq_true rfl] at q
      have S' := S.set3 (t := v1) |>.set4 (t := v2)
      refine ⟨_, ?_, S'⟩
      have br : fB (f2 neD (fHP 3 m_Host_live) (fHP 4 m_Host_live)) ((env'.set 3 (.obj .new (.host (eHS v1)))).set 4 (.obj .new (.host (eHS v2)))) = some false := bF (f2_eq (fHP_eq S'.a3 (ev_live v1)) (fHP_eq S'.a4 (by rw [ev_live, y4.run, ← y3.run])) (nd_tS _))
      unfold qIfM fOrM fBM
      rw [q]
      show (((fP _ _).bind _)) = _
      unfold fP
      rw [br]; rfl) fun env S => ?_
  refine qSeq_ex (fun env => ∃ t, Held h b 200000 t ∧ Sl h hook a (eH (sndP h b)) t v2 env) (by
      obtain ⟨env2, k1, t, k2, k3⟩ := for_res eP (f := fIt (fV 1)) (t := sN 8) (g := lb_law_1) 400 (fun n env => ∃ t, Held h b n t ∧ Sl h hook a (eH (sndP h b)) t v2 env) h (n := 200000) (env := env)
        (by unfold fIt; rw [fV_eq S.a1]; rfl) ⟨v1, y3.mono (by omega), S⟩ fun p hp n env ⟨t, x, S⟩ => ⟨_, rfl, out_in_body w hp x S⟩
      exact ⟨env2, k1, t, k2, k3⟩) fun env ⟨t, x, S⟩ => ?_
  refine qSeq_ex (fun env' => env' = env) ⟨env, ifF (lv t _ x env 3 S.a3 S.a7), rfl⟩ fun env' e => ?_
  subst e
  have bl := x.few_bad w
  refine qSeq_ex (fun env => ∃ t, Held h [] 100000 t ∧ Sl h hook a (eH (sndP h b)) t v2 env) (by
      have hsl : (sortT eS b).length = b.length := sortT_len eS b
      obtain ⟨env2, t2, k1, k2⟩ := mend_all w (n := 100000) (sortT eS b) b t env' ((sortT_perm eS b).nodup_iff.mpr x.nd) (fun y => (mem_sortT eS b y).symm) (x.mono (by omega)) S
      refine ⟨env2, ?_, t2, k2⟩
      show (fIt (fHP 3 m_Host_broken) env').bind _ = _
      rw [show fIt (fHP 3 m_Host_broken) env' = some ((sortT eS b).map eS) from by unfold fIt; rw [fHP_eq S.a3 (x.broken w)]; rfl, Option.bind_some]
      exact k1) fun env ⟨t, x, S⟩ => ?_
  obtain ⟨p5, _, _⟩ := Held.pull (n := 0) (x.mono (by omega)) w hook a
  obtain ⟨p6, _, _⟩ := Held.pull (n := 0) (y4.mono (by omega)) w hook a
  rw [hb] at p5
  rw [eb] at p6
  have q := pulls (op := eqD) S.l0 S.a3 S.a4 S.a5 S.a6 p5 p6 (eqD_int _ _)
  rw [decide_eq_true rfl] at q
  have b1 : fP (f2 eqD (fHP 3 m_Host_broken) (fTup fNil)) env = some (.bool true, env) := by
    unfold fP
    rw [f2_eq (z := .bool true) (fHP_eq S.a3 (x.broken w)) (y := .tuple []) rfl (by show eqD (.tuple ((sortT eS []).map eS)) _ = _; rw [show sortT eS ([] : List Str) = [] by simp [sortT]]; exact eqD_tupS [] [])]; rfl
  have b2 : fP (f2 eqD (fHP 3 m_Host_live) (fCall m_order 1 (fCons (fV 1) fNil))) env = some (.bool true, env) := by
    unfold fP
    rw [f2_eq (z := .bool true) (fHP_eq S.a3 (ev_live t)) (call1_eq (fV_eq S.a1) e2) (by rw [x.run, sndP_nil, eqD_tupS, decide_eq_true rfl])]; rfl
  unfold qRetM fAndVM
  rw [b1]
  show (((fP (f2 eqD (fHP 3 m_Host_live) (fCall m_order 1 (fCons (fV 1) fNil))) env).bind _)).map _ = _
  rw [b2]
  show (f2M eqD _ _ env).map _ = _
  rw [q]; rfl
end PD.W

namespace PD.W
open PySem PySem.Spec PyProof.Rows L2
section
def dd_make_of : He.DefD := ⟨("make_of", none), "make_of", "make_of", defArgs s_make_of, defBody s_make_of, defScope s_make_of, [], []⟩
def dd_gives : He.DefD := ⟨("gives", none), "gives", "gives", defArgs s_gives, defBody s_gives, defScope s_gives, [], []⟩
def dd_givers_for : He.DefD := ⟨("givers_for", none), "givers_for", "givers_for", defArgs s_givers_for, defBody s_givers_for, defScope s_givers_for, [], []⟩
def dd_lacks : He.DefD := ⟨("lacks", none), "lacks", "lacks", defArgs s_lacks, defBody s_lacks, defScope s_lacks, [], []⟩
def dd_standing_parts : He.DefD := ⟨("standing_parts", none), "standing_parts", "standing_parts", defArgs s_standing_parts, defBody s_standing_parts, defScope s_standing_parts, [], []⟩
def dd_giver_among : He.DefD := ⟨("giver_among", none), "giver_among", "giver_among", defArgs s_giver_among, defBody s_giver_among, defScope s_giver_among, [], []⟩
def dd_givers : He.DefD := ⟨("givers", none), "givers", "givers", defArgs s_givers, defBody s_givers, defScope s_givers, [], []⟩
def dd_order : He.DefD := ⟨("order", none), "order", "order", defArgs s_order, defBody s_order, defScope s_order, [], []⟩
def dd_house_of : He.DefD := ⟨("house_of", none), "house_of", "house_of", defArgs s_house_of, defBody s_house_of, defScope s_house_of, [], []⟩
def dd_chain : He.DefD := ⟨("chain", none), "chain", "chain", defArgs s_chain, defBody s_chain, defScope s_chain, [], []⟩
def dd_pulled : He.DefD := ⟨("pulled", none), "pulled", "pulled", defArgs s_pulled, defBody s_pulled, defScope s_pulled, [], []⟩
def dd_Host___init__ : He.DefD := ⟨("Host", some "__init__"), "__init__", "Host.__init__", defArgs s_Host___init__, defBody s_Host___init__, defScope s_Host___init__, [], []⟩
def dd_Host_house : He.DefD := ⟨("Host", some "house"), "house", "Host.house", defArgs s_Host_house, defBody s_Host_house, defScope s_Host_house, [], []⟩
def dd_Host_sound : He.DefD := ⟨("Host", some "sound"), "sound", "Host.sound", defArgs s_Host_sound, defBody s_Host_sound, defScope s_Host_sound, [], []⟩
def dd_Host_settle : He.DefD := ⟨("Host", some "settle"), "settle", "Host.settle", defArgs s_Host_settle, defBody s_Host_settle, defScope s_Host_settle, [], []⟩
def dd_Host_put : He.DefD := ⟨("Host", some "put"), "put", "Host.put", defArgs s_Host_put, defBody s_Host_put, defScope s_Host_put, [], []⟩
def dd_Host_out : He.DefD := ⟨("Host", some "out"), "out", "Host.out", defArgs s_Host_out, defBody s_Host_out, defScope s_Host_out, [], []⟩
def dd_Host_broken : He.DefD := ⟨("Host", some "broken"), "broken", "Host.broken", defArgs s_Host_broken, defBody s_Host_broken, defScope s_Host_broken, [], []⟩
def dd_Host_live : He.DefD := ⟨("Host", some "live"), "live", "Host.live", defArgs s_Host_live, defBody s_Host_live, defScope s_Host_live, [], []⟩
def dd_Host_pull : He.DefD := ⟨("Host", some "pull"), "pull", "Host.pull", defArgs s_Host_pull, defBody s_Host_pull, defScope s_Host_pull, [], []⟩
def dd_Host_mend : He.DefD := ⟨("Host", some "mend"), "mend", "Host.mend", defArgs s_Host_mend, defBody s_Host_mend, defScope s_Host_mend, [], []⟩
def dd_Host_said : He.DefD := ⟨("Host", some "said"), "said", "Host.said", defArgs s_Host_said, defBody s_Host_said, defScope s_Host_said, [], []⟩
def dd__law_cell_at : He.DefD := ⟨("_law_cell_at", none), "_law_cell_at", "_law_cell_at", defArgs s__law_cell_at, defBody s__law_cell_at, defScope s__law_cell_at, [], []⟩
def dd__law_mixed : He.DefD := ⟨("_law_mixed", none), "_law_mixed", "_law_mixed", defArgs s__law_mixed, defBody s__law_mixed, defScope s__law_mixed, [], []⟩
def dd__law_drawn : He.DefD := ⟨("_law_drawn", none), "_law_drawn", "_law_drawn", defArgs s__law_drawn, defBody s__law_drawn, defScope s__law_drawn, [], []⟩
def dd__law_part : He.DefD := ⟨("_law_part", none), "_law_part", "_law_part", defArgs s__law_part, defBody s__law_part, defScope s__law_part, [], []⟩
def dd__law_house : He.DefD := ⟨("_law_house", none), "_law_house", "_law_house", defArgs s__law_house, defBody s__law_house, defScope s__law_house, [], []⟩
def dd__law_filled : He.DefD := ⟨("_law_filled", none), "_law_filled", "_law_filled", defArgs s__law_filled, defBody s__law_filled, defScope s__law_filled, [], []⟩
def dd__law_now : He.DefD := ⟨("_law_now", none), "_law_now", "_law_now", defArgs s__law_now, defBody s__law_now, defScope s__law_now, [], []⟩
def dd_law : He.DefD := ⟨("law", none), "law", "law", defArgs s_law, defBody s_law, defScope s_law, [], []⟩
def fn : List He.DefD := [dd_make_of, dd_gives, dd_givers_for, dd_lacks, dd_standing_parts, dd_giver_among, dd_givers, dd_order, dd_house_of, dd_chain, dd_pulled, dd_Host___init__, dd_Host_house, dd_Host_sound, dd_Host_settle, dd_Host_put, dd_Host_out, dd_Host_broken, dd_Host_live, dd_Host_pull, dd_Host_mend, dd_Host_said, dd__law_cell_at, dd__law_mixed, dd__law_drawn, dd__law_part, dd__law_house, dd__law_filled, dd__law_now, dd_law]
def fa : List He.Fa := [.glo "make_of", .glo "gives", .glo "givers_for", .glo "lacks", .glo "standing_parts", .glo "giver_among", .glo "givers", .glo "order", .glo "house_of", .glo "chain", .glo "pulled", .glo "_law_cell_at", .glo "_law_mixed", .glo "_law_drawn", .glo "_law_part", .glo "_law_house", .glo "_law_filled", .glo "_law_now", .glo "law", .free "all", .free "dict", .free "enumerate", .free "int", .free "len", .free "list", .free "min", .free "range", .free "sorted", .free "tuple", .int "RING" 1000, .glo "Host", .cls "Host", .noat "Host" "parts", .noat "Host" "faulty", .noat "Host" "running", .noat "Host" "rows", .mkr "Host", .meth "Host" "house", .meth "Host" "sound", .meth "Host" "settle", .meth "Host" "put", .meth "Host" "out", .meth "Host" "broken", .meth "Host" "live", .meth "Host" "pull", .meth "Host" "mend", .meth "Host" "said"]
abbrev R : PySem.W.OpenRow := PySem.W.OpenLaw.row PySem.Challenge.rw_parthost_k41_whole_in_any_order
abbrev hk : PySem.W.Hook := He.hookD 5 fa fn
def ob (s : PySem.W.SharedT) : He.AlD := He.obsDG 5 fa fn (HandSHeadRun.getT s)
theorem ob_eq (s : PySem.W.SharedT) : ob s = hk.obs s.abs := He.obsDG_eq (HandSHeadRun.getT_eq s)
theorem run (w : World) : HandSHeadRun.RunEq R (PySem.W.view R.prog [29]) hk ob 4000 ["make_of", "gives", "givers_for", "lacks", "standing_parts", "giver_among", "givers", "order", "house_of", "chain", "pulled", "_law_cell_at", "_law_mixed", "_law_drawn", "_law_part", "_law_house", "_law_filled", "_law_now", "RING", "Host", "HostError", "NoPart"] w := by
  intro os
  kernel_rfl
theorem tb {K : PySem.W.Frag} {h : Heap} {mg : Str → Option Value} (X : K.In h) (G : h.Ns mainGlobals mg) (c : He.SaysD fa fn K) : Tb K mg (He.ga K "Host") where
  h := ⟨He.eqO_ok (c.fact 30 (f := .glo "Host") rfl), He.cls_ok (c.fact 31 (f := .cls "Host") rfl), He.noat_ok (c.fact 32 (f := .noat "Host" "parts") rfl), He.noat_ok (c.fact 33 (f := .noat "Host" "faulty") rfl), He.noat_ok (c.fact 34 (f := .noat "Host" "running") rfl), He.noat_ok (c.fact 35 (f := .noat "Host" "rows") rfl)⟩
  hm := He.glo_ok X G (c.fact 30 (f := .glo "Host") rfl)
  d_make_of := let ⟨fd, F⟩ := c.def_ 0 (d := dd_make_of) rfl; ⟨_, fd, F, He.glo_ok X G (c.fact 0 (f := .glo "make_of") rfl)⟩
  d_gives := let ⟨fd, F⟩ := c.def_ 1 (d := dd_gives) rfl; ⟨_, fd, F, He.glo_ok X G (c.fact 1 (f := .glo "gives") rfl)⟩
  d_givers_for := let ⟨fd, F⟩ := c.def_ 2 (d := dd_givers_for) rfl; ⟨_, fd, F, He.glo_ok X G (c.fact 2 (f := .glo "givers_for") rfl)⟩
  d_lacks := let ⟨fd, F⟩ := c.def_ 3 (d := dd_lacks) rfl; ⟨_, fd, F, He.glo_ok X G (c.fact 3 (f := .glo "lacks") rfl)⟩
  d_standing_parts := let ⟨fd, F⟩ := c.def_ 4 (d := dd_standing_parts) rfl; ⟨_, fd, F, He.glo_ok X G (c.fact 4 (f := .glo "standing_parts") rfl)⟩
  d_giver_among := let ⟨fd, F⟩ := c.def_ 5 (d := dd_giver_among) rfl; ⟨_, fd, F, He.glo_ok X G (c.fact 5 (f := .glo "giver_among") rfl)⟩
  d_givers := let ⟨fd, F⟩ := c.def_ 6 (d := dd_givers) rfl; ⟨_, fd, F, He.glo_ok X G (c.fact 6 (f := .glo "givers") rfl)⟩
  d_order := let ⟨fd, F⟩ := c.def_ 7 (d := dd_order) rfl; ⟨_, fd, F, He.glo_ok X G (c.fact 7 (f := .glo "order") rfl)⟩
  d_house_of := let ⟨fd, F⟩ := c.def_ 8 (d := dd_house_of) rfl; ⟨_, fd, F, He.glo_ok X G (c.fact 8 (f := .glo "house_of") rfl)⟩
  d_chain := let ⟨fd, F⟩ := c.def_ 9 (d := dd_chain) rfl; ⟨_, fd, F, He.glo_ok X G (c.fact 9 (f := .glo "chain") rfl)⟩
  d_pulled := let ⟨fd, F⟩ := c.def_ 10 (d := dd_pulled) rfl; ⟨_, fd, F, He.glo_ok X G (c.fact 10 (f := .glo "pulled") rfl)⟩
  d_Host___init__ := let ⟨fd, F⟩ := c.def_ 11 (d := dd_Host___init__) rfl; ⟨_, fd, F, He.mkr_ok (c.fact 36 (f := .mkr "Host") rfl)⟩
  d_Host_house := let ⟨fd, F⟩ := c.def_ 12 (d := dd_Host_house) rfl; ⟨_, fd, F, He.meth_ok (c.fact 37 (f := .meth "Host" "house") rfl)⟩
  d_Host_sound := let ⟨fd, F⟩ := c.def_ 13 (d := dd_Host_sound) rfl; ⟨_, fd, F, He.meth_ok (c.fact 38 (f := .meth "Host" "sound") rfl)⟩
  d_Host_settle := let ⟨fd, F⟩ := c.def_ 14 (d := dd_Host_settle) rfl; ⟨_, fd, F, He.meth_ok (c.fact 39 (f := .meth "Host" "settle") rfl)⟩
  d_Host_put := let ⟨fd, F⟩ := c.def_ 15 (d := dd_Host_put) rfl; ⟨_, fd, F, He.meth_ok (c.fact 40 (f := .meth "Host" "put") rfl)⟩
  d_Host_out := let ⟨fd, F⟩ := c.def_ 16 (d := dd_Host_out) rfl; ⟨_, fd, F, He.meth_ok (c.fact 41 (f := .meth "Host" "out") rfl)⟩
  d_Host_broken := let ⟨fd, F⟩ := c.def_ 17 (d := dd_Host_broken) rfl; ⟨_, fd, F, He.meth_ok (c.fact 42 (f := .meth "Host" "broken") rfl)⟩
  d_Host_live := let ⟨fd, F⟩ := c.def_ 18 (d := dd_Host_live) rfl; ⟨_, fd, F, He.meth_ok (c.fact 43 (f := .meth "Host" "live") rfl)⟩
  d_Host_pull := let ⟨fd, F⟩ := c.def_ 19 (d := dd_Host_pull) rfl; ⟨_, fd, F, He.meth_ok (c.fact 44 (f := .meth "Host" "pull") rfl)⟩
  d_Host_mend := let ⟨fd, F⟩ := c.def_ 20 (d := dd_Host_mend) rfl; ⟨_, fd, F, He.meth_ok (c.fact 45 (f := .meth "Host" "mend") rfl)⟩
  d_Host_said := let ⟨fd, F⟩ := c.def_ 21 (d := dd_Host_said) rfl; ⟨_, fd, F, He.meth_ok (c.fact 46 (f := .meth "Host" "said") rfl)⟩
  d__law_cell_at := let ⟨fd, F⟩ := c.def_ 22 (d := dd__law_cell_at) rfl; ⟨_, fd, F, He.glo_ok X G (c.fact 11 (f := .glo "_law_cell_at") rfl)⟩
  d__law_mixed := let ⟨fd, F⟩ := c.def_ 23 (d := dd__law_mixed) rfl; ⟨_, fd, F, He.glo_ok X G (c.fact 12 (f := .glo "_law_mixed") rfl)⟩
  d__law_drawn := let ⟨fd, F⟩ := c.def_ 24 (d := dd__law_drawn) rfl; ⟨_, fd, F, He.glo_ok X G (c.fact 13 (f := .glo "_law_drawn") rfl)⟩
  d__law_part := let ⟨fd, F⟩ := c.def_ 25 (d := dd__law_part) rfl; ⟨_, fd, F, He.glo_ok X G (c.fact 14 (f := .glo "_law_part") rfl)⟩
  d__law_house := let ⟨fd, F⟩ := c.def_ 26 (d := dd__law_house) rfl; ⟨_, fd, F, He.glo_ok X G (c.fact 15 (f := .glo "_law_house") rfl)⟩
  d__law_filled := let ⟨fd, F⟩ := c.def_ 27 (d := dd__law_filled) rfl; ⟨_, fd, F, He.glo_ok X G (c.fact 16 (f := .glo "_law_filled") rfl)⟩
  d__law_now := let ⟨fd, F⟩ := c.def_ 28 (d := dd__law_now) rfl; ⟨_, fd, F, He.glo_ok X G (c.fact 17 (f := .glo "_law_now") rfl)⟩
  d_law := let ⟨fd, F⟩ := c.def_ 29 (d := dd_law) rfl; ⟨_, fd, F, He.glo_ok X G (c.fact 18 (f := .glo "law") rfl)⟩
  b_all := He.free_ok X G (c.fact 19 (f := .free "all") rfl)
  b_dict := He.free_ok X G (c.fact 20 (f := .free "dict") rfl)
  b_enumerate := He.free_ok X G (c.fact 21 (f := .free "enumerate") rfl)
  b_int := He.free_ok X G (c.fact 22 (f := .free "int") rfl)
  b_len := He.free_ok X G (c.fact 23 (f := .free "len") rfl)
  b_list := He.free_ok X G (c.fact 24 (f := .free "list") rfl)
  b_min := He.free_ok X G (c.fact 25 (f := .free "min") rfl)
  b_range := He.free_ok X G (c.fact 26 (f := .free "range") rfl)
  b_sorted := He.free_ok X G (c.fact 27 (f := .free "sorted") rfl)
  b_tuple := He.free_ok X G (c.fact 28 (f := .free "tuple") rfl)
  g_RING := He.int_ok X G (c.fact 29 (f := .int "RING" 1000) rfl)
theorem facts {P : Program} {w : World} {K : PySem.W.Frag} {h : Heap} {mg : Str → Option Value} {f : Addr} (X : K.In h) (G : h.Ns mainGlobals mg) (hfa : mg ("law" : Str) = some (.ref f)) (c : He.SaysD fa fn K) :
    ∃ fd : FuncData, (∀ (s : Shared) (v : Value), BindsTo s fd ⟨[v], []⟩ [("_law_script", v)]) ∧ ∀ base : Heap, K.In base → base.Ns mainGlobals mg → FnOk P w K mg base CX0 11 f fd ["_law_script"] (spD K 1 m_law) := by
  have T := tb X G c
  obtain ⟨f', fd, F, g⟩ := T.d_law
  have e := hfa.symm.trans g
  cases e
  have b := FunD.bindsA (ps := ["_law_script"]) F fun _ _ _ _ _ _ us hl => match us, hl with | [_], _ => rfl
  exact ⟨fd, fun s v => b s [v] rfl, fun base _ _ => ok_law T F⟩
end
end PD.W
open PySem PySem.W PySem.Calls PyProof.Rows
theorem PySem.Challenge.cw_parthost_k41_whole_in_any_order_holds : PySem.Challenge.rw_parthost_k41_whole_in_any_order.Holds := by
  w_on; o_law
  refine HandSHeadRun.head_any (r := OpenLaw.row PySem.Challenge.rw_parthost_k41_whole_in_any_order) (q := view (OpenLaw.row PySem.Challenge.rw_parthost_k41_whole_in_any_order).prog [29]) (H := PD.W.hk) (ob := PD.W.ob) (M := 4000) (loose := ["make_of", "gives", "givers_for", "lacks", "standing_parts", "giver_among", "givers", "order", "house_of", "chain", "pulled", "_law_cell_at", "_law_mixed", "_law_drawn", "_law_part", "_law_house", "_law_filled", "_law_now", "RING", "Host", "HostError", "NoPart"]) (d := HandSHeadRun.topDef (OpenLaw.row PySem.Challenge.rw_parthost_k41_whole_in_any_order).prog 29) (kwd := []) PD.W.ob_eq
    (by kernel_rfl) (fun s => by kernel_rfl) PD.W.run (by kernel_rfl) (by kernel_rfl) (by kernel_rfl) (by rfl) (by first | assumption | decide +kernel) (by decide +kernel) ⟨rfl, rfl, rfl, rfl, rfl, by decide +kernel⟩ ?hw ?hc
  case hw => w_witness2
  case hc =>
    refine L2.walk_ofE (l := PySem.Challenge.rw_parthost_k41_whole_in_any_order) (n := 63) (k := 11) (x := "_law_script") (CX := L2.CX0) rfl (by decide) (by kernel_rfl) ⟨rfl, by decide, by decide⟩ ?F (fun _ _ _ _ z => z)
    intro w mg fa h Y G hmg0
    obtain ⟨K, KX, c⟩ := Y
    have hmg : mg ("law" : PySem.Str) = some (.ref fa) := by
      have e : (HandSHeadRun.topDef (OpenLaw.row PySem.Challenge.rw_parthost_k41_whole_in_any_order).prog 29).name = ("law" : PySem.Str) := by kernel_rfl
      rw [← e]
      exact hmg0
    obtain ⟨fd, hb, hF⟩ := PD.W.facts (P := (PySem.Challenge.rw_parthost_k41_whole_in_any_order).prog) (w := w) KX G hmg c
    exact ⟨K, fd, PD.spD K 1 PD.W.m_law, KX, hb, fun H a ns hl _ hS => PD.sp_start hl hS (PD.W.law_true ns hl) (fun _ => rfl), hF⟩


