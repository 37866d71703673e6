import PyProof.Rows.All
import Wide.All
import OpenK.AllK
import Wide.FinOn
import HandS.ForMost
import HandS.ForExc
import HandS.Wide
import HandS.Property
import HandS.Style
import HandS.DictComp
import HandS.SetFor
import PyProof.ListRange
import KE.KDictZip
import HandS.Zip0
import KE.IntBitsLaws
import HandS.More
import HandS.Iter
import HandS.Defaults
import HandS.MakeKwOnly
import HandS.IsInst
import PySem.Challenge.RW_figurebooks_k53_recurrences
set_option Elab.async false
set_option linter.all false
set_option maxRecDepth 100000
set_option maxHeartbeats 2000000
/-! Dl: a layer over HandS that speaks of data, not of heaps. Part 1: data, cells, configurations. -/
namespace Dl
open PySem L2

/-- data: what a value that nobody changes is worth -/
inductive D where
  | non | bl (b : Bool) | int (i : Int) | str (x : Str)
  | lst (xs : List D) | tup (xs : List D)
  | dic (ks : List Key) (ds : List D)
  | ins (C : Addr) (fs : List Str) (ds : List D)
  /-- the script: a list of ints that stands locked -/
  | scr (ns : List Int)

/-- a list, a tuple, that stands at a: an object that is not of N, or one that is written -/
def RdT (K : PySem.W.Frag) (N : Addr → Prop) (H : Hp) (a : Addr) (vs : List V) : Prop := (¬ N a ∧ H a = some (.tup vs)) ∨ SqT K (fun _ => none) a vs
theorem rd_no {a : Addr} {u : HO} : ¬ Rd (fun _ => none) a u := fun h => by
  rcases h with h | ⟨o, h⟩ <;> cases h
theorem RdT.sq {K N H a vs} (h : RdT K N H a vs) : SqT K H a vs := by
  rcases h with ⟨_, h⟩ | h
  · exact .inl (.inl h)
  · rcases h with h | h
    · exact (rd_no h).elim
    · exact .inr h

/-- the same of a list that is locked -/
def RdL (K : PySem.W.Frag) (N : Addr → Prop) (H : Hp) (a : Addr) (vs : List V) : Prop := (¬ N a ∧ Rd H a (.lst vs)) ∨ SqL K (fun _ => none) a vs
theorem RdL.sq {K N H a vs} (h : RdL K N H a vs) : SqL K H a vs := by
  rcases h with ⟨_, h⟩ | h
  · exact .inl h
  · rcases h with h | h
    · exact (rd_no h).elim
    · exact .inr h

mutual
def DV (K : PySem.W.Frag) (N : Addr → Prop) (H : Hp) : D → V → Prop
  | .non, v => v = .non
  | .bl b, v => v = .bl b
  | .int i, v => v = .int i
  | .str x, v => v = .str x
  | .lst ds, v => ∃ a vs, v = .ref a ∧ ¬ N a ∧ H a = some (.lst vs) ∧ DVs K N H ds vs
  | .tup ds, v => ∃ a vs, v = .ref a ∧ RdT K N H a vs ∧ DVs K N H ds vs
  | .dic ks ds, v => ∃ a kvs, v = .ref a ∧ ¬ N a ∧ Rd H a (.dK kvs) ∧ kvs.map (·.1) = ks ∧ DVs K N H ds (kvs.map (·.2))
  | .ins C fs ds, v => ∃ a dx gs, v = .ref a ∧ ¬ N a ∧ H a = some (.ins C dx gs) ∧ gs.map (·.1) = fs ∧ DVs K N H ds (gs.map (·.2))
  | .scr ns, v => ∃ a, v = .ref a ∧ RdL K N H a (ns.map V.int)
def DVs (K : PySem.W.Frag) (N : Addr → Prop) (H : Hp) : List D → List V → Prop
  | [], vs => vs = []
  | d :: ds, vs => ∃ v r, vs = v :: r ∧ DV K N H d v ∧ DVs K N H ds r
end

/-- what N keeps stays: N may shrink (or grow by what is new) -/
structure Kp (N N' : Addr → Prop) (H H' : Hp) : Prop where
  n : ∀ a, N' a → N a ∨ H a = none
  h : ∀ a o, ¬ N a → H a = some o → H' a = some o
theorem Kp.refl (N H) : Kp N N H H := ⟨fun _ h => .inl h, fun _ _ _ h => h⟩
theorem Kp.rd {N N' H H'} (k : Kp N N' H H') {a : Addr} {u : HO} (n : ¬ N a) (h : Rd H a u) : ¬ N' a ∧ Rd H' a u := by
  refine ⟨fun z => ?_, ?_⟩
  · rcases k.n a z with z | z
    · exact n z
    · rcases h with h | ⟨o, h⟩ <;> rw [z] at h <;> cases h
  · rcases h with h | ⟨o, h⟩
    · exact .inl (k.h a _ n h)
    · exact .inr ⟨o, k.h a _ n h⟩
theorem Kp.rdT {K N N' H H'} (k : Kp N N' H H') {a vs} (h : RdT K N H a vs) : RdT K N' H' a vs := by
  rcases h with ⟨n, h⟩ | h
  · exact .inl ⟨(k.rd n (.inl h)).1, k.h a _ n h⟩
  · exact .inr h
mutual
theorem DV.kp {K N N' H H'} (k : Kp N N' H H') : ∀ (d : D) (v : V), DV K N H d v → DV K N' H' d v
  | .non, v, h => h
  | .bl b, v, h => h
  | .int i, v, h => h
  | .str x, v, h => h
  | .lst ds, v, h => by
    obtain ⟨a, vs, e, n, r, q⟩ := h
    exact ⟨a, vs, e, (k.rd n (.inl r)).1, k.h a _ n r, DVs.kp k ds vs q⟩
  | .tup ds, v, h => by
    obtain ⟨a, vs, e, r, q⟩ := h
    exact ⟨a, vs, e, k.rdT r, DVs.kp k ds vs q⟩
  | .dic ks ds, v, h => by
    obtain ⟨a, kvs, e, n, r, z, q⟩ := h
    have x := k.rd n r
    exact ⟨a, kvs, e, x.1, x.2, z, DVs.kp k ds _ q⟩
  | .ins C fs ds, v, h => by
    obtain ⟨a, dx, gs, e, n, r, z, q⟩ := h
    have x := k.rd n (.inl r)
    exact ⟨a, dx, gs, e, x.1, k.h a _ n r, z, DVs.kp k ds _ q⟩
  | .scr ns, v, h => by
    obtain ⟨a, e, r⟩ := h
    exact ⟨a, e, r.imp (fun z => k.rd z.1 z.2) id⟩
theorem DVs.kp {K N N' H H'} (k : Kp N N' H H') : ∀ (ds : List D) (vs : List V), DVs K N H ds vs → DVs K N' H' ds vs
  | [], vs, h => h
  | d :: ds, vs, h => by
    obtain ⟨v, r, e, q, z⟩ := h
    exact ⟨v, r, e, DV.kp k d v q, DVs.kp k ds r z⟩
end
section
variable {K : PySem.W.Frag} {N : Addr → Prop} {H : Hp}
theorem DVs.length : ∀ {ds : List D} {vs : List V}, DVs K N H ds vs → ds.length = vs.length
  | [], vs, h => by
    have e : vs = [] := h
    rw [e]
    rfl
  | d :: ds, vs, h => by
    obtain ⟨v, r, rfl, _, z⟩ := h
    simp [DVs.length z]
theorem DVs.get : ∀ {ds : List D} {vs : List V} {i : Nat} {d : D}, DVs K N H ds vs → ds[i]? = some d → ∃ v, vs[i]? = some v ∧ DV K N H d v
  | [], _, _, _, _, e => by simp at e
  | d :: ds, vs, 0, x, h, e => by
    obtain ⟨v, r, rfl, q, _⟩ := h
    simp at e
    subst e
    exact ⟨v, rfl, q⟩
  | d :: ds, vs, i + 1, x, h, e => by
    obtain ⟨v, r, rfl, _, z⟩ := h
    obtain ⟨w, e1, q⟩ := DVs.get (i := i) z (by simpa using e)
    exact ⟨w, by simpa using e1, q⟩
theorem DVs.get' : ∀ {ds : List D} {vs : List V} {i : Nat} {v : V}, DVs K N H ds vs → vs[i]? = some v → ∃ d, ds[i]? = some d ∧ DV K N H d v
  | [], vs, i, v, h, e => by
    have z : vs = [] := h
    subst z
    simp at e
  | d :: ds, vs, 0, x, h, e => by
    obtain ⟨v, r, rfl, q, _⟩ := h
    simp at e
    subst e
    exact ⟨d, rfl, q⟩
  | d :: ds, vs, i + 1, x, h, e => by
    obtain ⟨v, r, rfl, _, z⟩ := h
    obtain ⟨w, e1, q⟩ := DVs.get' (i := i) z (by simpa using e)
    exact ⟨w, by simpa using e1, q⟩
theorem DVs.append : ∀ {ds es : List D} {vs us : List V}, DVs K N H ds vs → DVs K N H es us → DVs K N H (ds ++ es) (vs ++ us)
  | [], es, vs, us, h, q => by
    have z : vs = [] := h
    subst z
    exact q
  | d :: ds, es, vs, us, h, q => by
    obtain ⟨v, r, rfl, a, z⟩ := h
    exact ⟨v, r ++ us, rfl, a, DVs.append z q⟩
theorem DVs.nil : DVs K N H [] [] := rfl
theorem DVs.cons {d v ds vs} (h : DV K N H d v) (t : DVs K N H ds vs) : DVs K N H (d :: ds) (v :: vs) := ⟨v, vs, rfl, h, t⟩
theorem DVs.one {d v} (h : DV K N H d v) : DVs K N H [d] [v] := .cons h .nil
theorem DVs.take : ∀ {ds : List D} {vs : List V} (n : Nat), DVs K N H ds vs → DVs K N H (ds.take n) (vs.take n)
  | _, _, 0, _ => by
    simp only [List.take_zero]
    exact .nil
  | [], vs, n + 1, h => by
    have z : vs = [] := h
    subst z
    exact .nil
  | d :: ds, vs, n + 1, h => by
    obtain ⟨v, r, rfl, a, z⟩ := h
    exact .cons a (DVs.take n z)
theorem DVs.drop : ∀ {ds : List D} {vs : List V} (n : Nat), DVs K N H ds vs → DVs K N H (ds.drop n) (vs.drop n)
  | _, _, 0, h => h
  | [], vs, n + 1, h => by
    have z : vs = [] := h
    subst z
    exact .nil
  | d :: ds, vs, n + 1, h => by
    obtain ⟨v, r, rfl, a, z⟩ := h
    exact DVs.drop n z
theorem DVs.set {d v} (h : DV K N H d v) : ∀ {ds : List D} {vs : List V} (i : Nat), DVs K N H ds vs → DVs K N H (ds.set i d) (vs.set i v)
  | [], vs, i, z => by
    have z : vs = [] := z
    subst z
    exact .nil
  | x :: ds, vs, 0, z => by
    obtain ⟨u, r, rfl, a, z⟩ := z
    exact .cons h z
  | x :: ds, vs, i + 1, z => by
    obtain ⟨u, r, rfl, a, z⟩ := z
    exact .cons a (DVs.set h i z)
theorem DVs.reverse : ∀ {ds : List D} {vs : List V}, DVs K N H ds vs → DVs K N H ds.reverse vs.reverse
  | [], vs, h => by
    have z : vs = [] := h
    subst z
    exact .nil
  | d :: ds, vs, h => by
    obtain ⟨v, r, rfl, a, z⟩ := h
    rw [List.reverse_cons, List.reverse_cons]
    exact (DVs.reverse z).append (.one a)
theorem DVs.ints : ∀ (ns : List Int), DVs K N H (ns.map D.int) (ns.map V.int)
  | [] => .nil
  | n :: ns => .cons rfl (DVs.ints ns)
theorem DVs.ints_inv : ∀ {ns : List Int} {vs : List V}, DVs K N H (ns.map D.int) vs → vs = ns.map V.int
  | [], vs, h => h
  | n :: ns, vs, h => by
    obtain ⟨v, r, rfl, a, z⟩ := h
    have e : v = .int n := a
    rw [e, DVs.ints_inv z]
    rfl
end

/-! ### cells: what may be changed -/
inductive Cell where
  | lst (ds : List D) | dic (ks : List Key) (ds : List D) | ins (C : Addr) (fs : List Str) (ds : List D)
  /-- no longer changed -/
  | dead (d : D)
  /-- a dict that is locked for a while -/
  | fz (od : Obj) (kvs : List (Key × V)) (ds : List D)
def Cell.live : Cell → Bool
  | .dead _ => false
  | _ => true
def Cell.toD : Cell → D
  | .lst ds => .lst ds
  | .dic ks ds => .dic ks ds
  | .ins C fs ds => .ins C fs ds
  | .dead d => d
  | .fz _ kvs ds => .dic (kvs.map (·.1)) ds
def Cell.opn : Cell → Bool
  | .dead _ => false
  | .fz _ _ _ => false
  | _ => true
theorem Cell.opn_live {c : Cell} (h : c.opn = true) : c.live = true := by
  cases c <;> first | rfl | cases h
def cellOf : D → Cell
  | .lst ds => .lst ds
  | .dic ks ds => .dic ks ds
  | .ins C fs ds => .ins C fs ds
  | d => .dead d
theorem cellOf_opn {d : D} (h : (cellOf d).live = true) : (cellOf d).opn = true := by
  cases d <;> first | rfl | cases h
abbrev Mem := List Cell
def CellOk (K : PySem.W.Frag) (N : Addr → Prop) (H : Hp) (a : Addr) : Cell → Prop
  | .lst ds => ∃ vs, H a = some (.lst vs) ∧ DVs K N H ds vs
  | .dic ks ds => ∃ kvs, H a = some (.dK kvs) ∧ kvs.map (·.1) = ks ∧ DVs K N H ds (kvs.map (·.2))
  | .ins C fs ds => ∃ dx gs, H a = some (.ins C dx gs) ∧ gs.map (·.1) = fs ∧ DVs K N H ds (gs.map (·.2))
  | .dead d => DV K N H d (.ref a)
  | .fz od kvs ds => H a = some (.frz od (.dK kvs)) ∧ DVs K N H ds (kvs.map (·.2))
/-- a name's value: no word of it; data; the cell k; an instance whose one field f is the cell k -/
inductive EI where
  | un | dat (d : D) | cel (k : Nat) | spn (C : Addr) (f : Str) (k : Nat)
abbrev EnvD := List EI
abbrev Conf := EnvD × Mem
def VOk (K : PySem.W.Frag) (N : Addr → Prop) (H : Hp) (as : List Addr) : EI → V → Prop
  | .un, _ => True
  | .dat d, v => DV K N H d v
  | .cel k, v => ∃ a, as[k]? = some a ∧ v = .ref a
  | .spn C f k, v => ∃ x dx a, v = .ref x ∧ ¬ N x ∧ H x = some (.ins C dx [(f, .ref a)]) ∧ as[k]? = some a
def SlOk (K : PySem.W.Frag) (N : Addr → Prop) (H : Hp) (as : List Addr) : EI → Option V → Prop
  | .un, _ => True
  | e, o => ∃ v, o = some v ∧ VOk K N H as e v

theorem CellOk.kp {K N N' H H'} (k : Kp N N' H H') {a : Addr} (ha : H' a = H a) : ∀ {c : Cell}, CellOk K N H a c → CellOk K N' H' a c
  | .lst ds, h => by
    obtain ⟨vs, e, q⟩ := h
    exact ⟨vs, ha.trans e, DVs.kp k _ _ q⟩
  | .dic ks ds, h => by
    obtain ⟨vs, e, z, q⟩ := h
    exact ⟨vs, ha.trans e, z, DVs.kp k _ _ q⟩
  | .ins C fs ds, h => by
    obtain ⟨dx, vs, e, z, q⟩ := h
    exact ⟨dx, vs, ha.trans e, z, DVs.kp k _ _ q⟩
  | .dead d, h => DV.kp k _ _ h
  | .fz od ks ds, h => by
    obtain ⟨e, q⟩ := h
    exact ⟨ha.trans e, DVs.kp k _ _ q⟩
/-- the shrinking of N alone -/
theorem CellOk.mono {K N N' H} (k : ∀ a, N' a → N a) {a : Addr} {c : Cell} (h : CellOk K N H a c) : CellOk K N' H a c := h.kp ⟨fun a z => .inl (k a z), fun _ _ _ z => z⟩ rfl
theorem DV.mono {K N N' H} (k : ∀ a, N' a → N a) {d : D} {v : V} (h : DV K N H d v) : DV K N' H d v := DV.kp ⟨fun a z => .inl (k a z), fun _ _ _ z => z⟩ d v h
theorem DVs.mono {K N N' H} (k : ∀ a, N' a → N a) {d : List D} {v : List V} (h : DVs K N H d v) : DVs K N' H d v := DVs.kp ⟨fun a z => .inl (k a z), fun _ _ _ z => z⟩ d v h
theorem VOk.kp {K N N' H H' as as'} (k : Kp N N' H H') (p : as <+: as') : ∀ {e : EI} {v : V}, VOk K N H as e v → VOk K N' H' as' e v
  | .un, _, _ => trivial
  | .dat d, v, h => DV.kp k d v h
  | .cel i, v, h => by
    obtain ⟨a, e, z⟩ := h
    exact ⟨a, by obtain ⟨r, rfl⟩ := p; rw [List.getElem?_append_left (List.getElem?_eq_some_iff.mp e).1]; exact e, z⟩
  | .spn C f i, v, h => by
    obtain ⟨x, dx, a, z, n, r, e⟩ := h
    exact ⟨x, dx, a, z, (k.rd n (.inl r)).1, k.h x _ n r, by obtain ⟨r, rfl⟩ := p; rw [List.getElem?_append_left (List.getElem?_eq_some_iff.mp e).1]; exact e⟩
theorem SlOk.kp {K N N' H H' as as'} (k : Kp N N' H H') (p : as <+: as') : ∀ {e : EI} {v : Option V}, SlOk K N H as e v → SlOk K N' H' as' e v
  | .un, _, _ => trivial
  | .dat d, v, h => let ⟨x, e, q⟩ := h; ⟨x, e, VOk.kp k p q⟩
  | .cel d, v, h => let ⟨x, e, q⟩ := h; ⟨x, e, VOk.kp k p q⟩
  | .spn C f d, v, h => let ⟨x, e, q⟩ := h; ⟨x, e, VOk.kp k p q⟩
theorem SlOk.of {K N H as e v} (h : VOk K N H as e v) : SlOk K N H as e (some v) := by
  cases e with
  | un => trivial
  | dat d => exact ⟨v, rfl, h⟩
  | cel k => exact ⟨v, rfl, h⟩
  | spn C f k => exact ⟨v, rfl, h⟩
theorem SlOk.val {K N H as e o} (h : SlOk K N H as e o) (hn : e ≠ .un) : ∃ v, o = some v ∧ VOk K N H as e v := by
  cases e with
  | un => exact absurd rfl hn
  | dat d => exact h
  | cel k => exact h
  | spn C f k => exact h

/-- what stands around: the callers' cells N0; the heap at the entry; the cells that were handed in; ghosts -/
structure Bs where
  N0 : Addr → Prop
  H0 : Hp
  A0 : List Addr
  G : List (EI × V)
/-- what may change -/
def Ne (B : Bs) (as : List Addr) (M : Mem) (a : Addr) : Prop := B.N0 a ∨ ∃ (k : Nat) (c : Cell), as[k]? = some a ∧ M[k]? = some c ∧ c.live = true
structure CF (K : PySem.W.Frag) (B : Bs) (as : List Addr) (c : Conf) (σ : St) (H : Hp) : Prop where
  len : as.length = c.2.length
  nd : as.Nodup
  nb : ∀ a, B.N0 a → B.H0 a ≠ none
  n0 : ∀ a, B.N0 a → H a ≠ none
  a0 : ∀ a ∈ as, H a ≠ none
  pre : B.A0 <+: as
  cells : ∀ (k : Nat) (a : Addr) (x : Cell), as[k]? = some a → c.2[k]? = some x → CellOk K (Ne B as c.2) H a x
  sl : σ.length = c.1.length
  slots : ∀ (i : Nat) (e : EI), c.1[i]? = some e → ∃ o, σ[i]? = some o ∧ SlOk K (Ne B as c.2) H as e o
  frame : ∀ a o, B.H0 a = some o → a ∉ B.A0 → H a = some o
  fresh : ∀ (k : Nat) (a : Addr), as[k]? = some a → B.A0.length ≤ k → B.H0 a = none
  gh : ∀ g ∈ B.G, VOk K (Ne B as c.2) H as g.1 g.2
/-- the same, at a longer list of cells -/
structure CG (K : PySem.W.Frag) (B : Bs) (as as' : List Addr) (c : Conf) (σ : St) (H : Hp) : Prop where
  px : as <+: as'
  cf : CF K B as' c σ H
theorem CF.g {K B as c σ H} (h : CF K B as c σ H) : CG K B as as c σ H := ⟨List.prefix_refl _, h⟩
theorem CG.tr {K B as as1 as2 c σ H c' σ' H'} (h : CG K B as as1 c' σ' H') (h2 : CG K B as1 as2 c σ H) : CG K B as as2 c σ H := ⟨h.px.trans h2.px, h2.cf⟩
def Bs.add (B : Bs) (g : EI × V) : Bs := { B with G := g :: B.G }
section
variable {K : PySem.W.Frag} {B : Bs} {as : List Addr} {env : EnvD} {M M' : Mem} {c : Conf} {σ : St} {H H' : Hp}
theorem CF.add (h : CF K B as c σ H) {r : EI} {v : V} (q : VOk K (Ne B as c.2) H as r v) : CF K (B.add (r, v)) as c σ H :=
  ⟨h.len, h.nd, h.nb, h.n0, h.a0, h.pre, h.cells, h.sl, h.slots, h.frame, h.fresh, fun g hg => (List.mem_cons.mp hg).elim (fun e => by
    subst e
    exact q) (h.gh g)⟩
theorem CF.pop {g : EI × V} (h : CF K (B.add g) as c σ H) : CF K B as c σ H := ⟨h.len, h.nd, h.nb, h.n0, h.a0, h.pre, h.cells, h.sl, h.slots, h.frame, h.fresh, fun x hx => h.gh x (List.mem_cons_of_mem _ hx)⟩
theorem CG.pop {g : EI × V} {as'} (h : CG K (B.add g) as as' c σ H) : CG K B as as' c σ H := ⟨h.px, h.cf.pop⟩
theorem CF.top {g : EI × V} (h : CF K (B.add g) as c σ H) : VOk K (Ne B as c.2) H as g.1 g.2 := h.gh g List.mem_cons_self
/-- every N is there -/
theorem CF.alloc (h : CF K B as c σ H) : ∀ a, Ne B as c.2 a → H a ≠ none := fun a z => by
  rcases z with z | ⟨k, x, e, _, _⟩
  · exact h.n0 a z
  · exact h.a0 a (List.mem_of_getElem? e)
/-- the heap grows, all else as it was -/
theorem CF.grow (h : CF K B as c σ H) (g : ∀ a o, H a = some o → H' a = some o) : CF K B as c σ H' := by
  have k : Kp (Ne B as c.2) (Ne B as c.2) H H' := ⟨fun a z => .inl z, fun a o _ z => g a o z⟩
  have al : ∀ a, H a ≠ none → H' a ≠ none := fun a z => by
    cases e : H a with
    | none => exact absurd e z
    | some o => rw [g a o e]; exact fun q => by cases q
  refine { len := h.len, nd := h.nd, nb := h.nb, n0 := fun a z => al a (h.n0 a z), a0 := fun a z => al a (h.a0 a z), pre := h.pre, cells := fun i a x e1 e2 => ?_, sl := h.sl, slots := fun i e z => ?_, frame := fun a o e n => g a o (h.frame a o e n), fresh := h.fresh, gh := fun x hx => (h.gh x hx).kp k (List.prefix_refl _) }
  · refine (h.cells i a x e1 e2).kp k ?_
    cases e : H a with
    | none => exact absurd e (h.a0 a (List.mem_of_getElem? e1))
    | some o => exact g a o e
  · obtain ⟨o, e1, q⟩ := h.slots i e z
    exact ⟨o, e1, q.kp k (List.prefix_refl _)⟩
theorem grow_new {p : Addr} {o : HO} (hp : H p = none) : ∀ a u, H a = some u → upd H p o a = some u := fun a u e => by
  rw [upd_ne (ne_of_none e hp)]
  exact e
theorem CF.ne_new (h : CF K B as c σ H) {p : Addr} (hp : H p = none) : ¬ Ne B as c.2 p := fun z => h.alloc p z hp
/-- a new cell -/
theorem CF.new (h : CF K B as (env, M) σ H) {p : Addr} {x : Cell} {o : HO} (hp : H p = none) (hx : x.live = true → CellOk K (fun a => Ne B as M a ∨ a = p) (upd H p o) p x) (hd : x.live = false → CellOk K (Ne B as M) (upd H p o) p x) : CF K B (as ++ [p]) (env, M ++ [x]) σ (upd H p o) := by
  have g := grow_new (o := o) hp
  have hl : as.length = M.length := h.len
  have nin : p ∉ as := fun z => h.a0 p z hp
  have nA : B.H0 p = none := by
    cases e : B.H0 p with
    | none => rfl
    | some u =>
      have hn : p ∉ B.A0 := fun z => nin (h.pre.subset z)
      rw [h.frame p u e hn] at hp
      cases hp
  have ne1 : ∀ a, Ne B (as ++ [p]) (M ++ [x]) a → Ne B as M a ∨ (a = p ∧ x.live = true) := fun a z => by
    rcases z with z | ⟨k, y, e1, e2, lv⟩
    · exact .inl (.inl z)
    · by_cases hk : k < as.length
      · rw [List.getElem?_append_left hk] at e1
        rw [List.getElem?_append_left (hl ▸ hk)] at e2
        exact .inl (.inr ⟨k, y, e1, e2, lv⟩)
      · rw [List.getElem?_append_right (by omega)] at e1
        rw [List.getElem?_append_right (by omega)] at e2
        have k0 : k - as.length = 0 := by
          have := (List.getElem?_eq_some_iff.mp e1).1
          simp at this
          omega
        rw [k0] at e1
        rw [show k - M.length = 0 by omega] at e2
        simp at e1 e2
        subst e1
        subst e2
        exact .inr ⟨rfl, lv⟩
  have k : Kp (Ne B as M) (Ne B (as ++ [p]) (M ++ [x])) H (upd H p o) := ⟨fun a z => (ne1 a z).imp id fun q => by rw [q.1]; exact hp, fun a u _ z => g a u z⟩
  have al : ∀ a, H a ≠ none → upd H p o a ≠ none := fun a z => by
    cases e : H a with
    | none => exact absurd e z
    | some u => rw [g a u e]; exact fun q => by cases q
  refine { len := by simp [hl], nd := ?_, nb := h.nb, n0 := fun a z => al a (h.n0 a z), a0 := fun a z => ?_, pre := h.pre.trans (List.prefix_append _ _), cells := fun i a y e1 e2 => ?_, sl := h.sl, slots := fun i e z => ?_, frame := fun a u e n => g a u (h.frame a u e n), fresh := fun i a e1 hi => ?_, gh := fun y hy => (h.gh y hy).kp k (List.prefix_append _ _) }
  · rw [List.nodup_append]
    exact ⟨h.nd, by simp, fun a ha b hb => by
      simp at hb
      subst hb
      exact fun e => nin (e ▸ ha)⟩
  · rcases List.mem_append.mp z with z | z
    · exact al a (h.a0 a z)
    · simp at z
      subst z
      rw [upd_same]
      exact fun q => by cases q
  · have e2 : (M ++ [x])[i]? = some y := e2
    show CellOk K (Ne B (as ++ [p]) (M ++ [x])) _ a y
    by_cases hk : i < as.length
    · rw [List.getElem?_append_left hk] at e1
      rw [List.getElem?_append_left (hl ▸ hk)] at e2
      refine (h.cells i a y e1 e2).kp k ?_
      exact upd_ne fun z => nin (z ▸ List.mem_of_getElem? e1)
    · rw [List.getElem?_append_right (by omega)] at e1
      rw [List.getElem?_append_right (by omega)] at e2
      have k0 : i - as.length = 0 := by
        have := (List.getElem?_eq_some_iff.mp e1).1
        simp at this
        omega
      rw [k0] at e1
      rw [show i - M.length = 0 by omega] at e2
      simp at e1 e2
      subst e1
      subst e2
      cases lv : x.live with
      | true => exact (hx lv).mono fun a z => (ne1 a z).imp id fun q => q.1
      | false =>
        refine (hd lv).mono fun a z => ?_
        rcases ne1 a z with q | q
        · exact q
        · rw [lv] at q
          cases q.2
  · obtain ⟨u, e1, q⟩ := h.slots i e z
    exact ⟨u, e1, q.kp k (List.prefix_append _ _)⟩
  · by_cases hk : i < as.length
    · rw [List.getElem?_append_left hk] at e1
      exact h.fresh i a e1 hi
    · rw [List.getElem?_append_right (by omega)] at e1
      have : i - as.length = 0 := by
        have := (List.getElem?_eq_some_iff.mp e1).1
        simp at this
        omega
      rw [this] at e1
      simp at e1
      subst e1
      exact nA
/-- the live cell k is changed -/
theorem CF.put (h : CF K B as (env, M) σ H) {k : Nat} {p : Addr} {x y : Cell} {o : HO} (ha : as[k]? = some p) (hm : M[k]? = some x) (lx : x.live = true) (ly : y.live = true) (hy : Kp (Ne B as M) (Ne B as (M.set k y)) H (upd H p o) → CellOk K (Ne B as (M.set k y)) (upd H p o) p y) : CF K B as (env, M.set k y) σ (upd H p o) := by
  have hl : as.length = M.length := h.len
  have hkM : k < M.length := (List.getElem?_eq_some_iff.mp hm).1
  have np : Ne B as M p := .inr ⟨k, x, ha, hm, lx⟩
  have ne1 : ∀ a, Ne B as (M.set k y) a → Ne B as M a := fun a z => by
    rcases z with z | ⟨i, c, e1, e2, lv⟩
    · exact .inl z
    · by_cases hi : i = k
      · subst hi
        rw [ha] at e1
        cases e1
        exact np
      · rw [List.getElem?_set_ne (Ne.symm hi)] at e2
        exact .inr ⟨i, c, e1, e2, lv⟩
  have kp : Kp (Ne B as M) (Ne B as (M.set k y)) H (upd H p o) := ⟨fun a z => .inl (ne1 a z), fun a u n e => by
    have ap : a ≠ p := fun z => n (by rw [z]; exact np)
    rw [upd_ne ap]
    exact e⟩
  have al : ∀ a, H a ≠ none → upd H p o a ≠ none := fun a z => by
    by_cases e : a = p
    · subst e
      rw [upd_same]
      exact fun q => by cases q
    · rw [upd_ne e]
      exact z
  refine { len := by simp [hl], nd := h.nd, nb := h.nb, n0 := fun a z => al a (h.n0 a z), a0 := fun a z => al a (h.a0 a z), pre := h.pre, cells := fun i a c e1 e2 => ?_, sl := h.sl, slots := fun i e z => ?_, frame := fun a u e n => ?_, fresh := h.fresh, gh := fun g hg => (h.gh g hg).kp kp (List.prefix_refl _) }
  · have e2 : (M.set k y)[i]? = some c := e2
    by_cases hi : i = k
    · subst hi
      rw [ha] at e1
      cases e1
      rw [List.getElem?_set_self hkM] at e2
      cases e2
      exact hy kp
    · rw [List.getElem?_set_ne (Ne.symm hi)] at e2
      refine (h.cells i a c e1 e2).kp kp (upd_ne fun z => hi ?_)
      subst z
      exact nd_ix h.nd e1 ha
  · obtain ⟨u, e1, q⟩ := h.slots i e z
    exact ⟨u, e1, q.kp kp (List.prefix_refl _)⟩
  · by_cases e' : a = p
    · subst e'
      by_cases hk : B.A0.length ≤ k
      · rw [h.fresh k a ha hk] at e
        cases e
      · exfalso
        apply n
        obtain ⟨r, er⟩ := h.pre
        rw [← er, List.getElem?_append_left (by omega)] at ha
        exact List.mem_of_getElem? ha
    · rw [upd_ne e']
      exact h.frame a u e n
/-- the live cell k is changed no more -/
theorem CF.freeze (h : CF K B as (env, M) σ H) {k : Nat} {x : Cell} (hm : M[k]? = some x) (hn : B.A0.length ≤ k) (hz : ∀ od ks ds, x ≠ .fz od ks ds) : CF K B as (env, M.set k (.dead x.toD)) σ H ∧ ∀ p, as[k]? = some p → DV K (Ne B as (M.set k (.dead x.toD))) H x.toD (.ref p) := by
  have hl : as.length = M.length := h.len
  have hkM : k < M.length := (List.getElem?_eq_some_iff.mp hm).1
  have hk : ∀ p, as[k]? = some p → ¬ B.N0 p := fun p hp z => h.nb p z (h.fresh k p hp hn)
  have ne1 : ∀ a, Ne B as (M.set k (.dead x.toD)) a → Ne B as M a ∧ (as[k]? = some a → False) := fun a z => by
    rcases z with z | ⟨i, c, e1, e2, lv⟩
    · exact ⟨.inl z, fun e => hk a e z⟩
    · by_cases hi : i = k
      · subst hi
        rw [List.getElem?_set_self hkM] at e2
        cases e2
        cases lv
      · rw [List.getElem?_set_ne (Ne.symm hi)] at e2
        exact ⟨.inr ⟨i, c, e1, e2, lv⟩, fun e => hi (nd_ix h.nd e1 e)⟩
  have dv : ∀ p, as[k]? = some p → DV K (Ne B as (M.set k (.dead x.toD))) H x.toD (.ref p) := fun p hp => by
    have c := (h.cells k p x hp hm).mono (fun a z => (ne1 a z).1)
    have np : ¬ Ne B as (M.set k (.dead x.toD)) p := fun z => (ne1 p z).2 hp
    cases x with
    | lst ds =>
      obtain ⟨vs, e, q⟩ := c
      exact ⟨p, vs, rfl, np, e, q⟩
    | dic ks ds =>
      obtain ⟨vs, e, z, q⟩ := c
      exact ⟨p, vs, rfl, np, .inl e, z, q⟩
    | fz od ks ds => exact absurd rfl (hz od ks ds)
    | ins C fs ds =>
      obtain ⟨dx, vs, e, z, q⟩ := c
      exact ⟨p, dx, vs, rfl, np, e, z, q⟩
    | dead d => exact c
  have kp : Kp (Ne B as M) (Ne B as (M.set k (.dead x.toD))) H H := ⟨fun a z => .inl (ne1 a z).1, fun _ _ _ e => e⟩
  refine ⟨{ len := by simp [hl], nd := h.nd, nb := h.nb, n0 := h.n0, a0 := h.a0, pre := h.pre, cells := fun i a c e1 e2 => ?_, sl := h.sl, slots := fun i e z => ?_, frame := h.frame, fresh := h.fresh, gh := fun g hg => (h.gh g hg).kp kp (List.prefix_refl _) }, dv⟩
  · have e2 : (M.set k (.dead x.toD))[i]? = some c := e2
    by_cases hi : i = k
    · subst hi
      rw [List.getElem?_set_self hkM] at e2
      cases e2
      exact dv a e1
    · rw [List.getElem?_set_ne (Ne.symm hi)] at e2
      exact (h.cells i a c e1 e2).kp kp rfl
  · obtain ⟨u, e1, q⟩ := h.slots i e z
    exact ⟨u, e1, q.kp kp (List.prefix_refl _)⟩
/-- a name is given a value -/
theorem CF.setv (h : CF K B as (env, M) σ H) {i : Nat} {e : EI} {v : V} (q : VOk K (Ne B as M) H as e v) : CF K B as (env.set i e, M) (σ.set i (some v)) H := by
  refine { len := h.len, nd := h.nd, nb := h.nb, n0 := h.n0, a0 := h.a0, pre := h.pre, cells := h.cells, sl := by simpa using h.sl, slots := fun j x z => ?_, frame := h.frame, fresh := h.fresh, gh := h.gh }
  have z : (env.set i e)[j]? = some x := z
  have hs : σ.length = env.length := h.sl
  by_cases hj : j = i
  · subst hj
    have hlt : j < env.length := by
      have := (List.getElem?_eq_some_iff.mp z).1
      simpa using this
    rw [List.getElem?_set_self hlt] at z
    cases z
    exact ⟨some v, by rw [List.getElem?_set_self (hs ▸ hlt)], SlOk.of q⟩
  · rw [List.getElem?_set_ne (Ne.symm hj)] at z
    obtain ⟨o, e1, q1⟩ := h.slots j x z
    exact ⟨o, by rw [List.getElem?_set_ne (Ne.symm hj)]; exact e1, q1⟩
/-- a name is forgotten -/
theorem CF.unset (h : CF K B as (env, M) σ H) {i : Nat} : CF K B as (env.set i .un, M) (σ.set i none) H := by
  refine { len := h.len, nd := h.nd, nb := h.nb, n0 := h.n0, a0 := h.a0, pre := h.pre, cells := h.cells, sl := by simpa using h.sl, slots := fun j x z => ?_, frame := h.frame, fresh := h.fresh, gh := h.gh }
  have z : (env.set i EI.un)[j]? = some x := z
  have hs : σ.length = env.length := h.sl
  by_cases hj : j = i
  · subst hj
    have hlt : j < env.length := by
      have := (List.getElem?_eq_some_iff.mp z).1
      simpa using this
    rw [List.getElem?_set_self hlt] at z
    cases z
    exact ⟨none, by rw [List.getElem?_set_self (hs ▸ hlt)], trivial⟩
  · rw [List.getElem?_set_ne (Ne.symm hj)] at z
    obtain ⟨o, e1, q1⟩ := h.slots j x z
    exact ⟨o, by rw [List.getElem?_set_ne (Ne.symm hj)]; exact e1, q1⟩
end
end Dl
set_option Elab.async false
set_option linter.all false
set_option maxRecDepth 100000
set_option maxHeartbeats 2000000
/-! Dl part 2: judgements over data; expressions. -/
namespace Dl
open PySem L2

/-! ### the weakest readings -/
def wpE (X : Cx) (e : Expr) : TE := fun σ H Q => ∀ pins s, Inv X pins σ H s → wpAny (model X.prog X.w) X.A (eval e X.env) (EP X pins σ Q) X.xe s
theorem wpE_ok {X e} : PE X e (wpE X e) := ⟨fun pins s σ H Q I h => h pins s I⟩
theorem wpE_of {X e t} (h : PE X e t) {σ H Q} (q : t σ H Q) : wpE X e σ H Q := fun pins s I => h.run pins s σ H Q I q
def wpT (X : Cx) (e : Expr) : TT := fun σ H Q => ∀ pins s, Inv X pins σ H s → wpAny (model X.prog X.w) X.A (isTrue e X.env (eval e X.env)) (TP X pins σ Q) X.xe s
theorem wpT_ok {X e} : PT X e (wpT X e) := ⟨fun pins s σ H Q I h => h pins s I⟩
theorem wpT_of {X e t} (h : PT X e t) {σ H Q} (q : t σ H Q) : wpT X e σ H Q := fun pins s I => h.run pins s σ H Q I q
def wpW (X : Cx) (e : Expr) : TT := fun σ H Q => ∀ whole pins s, Inv X pins σ H s → wpAny (model X.prog X.w) X.A (isTrue e X.env whole) (TP X pins σ Q) X.xe s
theorem wpW_ok {X e} : PW X e (wpW X e) := ⟨fun whole pins s σ H Q I h => h whole pins s I⟩
theorem wpW_of {X e t} (h : PW X e t) {σ H Q} (q : t σ H Q) : wpW X e σ H Q := fun whole pins s I => h.run whole pins s σ H Q I q
def wpA (X : Cx) (es : List Expr) : TA := fun σ H Q => ∀ pos pins s, Inv X pins σ H s → wpAny (model X.prog X.w) X.A (spliced (backTo pos (starEach es X.env))) (AP X pins σ Q) X.xe s
theorem wpA_ok {X e} : PA X e (wpA X e) := ⟨fun pos pins s σ H Q I h => h pos pins s I⟩
theorem wpA_of {X e t} (h : PA X e t) {σ H Q} (q : t σ H Q) : wpA X e σ H Q := fun pos pins s I => h.run pos pins s σ H Q I q
def wpS (X : Cx) (st : Stmt) : TS := fun D σ H => ∀ pins s, Inv X pins σ H s → wpAny (model X.prog X.w) X.A (exec st X.env) (SP X pins D) X.xe s
theorem wpS_ok {X e} : PS X e (wpS X e) := ⟨fun pins s σ H Q I h => h pins s I⟩
theorem wpS_of {X e t} (h : PS X e t) {σ H Q} (q : t Q σ H) : wpS X e Q σ H := fun pins s I => h.run pins s σ H Q I q
def wpSs (X : Cx) (st : List Stmt) : TS := fun D σ H => ∀ pins s, Inv X pins σ H s → wpAny (model X.prog X.w) X.A (execs st X.env) (SP X pins D) X.xe s
theorem wpSs_ok {X e} : PSs X e (wpSs X e) := ⟨fun pins s σ H Q I h => h pins s I⟩
theorem wpSs_of {X e t} (h : PSs X e t) {σ H Q} (q : t Q σ H) : wpSs X e Q σ H := fun pins s I => h.run pins s σ H Q I q
def wpG (X : Cx) (target : Expr) : TG := fun v σ H Q => ∀ pins s u, Inv X pins σ H s → RelV v u → wpAny (model X.prog X.w) X.A (assign target X.env u) (fun _ s' => ∃ σ' H', Inv X pins σ' H' s' ∧ Q σ' H') X.xe s
theorem wpG_ok {X e} : PG X e (wpG X e) := ⟨fun pins s σ H v u Q I r h => h pins s u I r⟩
theorem wpG_of {X e t} (h : PG X e t) {v σ H Q} (q : t v σ H Q) : wpG X e v σ H Q := fun pins s u I r => h.run pins s σ H v u Q I r q
def wpI (X : Cx) (tg iter : Expr) : TI := fun σ H R => ∀ pins s, Inv X pins σ H s → wpAny (model X.prog X.w) X.A (eval iter X.env) (fun v s1 => wpAny (model X.prog X.w) X.A (pyIter v) (PIE X pins σ tg R) X.xe s1) X.xe s
theorem wpI_ok {X tg e} : PI X tg e (wpI X tg e) := ⟨fun pins s σ H R I h => h pins s I⟩
theorem wpI_of {X tg e t} (h : PI X tg e t) {σ H Q} (q : t σ H Q) : wpI X tg e σ H Q := fun pins s I => h.run pins s σ H Q I q
def wpO (X : Cx) (e : Option Expr) : TO := fun σ H Q => ∀ pins s, Inv X pins σ H s → wpAny (model X.prog X.w) X.A (evalPart e X.env) (fun u s' => ∃ o H', Inv X pins σ H' s' ∧ IsPart u o ∧ Q o H') X.xe s
theorem wpO_ok {X e} : PO X e (wpO X e) := ⟨fun pins s σ H Q I h => h pins s I⟩

/-! ### judgements -/
abbrev PP := EI → Mem → Prop
def ED (n : Nat) (X : Cx) (c : Conf) (e : Expr) (P : PP) : Prop :=
  ∀ B as σ H, B.A0.length = n → CF X.K B as c σ H → ∀ Q : VK, (∀ r v M' as' H', P r M' → CG X.K B as as' (c.1, M') σ H' → VOk X.K (Ne B as' M') H' as' r v → Q v H') → wpE X e σ H Q
/-- a new object: as data, and as a cell -/
def EN (n : Nat) (X : Cx) (c : Conf) (e : Expr) (P : D → Mem → Prop) : Prop :=
  ∀ B as σ H, B.A0.length = n → CF X.K B as c σ H → ∀ Q : VK, (∀ d p M' as' H', P d M' → CG X.K B as as' (c.1, M') σ H' → DV X.K (Ne B as' M') H' d (.ref p) → CF X.K B (as' ++ [p]) (c.1, M' ++ [cellOf d]) σ H' → Q (.ref p) H') → wpE X e σ H Q
def TD (n : Nat) (X : Cx) (c : Conf) (e : Expr) (P : Bool → Mem → Prop) : Prop :=
  ∀ B as σ H, B.A0.length = n → CF X.K B as c σ H → ∀ Q : Bool → Hp → Prop, (∀ b M' as' H', P b M' → CG X.K B as as' (c.1, M') σ H' → Q b H') → wpT X e σ H Q
def WD (n : Nat) (X : Cx) (c : Conf) (e : Expr) (P : Bool → Mem → Prop) : Prop :=
  ∀ B as σ H, B.A0.length = n → CF X.K B as c σ H → ∀ Q : Bool → Hp → Prop, (∀ b M' as' H', P b M' → CG X.K B as as' (c.1, M') σ H' → Q b H') → wpW X e σ H Q
def VsOk (K : PySem.W.Frag) (N : Addr → Prop) (H : Hp) (as : List Addr) : List EI → List V → Prop
  | [], vs => vs = []
  | r :: rs, vs => ∃ v us, vs = v :: us ∧ VOk K N H as r v ∧ VsOk K N H as rs us
def AD (n : Nat) (X : Cx) (c : Conf) (es : List Expr) (P : List EI → Mem → Prop) : Prop :=
  ∀ B as σ H, B.A0.length = n → CF X.K B as c σ H → ∀ Q : List V → Hp → Prop, (∀ rs vs M' as' H', P rs M' → CG X.K B as as' (c.1, M') σ H' → VsOk X.K (Ne B as' M') H' as' rs vs → Q vs H') → wpA X es σ H Q

section
variable {n : Nat} {X : Cx} {env : EnvD} {M : Mem} {c : Conf} {P : PP} {e a b : Expr} {pos : Pos}

theorem ed_imp {P' : PP} (h : ED n X c e P) (i : ∀ r M, P r M → P' r M) : ED n X c e P' := fun B as σ H hn C Q q => h B as σ H hn C Q fun r v M' as' H' p => q r v M' as' H' (i r M' p)
theorem td_imp {P P' : Bool → Mem → Prop} (h : TD n X c e P) (i : ∀ r M, P r M → P' r M) : TD n X c e P' := fun B as σ H hn C Q q => h B as σ H hn C Q fun r M' as' H' p => q r M' as' H' (i r M' p)
theorem en_imp {P P' : D → Mem → Prop} (h : EN n X c e P) (i : ∀ r M, P r M → P' r M) : EN n X c e P' := fun B as σ H hn C Q q => h B as σ H hn C Q fun r v M' as' H' p => q r v M' as' H' (i r M' p)
theorem ad_imp {es : List Expr} {P P' : List EI → Mem → Prop} (h : AD n X c es P) (i : ∀ r M, P r M → P' r M) : AD n X c es P' := fun B as σ H hn C Q q => h B as σ H hn C Q fun r v M' as' H' p => q r v M' as' H' (i r M' p)
theorem ed_of_en (h : EN n X c e fun d M' => P (.dat d) M') : ED n X c e P := fun B as σ H hn C Q q => h B as σ H hn C Q fun d p M' as' H' hp C' dv _ => q (.dat d) (.ref p) M' as' H' hp C' dv
/-- a new object, as a cell -/
theorem ed_new (h : EN n X c e fun d M' => P (.cel M'.length) (M' ++ [cellOf d])) : ED n X c e P := fun B as σ H hn C Q q => h B as σ H hn C Q fun d p M' as' H' hp C' dv C2 => q (.cel M'.length) (.ref p) (M' ++ [cellOf d]) (as' ++ [p]) H' hp ⟨C'.px.trans (List.prefix_append _ _), C2⟩ ⟨p, by
    have hl : as'.length = M'.length := C'.cf.len
    rw [← hl, List.getElem?_append_right (Nat.le_refl _)]
    simp, rfl⟩
/-- from a reading that leaves the heap's cells as they are -/
theorem ed_lift {t : TE} (hp : PE X e t) (h : ∀ B as σ H, B.A0.length = n → CF X.K B as c σ H → ∀ Q : VK, (∀ r v M' as' H', P r M' → CG X.K B as as' (c.1, M') σ H' → VOk X.K (Ne B as' M') H' as' r v → Q v H') → t σ H Q) : ED n X c e P :=
  fun B as σ H hn C Q q => wpE_of hp (h B as σ H hn C Q q)

/-! ### reading a value -/
def rdD (M : Mem) : EI → Option D
  | .dat d => some d
  | .cel k => (M[k]?).map Cell.toD
  | _ => none
section
variable {K : PySem.W.Frag} {B : Bs} {as : List Addr} {σ : St} {H : Hp} {r : EI} {v : V} {ds : List D}
theorem rd_lst (C : CF K B as (env, M) σ H) (o : VOk K (Ne B as M) H as r v) (h : rdD M r = some (.lst ds)) : ∃ p vs, v = .ref p ∧ H p = some (.lst vs) ∧ DVs K (Ne B as M) H ds vs := by
  cases r with
  | un => cases h
  | spn => cases h
  | dat d =>
    cases h
    obtain ⟨p, vs, e, _, q, z⟩ := o
    exact ⟨p, vs, e, q, z⟩
  | cel k =>
    obtain ⟨p, e, rfl⟩ := o
    cases hm : M[k]? with
    | none =>
      rw [rdD, hm] at h
      cases h
    | some x =>
      rw [rdD, hm] at h
      have ok := C.cells k p x e hm
      cases x with
      | lst es =>
        cases h
        obtain ⟨vs, e1, z⟩ := ok
        exact ⟨p, vs, rfl, e1, z⟩
      | dic ks es => cases h
      | ins D fs es => cases h
      | fz od ks es => cases h
      | dead d =>
        cases h
        obtain ⟨p', vs, e1, _, q, z⟩ := ok
        exact ⟨p', vs, e1, q, z⟩
theorem rd_dic {ks : List Key} (C : CF K B as (env, M) σ H) (o : VOk K (Ne B as M) H as r v) (h : rdD M r = some (.dic ks ds)) : ∃ p kvs, v = .ref p ∧ Rd H p (.dK kvs) ∧ kvs.map (·.1) = ks ∧ DVs K (Ne B as M) H ds (kvs.map (·.2)) := by
  cases r with
  | un => cases h
  | spn => cases h
  | dat d =>
    cases h
    obtain ⟨p, vs, e, _, q, z⟩ := o
    exact ⟨p, vs, e, q, z⟩
  | cel k =>
    obtain ⟨p, e, rfl⟩ := o
    cases hm : M[k]? with
    | none =>
      rw [rdD, hm] at h
      cases h
    | some x =>
      rw [rdD, hm] at h
      have ok := C.cells k p x e hm
      cases x with
      | lst es => cases h
      | dic ks es =>
        cases h
        obtain ⟨vs, e1, z⟩ := ok
        exact ⟨p, vs, rfl, .inl e1, z⟩
      | fz od ks es =>
        cases h
        obtain ⟨e1, z⟩ := ok
        exact ⟨p, _, rfl, .inr ⟨od, e1⟩, rfl, z⟩
      | ins D fs es => cases h
      | dead d =>
        cases h
        obtain ⟨p', vs, e1, _, q, z⟩ := ok
        exact ⟨p', vs, e1, q, z⟩
theorem rd_ins {D : Addr} {fs : List Str} (C : CF K B as (env, M) σ H) (o : VOk K (Ne B as M) H as r v) (h : rdD M r = some (.ins D fs ds)) : ∃ p dx gs, v = .ref p ∧ H p = some (.ins D dx gs) ∧ gs.map (·.1) = fs ∧ DVs K (Ne B as M) H ds (gs.map (·.2)) := by
  cases r with
  | un => cases h
  | spn => cases h
  | dat d =>
    cases h
    obtain ⟨p, dx, vs, e, _, q, z⟩ := o
    exact ⟨p, dx, vs, e, q, z⟩
  | cel k =>
    obtain ⟨p, e, rfl⟩ := o
    cases hm : M[k]? with
    | none =>
      rw [rdD, hm] at h
      cases h
    | some x =>
      rw [rdD, hm] at h
      have ok := C.cells k p x e hm
      cases x with
      | lst es => cases h
      | dic ks es => cases h
      | ins D fs es =>
        cases h
        obtain ⟨dx, vs, e1, z⟩ := ok
        exact ⟨p, dx, vs, rfl, e1, z⟩
      | fz od ks es => cases h
      | dead d =>
        cases h
        obtain ⟨p', dx, vs, e1, _, q, z⟩ := ok
        exact ⟨p', dx, vs, e1, q, z⟩
/-- what is no object -/
theorem rd_dv {d : D} (C : CF K B as (env, M) σ H) (o : VOk K (Ne B as M) H as r v) (h : rdD M r = some d) (hd : match d with | .lst _ | .dic _ _ | .ins _ _ _ => False | _ => True) : DV K (Ne B as M) H d v := by
  cases r with
  | un => cases h
  | spn => cases h
  | dat d =>
    cases h
    exact o
  | cel k =>
    obtain ⟨p, e, rfl⟩ := o
    cases hm : M[k]? with
    | none =>
      rw [rdD, hm] at h
      cases h
    | some x =>
      rw [rdD, hm] at h
      have ok := C.cells k p x e hm
      cases x with
      | lst es =>
        cases h
        cases hd
      | dic ks es =>
        cases h
        cases hd
      | ins D fs es =>
        cases h
        cases hd
      | fz od ks es =>
        cases h
        cases hd
      | dead d =>
        cases h
        exact ok
end

/-! ### names and constants -/
theorem vok_var {K : PySem.W.Frag} {B : Bs} {as : List Addr} {σ : St} {H : Hp} {i : Nat} {r : EI} (C : CF K B as (env, M) σ H) (h : env[i]? = some r) (hr : r ≠ .un) : ∃ v, σ[i]? = some (some v) ∧ VOk K (Ne B as M) H as r v := by
  obtain ⟨o, e, z⟩ := C.slots i r h
  obtain ⟨v, rfl, q⟩ := z.val hr
  exact ⟨v, e, q⟩
theorem ed_var {i : Nat} {x : Str} {r : EI} (h : env[i]? = some r) (hr : r ≠ .un) (p : P r M) (hN : X.N[i]? = some x := by rfl) (hv : Vis X.env.scope x := by first | exact Or.inl rfl | exact Or.inr (Or.inl rfl) | exact Or.inr (Or.inr rfl)) (hd : (x == ("__debug__" : Str)) = false := by decide) (hcd : (x == ("__classdict__" : Str)) = false := by decide) : ED n X (env, M) (.Name x pos) P :=
  ed_lift (pe_var (i := i) hN hv hd hcd) fun B as σ H hn C Q q => by
    obtain ⟨v, e, z⟩ := vok_var C h hr
    exact ⟨v, e, q r v M as H p C.g z⟩
/-- a cell of this frame's own that becomes data -/
theorem ed_frz {i k : Nat} {x : Str} {y : Cell} (h : env[i]? = some (.cel k)) (hk : M[k]? = some y) (hn : n ≤ k) (p : P (.dat y.toD) (M.set k (.dead y.toD))) (hz : ∀ od ks ds, y ≠ .fz od ks ds := by intro _ _ _ z; cases z) (hN : X.N[i]? = some x := by rfl) (hv : Vis X.env.scope x := by first | exact Or.inl rfl | exact Or.inr (Or.inl rfl) | exact Or.inr (Or.inr rfl)) (hd : (x == ("__debug__" : Str)) = false := by decide) (hcd : (x == ("__classdict__" : Str)) = false := by decide) : ED n X (env, M) (.Name x pos) P :=
  ed_lift (pe_var (i := i) hN hv hd hcd) fun B as σ H hB C Q q => by
    obtain ⟨v, e, z⟩ := vok_var C h (by intro z; cases z)
    obtain ⟨p', e1, rfl⟩ := z
    obtain ⟨C', dv⟩ := C.freeze hk (hB ▸ hn) hz
    exact ⟨_, e, q _ _ _ as H p C'.g (dv p' e1)⟩
theorem ed_int {i : Int} {j} (p : P (.dat (.int i)) M) : ED n X (env, M) (.Constant (.int i) j pos) P := ed_lift pe_int fun B as σ H hn C Q q => q _ _ M as H p C.g rfl
theorem ed_bl {i : Bool} {j} (p : P (.dat (.bl i)) M) : ED n X (env, M) (.Constant (.bool i) j pos) P := ed_lift pe_bl fun B as σ H hn C Q q => q _ _ M as H p C.g rfl
theorem ed_non {j} (p : P (.dat .non) M) : ED n X (env, M) (.Constant .none j pos) P := ed_lift pe_non fun B as σ H hn C Q q => q _ _ M as H p C.g rfl
theorem ed_str {i : Str} {j} (p : P (.dat (.str i)) M) : ED n X (env, M) (.Constant (.str i) j pos) P := ed_lift pe_str fun B as σ H hn C Q q => q _ _ M as H p C.g rfl
/-- a module's constant -/
theorem ed_glob {x : Str} {d : D} {v : V} {u : Value} (hm : X.mg x = some u) (r : RelV v u) (hd : ∀ N H, DV X.K N H d v) (p : P (.dat d) M) (hg : Gl X x := by rfl) (hdb : (x == ("__debug__" : Str)) = false := by decide) : ED n X (env, M) (.Name x pos) P :=
  ed_lift (pe_glob hg hm r hdb) fun B as σ H hn C Q q => q _ _ M as H p C.g (hd _ _)

/-! ### operators by values -/
/-- what an operation of two values comes to, over data -/
def OpD (K : PySem.W.Frag) (r : R2) (F : EI → EI → Mem → PP → Prop) : Prop :=
  ∀ B as env M σ H r1 r2 v1 v2, CF K B as (env, M) σ H → VOk K (Ne B as M) H as r1 v1 → VOk K (Ne B as M) H as r2 v2 → ∀ P : PP, F r1 r2 M P →
    ∀ Q : VK, (∀ r v M' as' H', P r M' → CG K B as as' (env, M') σ H' → VOk K (Ne B as' M') H' as' r v → Q v H') → r v1 v2 H Q
theorem ed_opR {t : TE} {r : R2} {F} (hp : PE X e (tOp r (wpE X a) (wpE X b))) (hF : OpD X.K r F) (h : ED n X (env, M) a fun r1 M1 => ED n X (env, M1) b fun r2 M2 => F r1 r2 M2 P) : ED n X (env, M) e P :=
  ed_lift hp fun B as σ H hn C Q q => by
    refine h B as σ H hn C _ fun r1 v1 M1 as1 H1 h1 C1 o1 => ?_
    refine h1 (B.add (r1, v1)) as1 σ H1 hn (C1.cf.add o1) _ fun r2 v2 M2 as2 H2 h2 C2 o2 => ?_
    exact hF B as2 env M2 σ H2 r1 r2 v1 v2 C2.cf.pop C2.cf.top o2 P h2 Q fun r v M' as' H' p C3 => q r v M' as' H' p ((C1.tr C2.pop).tr C3)
theorem ed_op {op : Operator} {r : R2} {F} (ho : OpR X (binaryOp op) r) (hF : OpD X.K r F) (h : ED n X (env, M) a fun r1 M1 => ED n X (env, M1) b fun r2 M2 => F r1 r2 M2 P) : ED n X (env, M) (.BinOp a op b pos) P :=
  ed_opR (t := wpE X a) (pe_op ho wpE_ok wpE_ok) hF h
theorem ed_cmpR {op : CmpOp} {r : R2} {F} (ho : OpR X (compareOp op) r) (hF : OpD X.K r F) (h : ED n X (env, M) a fun r1 M1 => ED n X (env, M1) b fun r2 M2 => F r1 r2 M2 P) (hm : behindInMarks op b = false := by first | exact nomark _ | rfl) : ED n X (env, M) (.Compare a [op] [b] pos) P :=
  ed_opR (t := wpE X a) (pe_cmpR ho wpE_ok wpE_ok hm) hF h
/-- a test that is an expression with a truth value as its result -/
def isB (P : Bool → Mem → Prop) : PP := fun r M => ∃ b, r = .dat (.bl b) ∧ P b M
theorem td_opR {r : R2} {F} {P : Bool → Mem → Prop} (hp : PT X e (tTest (tOp r (wpE X a) (wpE X b)))) (hF : OpD X.K r F) (h : ED n X (env, M) a fun r1 M1 => ED n X (env, M1) b fun r2 M2 => F r1 r2 M2 (isB P)) : TD n X (env, M) e P := by
  intro B as σ H hn C Q q
  refine wpT_of hp ?_
  refine h B as σ H hn C _ fun r1 v1 M1 as1 H1 h1 C1 o1 => ?_
  refine h1 (B.add (r1, v1)) as1 σ H1 hn (C1.cf.add o1) _ fun r2 v2 M2 as2 H2 h2 C2 o2 => ?_
  refine hF B as2 env M2 σ H2 r1 r2 v1 v2 C2.cf.pop C2.cf.top o2 _ h2 _ fun r v M' as' H' ⟨b, e, pb⟩ C' o => ?_
  subst e
  exact ⟨b, o, q b M' as' H' pb ((C1.tr C2.pop).tr C')⟩
theorem td_cmpR {op : CmpOp} {r : R2} {F} {P : Bool → Mem → Prop} (ho : OpR X (compareOp op) r) (hF : OpD X.K r F) (h : ED n X (env, M) a fun r1 M1 => ED n X (env, M1) b fun r2 M2 => F r1 r2 M2 (isB P)) (hm : behindInMarks op b = false := by first | exact nomark _ | rfl) : TD n X (env, M) (.Compare a [op] [b] pos) P :=
  td_opR (pt_cmpR ho wpE_ok wpE_ok hm) hF h
/-- an expression whose value is a truth value, as a test -/
theorem td_val {P : Bool → Mem → Prop} (h : ED n X c e (isB P)) (he : ∀ whole, isTrue e X.env whole = (do let v ← whole; standAt e.pos; holding [v] (truthy v)) := by intro _; rfl) : TD n X c e P := by
  intro B as σ H hn C Q q
  refine wpT_of (pt_val (t := wpE X e) wpE_ok he) ?_
  refine h B as σ H hn C _ fun r v M' as' H' ⟨b, e, pb⟩ C' o => ?_
  subst e
  exact ⟨b, o, q b M' as' H' pb C'⟩

/-! ### and, or, not -/
theorem td_w {P : Bool → Mem → Prop} (h : WD n X c e P) : TD n X c e P := fun B as σ H hn C Q q => wpT_of (wpW_ok (X := X) (e := e)).pt (h B as σ H hn C Q q)
theorem wd_and1 {P : Bool → Mem → Prop} (h : TD n X c a P) : WD n X c (.BoolOp .And [a] pos) P := fun B as σ H hn C Q q => wpW_of (pw_and1 wpT_ok) (h B as σ H hn C Q q)
theorem wd_or1 {P : Bool → Mem → Prop} (h : TD n X c a P) : WD n X c (.BoolOp .Or [a] pos) P := fun B as σ H hn C Q q => wpW_of (pw_or1 wpT_ok) (h B as σ H hn C Q q)
theorem wd_and {rest : List Expr} {P : Bool → Mem → Prop} (h : TD n X (env, M) a fun b1 M1 => (b1 = true → WD n X (env, M1) (.BoolOp .And (b :: rest) pos) P) ∧ (b1 = false → P false M1)) : WD n X (env, M) (.BoolOp .And (a :: b :: rest) pos) P := by
  intro B as σ H hn C Q q
  refine wpW_of (pw_and wpT_ok wpW_ok) ?_
  refine h B as σ H hn C _ fun b1 M1 as1 H1 h1 C1 => ?_
  cases b1 with
  | true => exact iteT (h1.1 rfl B as1 σ H1 hn C1.cf Q fun b M' as' H' p C2 => q b M' as' H' p (C1.tr C2))
  | false => exact iteF (q false M1 as1 H1 (h1.2 rfl) C1)
theorem wd_or {rest : List Expr} {P : Bool → Mem → Prop} (h : TD n X (env, M) a fun b1 M1 => (b1 = false → WD n X (env, M1) (.BoolOp .Or (b :: rest) pos) P) ∧ (b1 = true → P true M1)) : WD n X (env, M) (.BoolOp .Or (a :: b :: rest) pos) P := by
  intro B as σ H hn C Q q
  refine wpW_of (pw_or wpT_ok wpW_ok) ?_
  refine h B as σ H hn C _ fun b1 M1 as1 H1 h1 C1 => ?_
  cases b1 with
  | true => exact iteT (q true M1 as1 H1 (h1.2 rfl) C1)
  | false => exact iteF (h1.1 rfl B as1 σ H1 hn C1.cf Q fun b M' as' H' p C2 => q b M' as' H' p (C1.tr C2))
theorem td_not {P : Bool → Mem → Prop} (h : TD n X c a fun b M => P (!b) M) : TD n X c (.UnaryOp .Not a pos) P := by
  intro B as σ H hn C Q q
  refine wpT_of (pt_not wpT_ok) ?_
  exact h B as σ H hn C _ fun b M' as' H' pb C' => q (!b) M' as' H' pb C'
theorem ed_one {op} (h : ED n X c a P) : ED n X c (.BoolOp op [a] pos) P := fun B as σ H hn C Q q => wpE_of (pe_one wpE_ok) (h B as σ H hn C Q q)
theorem ed_and {rest : List Expr} (h : ED n X (env, M) a fun r1 M1 => ∃ b1, r1 = .dat (.bl b1) ∧ (b1 = true → ED n X (env, M1) (.BoolOp .And (b :: rest) pos) P) ∧ (b1 = false → P (.dat (.bl false)) M1)) : ED n X (env, M) (.BoolOp .And (a :: b :: rest) pos) P := by
  intro B as σ H hn C Q q
  refine wpE_of (pe_and wpE_ok wpE_ok) ?_
  refine h B as σ H hn C _ fun r v M1 as1 H1 ⟨b1, e, ht, hf⟩ C1 o => ?_
  subst e
  refine ⟨b1, o, ?_⟩
  cases b1 with
  | true => exact iteT (ht rfl B as1 σ H1 hn C1.cf Q fun r v M' as' H' p C2 => q r v M' as' H' p (C1.tr C2))
  | false => exact iteF (q _ _ M1 as1 H1 (hf rfl) C1 rfl)
theorem ed_or {rest : List Expr} (h : ED n X (env, M) a fun r1 M1 => ∃ b1, r1 = .dat (.bl b1) ∧ (b1 = false → ED n X (env, M1) (.BoolOp .Or (b :: rest) pos) P) ∧ (b1 = true → P (.dat (.bl true)) M1)) : ED n X (env, M) (.BoolOp .Or (a :: b :: rest) pos) P := by
  intro B as σ H hn C Q q
  refine wpE_of (pe_or wpE_ok wpE_ok) ?_
  refine h B as σ H hn C _ fun r v M1 as1 H1 ⟨b1, e, ht, hf⟩ C1 o => ?_
  subst e
  refine ⟨b1, o, ?_⟩
  cases b1 with
  | true => exact iteT (q _ _ M1 as1 H1 (hf rfl) C1 rfl)
  | false => exact iteF (ht rfl B as1 σ H1 hn C1.cf Q fun r v M' as' H' p C2 => q r v M' as' H' p (C1.tr C2))
theorem ed_not (h : ED n X c a fun r M => ∃ b, r = .dat (.bl b) ∧ P (.dat (.bl (!b))) M) : ED n X c (.UnaryOp .Not a pos) P := by
  intro B as σ H hn C Q q
  refine wpE_of (pe_not wpE_ok) ?_
  refine h B as σ H hn C _ fun r v M1 as1 H1 ⟨b1, e, hp⟩ C1 o => ?_
  subst e
  exact ⟨b1, o, q _ _ M1 as1 H1 hp C1 rfl⟩
theorem ed_if {t : Expr} (h : TD n X (env, M) t fun b1 M1 => (b1 = true → ED n X (env, M1) a P) ∧ (b1 = false → ED n X (env, M1) b P)) : ED n X (env, M) (.IfExp t a b pos) P := by
  intro B as σ H hn C Q q
  refine wpE_of (pe_ifExp wpT_ok wpE_ok wpE_ok) ?_
  refine h B as σ H hn C _ fun b1 M1 as1 H1 h1 C1 => ?_
  cases b1 with
  | true => exact iteT (h1.1 rfl B as1 σ H1 hn C1.cf Q fun r v M' as' H' p C2 => q r v M' as' H' p (C1.tr C2))
  | false => exact iteF (h1.2 rfl B as1 σ H1 hn C1.cf Q fun r v M' as' H' p C2 => q r v M' as' H' p (C1.tr C2))
theorem en_if {t : Expr} {P : D → Mem → Prop} (h : TD n X (env, M) t fun b1 M1 => (b1 = true → EN n X (env, M1) a P) ∧ (b1 = false → EN n X (env, M1) b P)) : EN n X (env, M) (.IfExp t a b pos) P := by
  intro B as σ H hn C Q q
  refine wpE_of (pe_ifExp wpT_ok wpE_ok wpE_ok) ?_
  refine h B as σ H hn C _ fun b1 M1 as1 H1 h1 C1 => ?_
  cases b1 with
  | true => exact iteT (h1.1 rfl B as1 σ H1 hn C1.cf Q fun r v M' as' H' p C2 => q r v M' as' H' p (C1.tr C2))
  | false => exact iteF (h1.2 rfl B as1 σ H1 hn C1.cf Q fun r v M' as' H' p C2 => q r v M' as' H' p (C1.tr C2))

/-! ### arguments, displays -/
theorem VsOk.length {K N H as} : ∀ {rs : List EI} {vs : List V}, VsOk K N H as rs vs → rs.length = vs.length
  | [], vs, h => by
    have e : vs = [] := h
    subst e
    rfl
  | r :: rs, vs, h => by
    obtain ⟨v, us, rfl, _, z⟩ := h
    simp [VsOk.length z]
theorem ad_nil {P : List EI → Mem → Prop} (p : P [] M) : AD n X (env, M) [] P := fun B as σ H hn C Q q => wpA_of pa_nil (q [] [] M as H p C.g rfl)
theorem ad_cons {es : List Expr} {P : List EI → Mem → Prop} (h : ED n X (env, M) e fun r1 M1 => AD n X (env, M1) es fun rs M2 => P (r1 :: rs) M2) (hs : starEach (e :: es) X.env = (false, eval e X.env) :: starEach es X.env := by rfl) : AD n X (env, M) (e :: es) P := by
  intro B as σ H hn C Q q
  refine wpA_of (pa_cons wpE_ok wpA_ok hs) ?_
  refine h B as σ H hn C _ fun r1 v1 M1 as1 H1 h1 C1 o1 => ?_
  refine h1 (B.add (r1, v1)) as1 σ H1 hn (C1.cf.add o1) _ fun rs vs M2 as2 H2 h2 C2 o2 => ?_
  exact q (r1 :: rs) (v1 :: vs) M2 as2 H2 h2 (C1.tr C2.pop) ⟨v1, vs, rfl, C2.cf.top, o2⟩
/-- all data -/
def dats (rs : List EI) (ds : List D) : Prop := rs = ds.map EI.dat
theorem VsOk.dvs {K N H as} : ∀ {ds : List D} {vs : List V}, VsOk K N H as (ds.map EI.dat) vs → DVs K N H ds vs
  | [], vs, h => h
  | d :: ds, vs, h => by
    obtain ⟨v, us, rfl, a, z⟩ := h
    exact .cons a (VsOk.dvs z)
theorem dv_new_lst {K : PySem.W.Frag} {B : Bs} {as : List Addr} {σ : St} {H : Hp} {p : Addr} {ds : List D} {vs : List V} (C : CF K B as (env, M) σ H) (hp : H p = none) (q : DVs K (Ne B as M) H ds vs) :
    CF K B as (env, M) σ (upd H p (.lst vs)) ∧ DV K (Ne B as M) (upd H p (.lst vs)) (.lst ds) (.ref p) ∧ CF K B (as ++ [p]) (env, M ++ [.lst ds]) σ (upd H p (.lst vs)) := by
  have g := grow_new (o := HO.lst vs) hp
  have q' : DVs K (Ne B as M) (upd H p (.lst vs)) ds vs := DVs.kp ⟨fun a z => .inl z, fun a o _ z => g a o z⟩ _ _ q
  refine ⟨C.grow g, ⟨p, vs, rfl, C.ne_new hp, upd_same, q'⟩, C.new hp (fun _ => ⟨vs, upd_same, ?_⟩) (fun z => by cases z)⟩
  exact DVs.kp ⟨fun a z => z.imp id fun e => by rw [e]; exact hp, fun a o _ z => g a o z⟩ _ _ q
theorem dv_new_tup {K : PySem.W.Frag} {B : Bs} {as : List Addr} {σ : St} {H : Hp} {p : Addr} {ds : List D} {vs : List V} (C : CF K B as (env, M) σ H) (hp : H p = none) (q : DVs K (Ne B as M) H ds vs) :
    CF K B as (env, M) σ (upd H p (.tup vs)) ∧ DV K (Ne B as M) (upd H p (.tup vs)) (.tup ds) (.ref p) := by
  have g := grow_new (o := HO.tup vs) hp
  have q' : DVs K (Ne B as M) (upd H p (.tup vs)) ds vs := DVs.kp ⟨fun a z => .inl z, fun a o _ z => g a o z⟩ _ _ q
  exact ⟨C.grow g, ⟨p, vs, rfl, .inl ⟨C.ne_new hp, upd_same⟩, q'⟩⟩
theorem en_lst {es : List Expr} {P : D → Mem → Prop} (h : AD n X (env, M) es fun rs M1 => ∃ ds, rs = ds.map EI.dat ∧ ds.length ≤ sizeLine ∧ P (.lst ds) M1) : EN n X (env, M) (.List es pos) P := by
  intro B as σ H hn C Q q
  refine wpE_of (pe_lst wpA_ok) ?_
  refine h B as σ H hn C _ fun rs vs M1 as1 H1 ⟨ds, e, hl, hp⟩ C1 o => ?_
  subst e
  have dv := o.dvs
  refine ⟨by rw [← dv.length]; exact hl, fun p hp' => ?_⟩
  obtain ⟨a1, a2, a3⟩ := dv_new_lst C1.cf hp' dv
  exact q _ p M1 _ _ hp ⟨C1.px, a1⟩ a2 a3
theorem ed_lst {es : List Expr} (h : AD n X (env, M) es fun rs M1 => ∃ ds, rs = ds.map EI.dat ∧ ds.length ≤ sizeLine ∧ P (.dat (.lst ds)) M1) : ED n X (env, M) (.List es pos) P := ed_of_en (en_lst h)
theorem ed_tup {es : List Expr} {x1} (h : AD n X (env, M) es fun rs M1 => ∃ ds, rs = ds.map EI.dat ∧ ds.length ≤ sizeLine ∧ P (.dat (.tup ds)) M1) : ED n X (env, M) (.Tuple es x1 pos) P := by
  intro B as σ H hn C Q q
  refine wpE_of (pe_tup wpA_ok) ?_
  refine h B as σ H hn C _ fun rs vs M1 as1 H1 ⟨ds, e, hl, hp⟩ C1 o => ?_
  subst e
  have dv := o.dvs
  refine ⟨by rw [← dv.length]; exact hl, fun p hp' => ?_⟩
  obtain ⟨a1, a2⟩ := dv_new_tup C1.cf hp' dv
  exact q _ _ M1 _ _ hp ⟨C1.px, a1⟩ a2
end
end Dl
set_option Elab.async false
set_option linter.all false
set_option maxRecDepth 100000
set_option maxHeartbeats 2000000
/-! Dl part 3: operators, comparisons, subscripts, built-in calls. -/
namespace Dl
open PySem L2 PyProof.Rows

section
variable {K : PySem.W.Frag} {X : Cx} {n : Nat} {env : EnvD} {M : Mem} {P : PP} {e a b : Expr} {pos : Pos}
theorem OpD.or {r r' : R2} {F F'} (h : OpD K r F) (h' : OpD K r' F') : OpD K (fun x y H Q => r x y H Q ∨ r' x y H Q) (fun r1 r2 M P => F r1 r2 M P ∨ F' r1 r2 M P) :=
  fun B as env M σ H r1 r2 v1 v2 C o1 o2 P f Q q => f.imp (fun z => h B as env M σ H r1 r2 v1 v2 C o1 o2 P z Q q) fun z => h' B as env M σ H r1 r2 v1 v2 C o1 o2 P z Q q
theorem OpD.imp {r : R2} {F F' : EI → EI → Mem → PP → Prop} (h : OpD K r F) (i : ∀ r1 r2 M P, F' r1 r2 M P → F r1 r2 M P) : OpD K r F' :=
  fun B as env M σ H r1 r2 v1 v2 C o1 o2 P f Q q => h B as env M σ H r1 r2 v1 v2 C o1 o2 P (i _ _ _ _ f) Q q
/-! ### ints -/
def fII (C : Int → Int → Prop) (g : Int → Int → D) (r1 r2 : EI) (M : Mem) (P : PP) : Prop := ∃ i j, rdD M r1 = some (.int i) ∧ rdD M r2 = some (.int j) ∧ C i j ∧ P (.dat (g i j)) M
theorem od_I {C : Int → Int → Prop} {g : Int → Int → Int} : OpD K (rI C fun i j => .int (g i j)) (fII C fun i j => .int (g i j)) := by
  intro B as env M σ H r1 r2 v1 v2 Cf o1 o2 P f Q q
  obtain ⟨i, j, e1, e2, c, p⟩ := f
  have d1 : v1 = .int i := rd_dv Cf o1 e1 trivial
  have d2 : v2 = .int j := rd_dv Cf o2 e2 trivial
  exact ⟨i, j, d1, d2, c, q _ _ M as H p Cf.g rfl⟩
theorem od_I0 {g : Int → Int → Int} : OpD K (rI0 fun i j => .int (g i j)) (fII (fun _ _ => True) fun i j => .int (g i j)) := by
  intro B as env M σ H r1 r2 v1 v2 Cf o1 o2 P f Q q
  obtain ⟨i, j, e1, e2, _, p⟩ := f
  have d1 : v1 = .int i := rd_dv Cf o1 e1 trivial
  have d2 : v2 = .int j := rd_dv Cf o2 e2 trivial
  exact ⟨i, j, d1, d2, q _ _ M as H p Cf.g rfl⟩
theorem od_B0 {g : Int → Int → Bool} : OpD K (rI0 fun i j => .bl (g i j)) (fII (fun _ _ => True) fun i j => .bl (g i j)) := by
  intro B as env M σ H r1 r2 v1 v2 Cf o1 o2 P f Q q
  obtain ⟨i, j, e1, e2, _, p⟩ := f
  have d1 : v1 = .int i := rd_dv Cf o1 e1 trivial
  have d2 : v2 = .int j := rd_dv Cf o2 e2 trivial
  exact ⟨i, j, d1, d2, q _ _ M as H p Cf.g rfl⟩
/-! ### + -/
def fSS (r1 r2 : EI) (M : Mem) (P : PP) : Prop := ∃ x y : Str, rdD M r1 = some (.str x) ∧ rdD M r2 = some (.str y) ∧ x.length + y.length ≤ sizeLine ∧ P (.dat (.str (x ++ y))) M
theorem od_SS : OpD K (fun x y H Q => ∃ i j, x = .str i ∧ y = .str j ∧ i.length + j.length ≤ sizeLine ∧ Q (.str (i ++ j)) H) fSS := by
  intro B as env M σ H r1 r2 v1 v2 Cf o1 o2 P f Q q
  obtain ⟨i, j, e1, e2, c, p⟩ := f
  have d1 : v1 = .str i := rd_dv Cf o1 e1 trivial
  have d2 : v2 = .str j := rd_dv Cf o2 e2 trivial
  exact ⟨i, j, d1, d2, c, q _ _ M as H p Cf.g rfl⟩
def fLL (r1 r2 : EI) (M : Mem) (P : PP) : Prop := ∃ x y : List D, rdD M r1 = some (.lst x) ∧ rdD M r2 = some (.lst y) ∧ x.length + y.length ≤ sizeLine ∧ P (.dat (.lst (x ++ y))) M
theorem od_LL : OpD K rCat fLL := by
  intro B as env M σ H r1 r2 v1 v2 Cf o1 o2 P f Q q
  obtain ⟨xs, ys, e1, e2, c, p⟩ := f
  obtain ⟨a, vs, d1, h1, w1⟩ := rd_lst Cf o1 e1
  obtain ⟨b, us, d2, h2, w2⟩ := rd_lst Cf o2 e2
  refine ⟨a, b, vs, us, d1, d2, h1, h2, by rw [← w1.length, ← w2.length]; exact c, fun p' hp => ?_⟩
  obtain ⟨a1, a2, _⟩ := dv_new_lst Cf hp (w1.append w2)
  exact q _ _ M as _ p a1.g a2
def fAdd (r1 r2 : EI) (M : Mem) (P : PP) : Prop :=
  match rdD M r1, rdD M r2 with
  | some (.int i), some (.int j) => P (.dat (.int (i + j))) M
  | some (.str x), some (.str y) => x.length + y.length ≤ sizeLine ∧ P (.dat (.str (x ++ y))) M
  | some (.lst x), some (.lst y) => x.length + y.length ≤ sizeLine ∧ P (.dat (.lst (x ++ y))) M
  | _, _ => False
theorem opR_add : OpR X (binaryOp .Add) (fun x y H Q => (rI0 (fun i j => .int (i + j)) x y H Q ∨ (∃ i j, x = .str i ∧ y = .str j ∧ i.length + j.length ≤ sizeLine ∧ Q (.str (i ++ j)) H)) ∨ rCat x y H Q) := OpR.or (OpR.or op_add op_add_str) op_cat
theorem od_add : OpD K (fun x y H Q => (rI0 (fun i j => .int (i + j)) x y H Q ∨ (∃ i j, x = .str i ∧ y = .str j ∧ i.length + j.length ≤ sizeLine ∧ Q (.str (i ++ j)) H)) ∨ rCat x y H Q) fAdd :=
  ((od_I0.or od_SS).or od_LL).imp fun r1 r2 M P h => by
    unfold fAdd at h
    split at h
    · rename_i i j e1 e2
      exact .inl (.inl ⟨i, j, e1, e2, trivial, h⟩)
    · rename_i i j e1 e2
      exact .inl (.inr ⟨i, j, e1, e2, h⟩)
    · rename_i i j e1 e2
      exact .inr ⟨i, j, e1, e2, h⟩
    · exact h.elim
theorem ed_add (h : ED n X (env, M) a fun r1 M1 => ED n X (env, M1) b fun r2 M2 => fAdd r1 r2 M2 P) : ED n X (env, M) (.BinOp a .Add b pos) P := ed_op opR_add od_add h
/-- + of lists, the new list a cell -/
theorem en_cat {P : D → Mem → Prop} (h : ED n X (env, M) a fun r1 M1 => ED n X (env, M1) b fun r2 M2 => ∃ x y, rdD M2 r1 = some (.lst x) ∧ rdD M2 r2 = some (.lst y) ∧ x.length + y.length ≤ sizeLine ∧ P (.lst (x ++ y)) M2) : EN n X (env, M) (.BinOp a .Add b pos) P := by
  intro B as σ H hn C Q q
  refine wpE_of (pe_op op_cat wpE_ok wpE_ok) ?_
  refine h B as σ H hn C _ fun r1 v1 M1 as1 H1 h1 C1 o1 => ?_
  refine h1 (B.add (r1, v1)) as1 σ H1 hn (C1.cf.add o1) _ fun r2 v2 M2 as2 H2 ⟨xs, ys, e1, e2, c, p⟩ C2 o2 => ?_
  obtain ⟨a, vs, d1, h1, w1⟩ := rd_lst C2.cf C2.cf.top e1
  obtain ⟨b, us, d2, h2, w2⟩ := rd_lst C2.cf o2 e2
  refine ⟨a, b, vs, us, d1, d2, h1, h2, by rw [← w1.length, ← w2.length]; exact c, fun p' hp => ?_⟩
  obtain ⟨a1, a2, a3⟩ := dv_new_lst C2.cf.pop hp (w1.append w2)
  exact q _ _ M2 _ _ p ⟨(C1.tr C2.pop).px, a1⟩ a2 a3
/-! ### -, *, //, %, ** -/
theorem ed_sub (h : ED n X (env, M) a fun r1 M1 => ED n X (env, M1) b fun r2 M2 => fII (fun _ _ => True) (fun i j => .int (i - j)) r1 r2 M2 P) : ED n X (env, M) (.BinOp a .Sub b pos) P := ed_op op_sub od_I0 h
def fRep (r1 r2 : EI) (M : Mem) (P : PP) : Prop := ∃ (x : List D) (k : Int), rdD M r1 = some (.lst x) ∧ rdD M r2 = some (.int k) ∧ -(2 ^ 63) ≤ k ∧ k < 2 ^ 63 ∧ x.length * k.toNat ≤ sizeLine ∧ P (.dat (.lst (List.replicate k.toNat x).flatten)) M
theorem DVs.rep {N H} {ds : List D} {vs : List V} (h : DVs K N H ds vs) : ∀ k : Nat, DVs K N H (List.replicate k ds).flatten (List.replicate k vs).flatten
  | 0 => .nil
  | k + 1 => by
    rw [List.replicate_succ, List.replicate_succ, List.flatten_cons, List.flatten_cons]
    exact h.append (DVs.rep h k)
theorem od_rep : OpD K rRep fRep := by
  intro B as env M σ H r1 r2 v1 v2 Cf o1 o2 P f Q q
  obtain ⟨xs, k, e1, e2, c1, c2, c3, p⟩ := f
  obtain ⟨a, vs, d1, h1, w1⟩ := rd_lst Cf o1 e1
  have d2 : v2 = .int k := rd_dv Cf o2 e2 trivial
  refine ⟨a, k, vs, d1, d2, h1, c1, c2, by rw [← w1.length]; exact c3, fun p' hp => ?_⟩
  obtain ⟨a1, a2, _⟩ := dv_new_lst Cf hp (w1.rep k.toNat)
  exact q _ _ M as _ p a1.g a2
/-- * of two factors of together less than 134 million bits -/
def CMulB (i j : Int) : Prop := i.natAbs.log2 + j.natAbs.log2 < 134000000
theorem CMulB.ok {i j : Int} (h : CMulB i j) : IntMulOk i j := by
  have b : ∀ x : Int, Builtin.Int.intBits x ≤ x.natAbs.log2 + 1 := fun x => by
    unfold Builtin.Int.intBits
    split <;> omega
  have h1 := b i
  have h2 := b j
  have h3 : i.natAbs.log2 + j.natAbs.log2 < 134000000 := h
  have e : bitsLine = 134217728 := by decide
  unfold IntMulOk
  intro z
  rw [Bool.and_eq_true] at z
  have z2 := z.2
  unfold Builtin.Int.intTooBig at z2
  have z3 := of_decide_eq_true z2
  rw [e] at z3
  omega
theorem op_mulB : OpR X (binaryOp .Mult) (rI CMulB fun i j => .int (i * j)) := opI fun _ _ _ _ _ _ _ hc q => mul_int q hc.ok
theorem mulB_of {i j : Int} {a b : Nat} (ha : i.natAbs < 2 ^ a) (hb : j.natAbs < 2 ^ b) (h : a + b ≤ 134000000) : CMulB i j := by
  have lg : ∀ (x : Nat) (c : Nat), x < 2 ^ c → x.log2 ≤ c - 1 := fun x c hx => by
    by_cases h0 : x = 0
    · subst h0
      simp
    · have := (Nat.log2_lt h0).mpr hx
      omega
  have x := lg _ _ ha
  have y := lg _ _ hb
  have z : 0 < a ∨ a = 0 := by omega
  have z' : 0 < b ∨ b = 0 := by omega
  unfold CMulB
  omega
def fMul (r1 r2 : EI) (M : Mem) (P : PP) : Prop :=
  match rdD M r1, rdD M r2 with
  | some (.int i), some (.int j) => CMulB i j ∧ P (.dat (.int (i * j))) M
  | some (.lst x), some (.int k) => -(2 ^ 63) ≤ k ∧ k < 2 ^ 63 ∧ x.length * k.toNat ≤ sizeLine ∧ P (.dat (.lst (List.replicate k.toNat x).flatten)) M
  | _, _ => False
theorem opR_mul : OpR X (binaryOp .Mult) (fun x y H Q => rI CMulB (fun i j => .int (i * j)) x y H Q ∨ rRep x y H Q) := OpR.or op_mulB op_rep
theorem od_mul : OpD K (fun x y H Q => rI CMulB (fun i j => .int (i * j)) x y H Q ∨ rRep x y H Q) fMul :=
  (od_I.or od_rep).imp fun r1 r2 M P h => by
    unfold fMul at h
    split at h
    · rename_i i j e1 e2
      exact .inl ⟨i, j, e1, e2, h⟩
    · rename_i i j e1 e2
      exact .inr ⟨i, j, e1, e2, h⟩
    · exact h.elim
theorem ed_mul (h : ED n X (env, M) a fun r1 M1 => ED n X (env, M1) b fun r2 M2 => fMul r1 r2 M2 P) : ED n X (env, M) (.BinOp a .Mult b pos) P := ed_op opR_mul od_mul h
def CDivX (i j : Int) : Prop := j ≠ 0 ∧ Builtin.divisionGoesByPylong i j = false
theorem op_fdivX : OpR X (binaryOp .FloorDiv) (rI CDivX fun i j => .int (i.fdiv j)) := opI fun _ _ _ _ _ _ _ hc q => floordiv_int hc.1 q (.inl hc.2)
theorem iop_fdivX : OpR X (inplaceOp .FloorDiv) (rI CDivX fun i j => .int (i.fdiv j)) := opI fun _ _ _ _ _ _ _ hc q => ifloordiv_int hc.1 q (.inl hc.2)
theorem ed_fdiv (h : ED n X (env, M) a fun r1 M1 => ED n X (env, M1) b fun r2 M2 => fII CDivX (fun i j => .int (i.fdiv j)) r1 r2 M2 P) : ED n X (env, M) (.BinOp a .FloorDiv b pos) P := ed_op op_fdivX od_I h
theorem ed_mod (h : ED n X (env, M) a fun r1 M1 => ED n X (env, M1) b fun r2 M2 => fII (fun _ j => j ≠ 0) (fun i j => .int (i.fmod j)) r1 r2 M2 P) : ED n X (env, M) (.BinOp a .Mod b pos) P := ed_op op_modN od_I h
def CPowX (i j : Int) : Prop := 0 ≤ j ∧ (Builtin.Int.intBits i : Int) * j ≤ 2 ^ 27
theorem op_powX : OpR X (binaryOp .Pow) (rI CPowX fun i j => .int (i ^ j.toNat)) := opI fun _ _ _ _ _ _ _ hc q => pow_int hc.1 hc.2 q
theorem ed_pow (h : ED n X (env, M) a fun r1 M1 => ED n X (env, M1) b fun r2 M2 => fII CPowX (fun i j => .int (i ^ j.toNat)) r1 r2 M2 P) : ED n X (env, M) (.BinOp a .Pow b pos) P := ed_op op_powX od_I h
/-! ### one value -/
theorem ed_neg (h : ED n X (env, M) a fun r M1 => ∃ i, rdD M1 r = some (.int i) ∧ P (.dat (.int (-i))) M1) : ED n X (env, M) (.UnaryOp .USub a pos) P :=
  ed_lift (pe_un un_neg wpE_ok) fun B as σ H hn C Q q => h B as σ H hn C _ fun r v M' as' H' ⟨i, e, p⟩ C' o => ⟨i, rd_dv C'.cf o e trivial, q _ _ M' as' H' p C' rfl⟩
/-! ### order -/
abbrev fCmp (g : Int → Int → Bool) := fII (fun _ _ => True) fun i j => D.bl (g i j)
theorem ed_lt (h : ED n X (env, M) a fun r1 M1 => ED n X (env, M1) b fun r2 M2 => fCmp (fun i j => decide (i < j)) r1 r2 M2 P) : ED n X (env, M) (.Compare a [.Lt] [b] pos) P := ed_cmpR op_lt od_B0 h
theorem ed_le (h : ED n X (env, M) a fun r1 M1 => ED n X (env, M1) b fun r2 M2 => fCmp (fun i j => decide (i ≤ j)) r1 r2 M2 P) : ED n X (env, M) (.Compare a [.LtE] [b] pos) P := ed_cmpR op_le od_B0 h
theorem ed_gt (h : ED n X (env, M) a fun r1 M1 => ED n X (env, M1) b fun r2 M2 => fCmp (fun i j => decide (j < i)) r1 r2 M2 P) : ED n X (env, M) (.Compare a [.Gt] [b] pos) P := ed_cmpR op_gt od_B0 h
theorem ed_ge (h : ED n X (env, M) a fun r1 M1 => ED n X (env, M1) b fun r2 M2 => fCmp (fun i j => decide (j ≤ i)) r1 r2 M2 P) : ED n X (env, M) (.Compare a [.GtE] [b] pos) P := ed_cmpR op_ge od_B0 h
theorem td_lt {P : Bool → Mem → Prop} (h : ED n X (env, M) a fun r1 M1 => ED n X (env, M1) b fun r2 M2 => fCmp (fun i j => decide (i < j)) r1 r2 M2 (isB P)) : TD n X (env, M) (.Compare a [.Lt] [b] pos) P := td_cmpR op_lt od_B0 h
theorem td_le {P : Bool → Mem → Prop} (h : ED n X (env, M) a fun r1 M1 => ED n X (env, M1) b fun r2 M2 => fCmp (fun i j => decide (i ≤ j)) r1 r2 M2 (isB P)) : TD n X (env, M) (.Compare a [.LtE] [b] pos) P := td_cmpR op_le od_B0 h
theorem td_gt {P : Bool → Mem → Prop} (h : ED n X (env, M) a fun r1 M1 => ED n X (env, M1) b fun r2 M2 => fCmp (fun i j => decide (j < i)) r1 r2 M2 (isB P)) : TD n X (env, M) (.Compare a [.Gt] [b] pos) P := td_cmpR op_gt od_B0 h
theorem td_ge {P : Bool → Mem → Prop} (h : ED n X (env, M) a fun r1 M1 => ED n X (env, M1) b fun r2 M2 => fCmp (fun i j => decide (j ≤ i)) r1 r2 M2 (isB P)) : TD n X (env, M) (.Compare a [.GtE] [b] pos) P := td_cmpR op_ge od_B0 h
/-- a op1 b op2 c of ints -/
theorem ed_chain {c : Expr} {op op' : CmpOp} {g g' : Int → Int → Bool} (ho : OpR X (compareOp op) (rI0 fun i j => .bl (g i j))) (ho' : OpR X (compareOp op') (rI0 fun i j => .bl (g' i j)))
    (h : ED n X (env, M) a fun r1 M1 => ED n X (env, M1) b fun r2 M2 => ∃ i j, rdD M2 r1 = some (.int i) ∧ rdD M2 r2 = some (.int j) ∧ (g i j = true → ED n X (env, M2) c fun r3 M3 => ∃ k, rdD M3 r3 = some (.int k) ∧ P (.dat (.bl (g' j k))) M3) ∧ (g i j = false → P (.dat (.bl false)) M2))
    (hm : lastMarks [op, op'] [b, c] = false := by with_unfolding_all rfl) : ED n X (env, M) (.Compare a [op, op'] [b, c] pos) P :=
  ed_lift (pe_chain ho ho' wpE_ok wpE_ok wpE_ok hm) fun B as σ H hn C Q q => by
    refine h B as σ H hn C _ fun r1 v1 M1 as1 H1 h1 C1 o1 => ?_
    refine h1 (B.add (r1, v1)) as1 σ H1 hn (C1.cf.add o1) _ fun r2 v2 M2 as2 H2 ⟨i, j, e1, e2, ht, hf⟩ C2 o2 => ?_
    have d1 : v1 = .int i := rd_dv C2.cf C2.cf.top e1 trivial
    have d2 : v2 = .int j := rd_dv C2.cf o2 e2 trivial
    refine ⟨i, j, d1, d2, g i j, rfl, ?_⟩
    cases hg : g i j with
    | true =>
      refine iteT ?_
      refine ht hg B as2 σ H2 hn C2.cf.pop _ fun r3 v3 M3 as3 H3 ⟨k, e3, p⟩ C3 o3 => ?_
      have d3 : v3 = .int k := rd_dv C3.cf o3 e3 trivial
      exact ⟨j, k, d2, d3, q _ _ M3 _ H3 p ((C1.tr C2.pop).tr C3) rfl⟩
    | false => exact iteF (q _ _ M2 _ H2 (hf hg) (C1.tr C2.pop) rfl)

/-! ### == of data -/
mutual
def toPy : D → PyData
  | .non => .none
  | .bl b => .bool b
  | .int i => .int i
  | .str x => .str x
  | .lst ds => .list (toPys ds)
  | .tup ds => .tuple (toPys ds)
  | .dic _ _ => .dict []
  | .ins _ _ _ => .dict []
  | .scr ns => .list (ns.map PyData.int)
def toPys : List D → List PyData
  | [] => []
  | d :: ds => toPy d :: toPys ds
end
mutual
/-- none, bools, ints, texts, lists and tuples of them -/
def pure0 : D → Bool
  | .dic _ _ => false
  | .ins _ _ _ => false
  | .lst ds => pures ds
  | .tup ds => pures ds
  | _ => true
def pures : List D → Bool
  | [] => true
  | d :: ds => pure0 d && pures ds
end
theorem dpAll_ints {H : Hp} : ∀ ns : List Int, DpAll K H (ns.map V.int) (ns.map PyData.int)
  | [] => .nil
  | n :: ns => .cons (.int n) (dpAll_ints ns)
mutual
theorem DV.dp {N H} : ∀ (d : D) (v : V), DV K N H d v → pure0 d = true → Dp K H v (toPy d)
  | .non, v, h, _ => by
    have e : v = .non := h
    subst e
    exact .non
  | .bl b, v, h, _ => by
    have e : v = .bl b := h
    subst e
    exact .bl b
  | .int i, v, h, _ => by
    have e : v = .int i := h
    subst e
    exact .int i
  | .str x, v, h, _ => by
    have e : v = .str x := h
    subst e
    exact .str x
  | .lst ds, v, h, p => by
    obtain ⟨a, vs, rfl, _, r, q⟩ := h
    exact .lst (SqL.of r) (DVs.dp ds vs q p)
  | .tup ds, v, h, p => by
    obtain ⟨a, vs, rfl, r, q⟩ := h
    exact .tup r.sq (DVs.dp ds vs q p)
  | .dic _ _, _, _, p => by cases p
  | .ins _ _ _, _, _, p => by cases p
  | .scr ns, v, h, p => by
    obtain ⟨a, rfl, r⟩ := h
    exact .lst r.sq (dpAll_ints ns)
theorem DVs.dp {N H} : ∀ (ds : List D) (vs : List V), DVs K N H ds vs → pures ds = true → DpAll K H vs (toPys ds)
  | [], vs, h, _ => by
    have e : vs = [] := h
    subst e
    exact .nil
  | d :: ds, vs, h, p => by
    obtain ⟨v, r, rfl, q, z⟩ := h
    have p' : (pure0 d && pures ds) = true := p
    rw [Bool.and_eq_true] at p'
    exact .cons (DV.dp d v q p'.1) (DVs.dp ds r z p'.2)
end
def okD (d : D) : Bool := pure0 d && SeqAt.shaped (toPy d)
def eqD (d e : D) : Bool := PyData.eqv (toPy d) (toPy e)
theorem CF.rd_dp {B as c σ H r v d} (C : CF K B as c σ H) (o : VOk K (Ne B as c.2) H as r v) (h : rdD c.2 r = some d) (hd : pure0 d = true) : Dp K H v (toPy d) := by
  obtain ⟨env, M⟩ := c
  cases d with
  | lst ds =>
    obtain ⟨p, vs, rfl, q, z⟩ := rd_lst C o h
    exact .lst (SqL.of q) (z.dp _ _ hd)
  | dic => cases hd
  | ins => cases hd
  | non => exact (rd_dv C o h trivial).dp _ _ hd
  | bl => exact (rd_dv C o h trivial).dp _ _ hd
  | int => exact (rd_dv C o h trivial).dp _ _ hd
  | str => exact (rd_dv C o h trivial).dp _ _ hd
  | tup => exact (rd_dv C o h trivial).dp _ _ hd
  | scr => exact (rd_dv C o h trivial).dp _ _ hd
def fEq (neg : Bool) (r1 r2 : EI) (M : Mem) (P : PP) : Prop := ∃ d1 d2, rdD M r1 = some d1 ∧ rdD M r2 = some d2 ∧ okD d1 = true ∧ okD d2 = true ∧ P (.dat (.bl (xor neg (eqD d1 d2)))) M
theorem od_eq : OpD K (rEqD K) (fEq false) := by
  intro B as env M σ H r1 r2 v1 v2 Cf o1 o2 P f Q q
  obtain ⟨d1, d2, e1, e2, k1, k2, p⟩ := f
  rw [okD, Bool.and_eq_true] at k1 k2
  exact ⟨_, _, CF.rd_dp Cf o1 e1 k1.1, CF.rd_dp Cf o2 e2 k2.1, k1.2, k2.2, q _ _ M as H p Cf.g (by simp [VOk, DV, eqD])⟩
theorem od_ne : OpD K (rNeD K) (fEq true) := by
  intro B as env M σ H r1 r2 v1 v2 Cf o1 o2 P f Q q
  obtain ⟨d1, d2, e1, e2, k1, k2, p⟩ := f
  rw [okD, Bool.and_eq_true] at k1 k2
  exact ⟨_, _, CF.rd_dp Cf o1 e1 k1.1, CF.rd_dp Cf o2 e2 k2.1, k1.2, k2.2, q _ _ M as H p Cf.g (by simp [VOk, DV, eqD])⟩
theorem ed_eq (hu : X.A.units + 64 < cLine) (h : ED n X (env, M) a fun r1 M1 => ED n X (env, M1) b fun r2 M2 => fEq false r1 r2 M2 P) : ED n X (env, M) (.Compare a [.Eq] [b] pos) P := ed_cmpR (op_eqD hu) od_eq h
theorem ed_ne (hu : X.A.units + 64 < cLine) (h : ED n X (env, M) a fun r1 M1 => ED n X (env, M1) b fun r2 M2 => fEq true r1 r2 M2 P) : ED n X (env, M) (.Compare a [.NotEq] [b] pos) P := ed_cmpR (op_neD hu) od_ne h
theorem td_eq {P : Bool → Mem → Prop} (hu : X.A.units + 64 < cLine) (h : ED n X (env, M) a fun r1 M1 => ED n X (env, M1) b fun r2 M2 => fEq false r1 r2 M2 (isB P)) : TD n X (env, M) (.Compare a [.Eq] [b] pos) P := td_cmpR (op_eqD hu) od_eq h
theorem td_ne {P : Bool → Mem → Prop} (hu : X.A.units + 64 < cLine) (h : ED n X (env, M) a fun r1 M1 => ED n X (env, M1) b fun r2 M2 => fEq true r1 r2 M2 (isB P)) : TD n X (env, M) (.Compare a [.NotEq] [b] pos) P := td_cmpR (op_neD hu) od_ne h
/-! ### is None -/
theorem dv_non {N H d v} (h : DV K N H d v) : decide (v = V.non) = (match d with | .non => true | _ => false) := by
  cases d with
  | non =>
    have e : v = .non := h
    subst e
    rfl
  | bl => have e : v = .bl _ := h; subst e; rfl
  | int => have e : v = .int _ := h; subst e; rfl
  | str => have e : v = .str _ := h; subst e; rfl
  | lst => obtain ⟨a, vs, rfl, _⟩ := h; rfl
  | tup => obtain ⟨a, vs, rfl, _⟩ := h; rfl
  | dic => obtain ⟨a, vs, rfl, _⟩ := h; rfl
  | ins => obtain ⟨a, dx, vs, rfl, _⟩ := h; rfl
  | scr => obtain ⟨a, rfl, _⟩ := h; rfl
def isNon : D → Bool
  | .non => true
  | _ => false
theorem ed_isN {j pos'} (h : ED n X (env, M) a fun r M1 => ∃ d, r = .dat d ∧ P (.dat (.bl (isNon d))) M1) : ED n X (env, M) (.Compare a [.Is] [.Constant .none j pos'] pos) P :=
  ed_lift (pe_cmp (pc_isN wpE_ok) rfl) fun B as σ H hn C Q q => h B as σ H hn C _ fun r v M' as' H' ⟨d, e, p⟩ C' o => by
    subst e
    refine q _ _ M' as' H' p C' ?_
    show V.bl _ = V.bl _
    rw [dv_non o]
    cases d <;> rfl
theorem ed_notN {j pos'} (h : ED n X (env, M) a fun r M1 => ∃ d, r = .dat d ∧ P (.dat (.bl (!isNon d))) M1) : ED n X (env, M) (.Compare a [.IsNot] [.Constant .none j pos'] pos) P :=
  ed_lift (pe_cmp (pc_notN wpE_ok) rfl) fun B as σ H hn C Q q => h B as σ H hn C _ fun r v M' as' H' ⟨d, e, p⟩ C' o => by
    subst e
    refine q _ _ M' as' H' p C' ?_
    show V.bl _ = V.bl _
    rw [dv_non o]
    cases d <;> rfl
/-! ### subscripts -/
theorem atI_map {α β : Type} {f : α → β} {xs : List α} {i : Int} {x : α} (h : atI xs i = some x) : atI (xs.map f) i = some (f x) := by
  unfold atI at *
  rw [List.length_map]
  cases e : ixN xs.length i with
  | none =>
    rw [e] at h
    cases h
  | some j =>
    rw [e] at h
    show (xs.map f)[j]? = _
    rw [List.getElem?_map]
    have h' : xs[j]? = some x := h
    rw [h']
    rfl
theorem DVs.atI {N H} {ds : List D} {vs : List V} {i : Int} {d : D} (h : DVs K N H ds vs) (e : atI ds i = some d) : ∃ v, L2.atI vs i = some v ∧ DV K N H d v := by
  unfold L2.atI at *
  rw [← h.length]
  cases e' : ixN ds.length i with
  | none =>
    rw [e'] at e
    cases e
  | some j =>
    rw [e'] at e
    exact h.get e
def fIx (r1 r2 : EI) (M : Mem) (P : PP) : Prop :=
  match rdD M r1, rdD M r2 with
  | some (.lst ds), some (.int i) => ∃ d, atI ds i = some d ∧ P (.dat d) M
  | some (.tup ds), some (.int i) => ∃ d, atI ds i = some d ∧ P (.dat d) M
  | some (.scr ns), some (.int i) => ∃ d, atI ns i = some d ∧ P (.dat (.int d)) M
  | some (.str x), some (.int i) => x.length ≤ sizeLine ∧ ∃ c, atI x.cps.toList i = some c ∧ P (.dat (.str ⟨#[c]⟩)) M
  | _, _ => False
theorem ixR : IxR X (fun x y H Q => (rIxL X.K x y H Q ∨ rIxT X.K x y H Q) ∨ rIxS x y H Q) := IxR.or (IxR.or ix_list ix_tup) ix_str
theorem od_ix : OpD K (fun x y H Q => (rIxL K x y H Q ∨ rIxT K x y H Q) ∨ rIxS x y H Q) fIx := by
  intro B as env M σ H r1 r2 v1 v2 Cf o1 o2 P f Q q
  unfold fIx at f
  split at f
  · rename_i ds i e1 e2
    obtain ⟨d, e, p⟩ := f
    obtain ⟨a, vs, d1, h1, w1⟩ := rd_lst Cf o1 e1
    have d2 : v2 = .int i := rd_dv Cf o2 e2 trivial
    obtain ⟨v, e', dv⟩ := w1.atI e
    exact .inl (.inl ⟨a, vs, i, v, d1, d2, SqL.of h1, e', q _ _ M as H p Cf.g dv⟩)
  · rename_i ds i e1 e2
    obtain ⟨d, e, p⟩ := f
    obtain ⟨a, vs, d1, h1, w1⟩ : ∃ a vs, v1 = .ref a ∧ RdT K (Ne B as M) H a vs ∧ DVs K (Ne B as M) H ds vs := rd_dv Cf o1 e1 trivial
    have d2 : v2 = .int i := rd_dv Cf o2 e2 trivial
    obtain ⟨v, e', dv⟩ := w1.atI e
    exact .inl (.inr ⟨a, vs, i, v, d1, d2, h1.sq, e', q _ _ M as H p Cf.g dv⟩)
  · rename_i ds i e1 e2
    obtain ⟨d, e, p⟩ := f
    obtain ⟨a, d1, h1⟩ : ∃ a, v1 = .ref a ∧ RdL K (Ne B as M) H a (ds.map V.int) := rd_dv Cf o1 e1 trivial
    have d2 : v2 = .int i := rd_dv Cf o2 e2 trivial
    exact .inl (.inl ⟨a, _, i, .int d, d1, d2, h1.sq, atI_map e, q _ _ M as H p Cf.g rfl⟩)
  · rename_i x i e1 e2
    obtain ⟨hl, c, e, p⟩ := f
    have d1 : v1 = .str x := rd_dv Cf o1 e1 trivial
    have d2 : v2 = .int i := rd_dv Cf o2 e2 trivial
    exact .inr ⟨x, i, c, d1, d2, hl, e, q _ _ M as H p Cf.g rfl⟩
  · exact f.elim
theorem ed_ix (h : ED n X (env, M) a fun r1 M1 => ED n X (env, M1) b fun r2 M2 => fIx r1 r2 M2 P) (hs : PlainIx b := by exact fun _ _ => rfl) : ED n X (env, M) (.Subscript a b pos) P :=
  ed_opR (t := wpE X a) (pe_ix ixR wpE_ok wpE_ok hs) od_ix h
end
end Dl
set_option Elab.async false
set_option linter.all false
set_option maxRecDepth 100000
set_option maxHeartbeats 2000000
/-! Dl part 4: contracts, calls, fields. -/
namespace Dl
open PySem L2 PyProof.Rows

/-- what a def does: its arguments, the cells that are handed in; wanted: new or not, the result, the cells behind -/
abbrev Ct := List EI → Mem → (Bool → D → Mem → Prop) → Prop
structure EntryOk (K : PySem.W.Frag) (N0 : Addr → Prop) (as : List Addr) (args : List EI) (M : Mem) (vs : List V) (H : Hp) : Prop where
  len : as.length = M.length
  nd : as.Nodup
  n0 : ∀ a, N0 a → H a ≠ none
  inN : ∀ a ∈ as, N0 a
  live : ∀ x ∈ M, x.live = true
  cells : ∀ (k : Nat) (a : Addr) (x : Cell), as[k]? = some a → M[k]? = some x → CellOk K N0 H a x
  vals : VsOk K N0 H as args vs
structure ExitOk (K : PySem.W.Frag) (N0 : Addr → Prop) (as : List Addr) (H : Hp) (fr : Bool) (d : D) (M' : Mem) (v : V) (H' : Hp) : Prop where
  len : M'.length = as.length
  live : ∀ x ∈ M', x.live = true
  cells : ∀ (k : Nat) (a : Addr) (x : Cell), as[k]? = some a → M'[k]? = some x → CellOk K (fun b => N0 b ∨ (fr = true ∧ v = .ref b)) H' a x
  frame : ∀ a o, a ∉ as → H a = some o → H' a = some o
  al : ∀ a ∈ as, H' a ≠ none
  res : if fr = true then ∃ p, v = .ref p ∧ H p = none ∧ (cellOf d).live = true ∧ CellOk K (fun a => N0 a ∨ a = p) H' p (cellOf d) else DV K N0 H' d v
def SpD (K : PySem.W.Frag) (F : Ct) : Sp := fun vs H Q _ => ∃ N0 as args M P0, EntryOk K N0 as args M vs H ∧ F args M P0 ∧ ∀ fr d M', P0 fr d M' → ∀ v H', ExitOk K N0 as H fr d M' v H' → Q v H'

/-! ### from the caller's side -/
def renE (ρ : List Nat) : EI → EI
  | .cel j => .cel (ρ.getD j 0)
  | .spn C f j => .spn C f (ρ.getD j 0)
  | e => e
def selM (M : Mem) (ρ : List Nat) : Mem := ρ.map fun k => (M[k]?).getD (.dead .non)
def updM : Mem → List Nat → Mem → Mem
  | M, [], _ => M
  | M, _ :: _, [] => M
  | M, k :: ρ, x :: xs => updM (M.set k x) ρ xs
theorem updM_len : ∀ (ρ : List Nat) (M xs : Mem), (updM M ρ xs).length = M.length
  | [], _, _ => by rw [updM]
  | _ :: _, _, [] => by rw [updM]
  | k :: ρ, M, x :: xs => by
    rw [updM, updM_len, List.length_set]
theorem updM_out : ∀ (ρ : List Nat) (M xs : Mem) (i : Nat), i ∉ ρ → (updM M ρ xs)[i]? = M[i]?
  | [], _, _, _, _ => by rw [updM]
  | _ :: _, _, [], _, _ => by rw [updM]
  | k :: ρ, M, x :: xs, i, h => by
    rw [updM, updM_out ρ _ xs i (fun z => h (List.mem_cons_of_mem _ z)), List.getElem?_set_ne]
    exact fun z => h (z ▸ List.mem_cons_self)
theorem updM_in : ∀ (ρ : List Nat) (M xs : Mem) (j i : Nat), ρ.Nodup → ρ[j]? = some i → i < M.length → xs.length = ρ.length → (updM M ρ xs)[i]? = xs[j]?
  | [], _, _, _, _, _, h, _, _ => by simp at h
  | _ :: _, _, [], _, _, _, _, _, h => by simp at h
  | k :: ρ, M, x :: xs, 0, i, nd, h, hl, hx => by
    simp at h
    subst h
    rw [updM, updM_out ρ _ xs _ (List.nodup_cons.mp nd).1, List.getElem?_set_self hl]
    rfl
  | k :: ρ, M, x :: xs, j + 1, i, nd, h, hl, hx => by
    rw [updM, updM_in ρ _ xs j i (List.nodup_cons.mp nd).2 (by simpa using h) (by simpa using hl) (by simpa using hx)]
    rfl
/-- the caller's cells ρ (live ones, each once) are handed in -/
structure CallAt (ρ : List Nat) (args rs : List EI) (M : Mem) : Prop where
  eq : rs = args.map (renE ρ)
  nd : ρ.Nodup
  live : ∀ k ∈ ρ, ∃ x, M[k]? = some x ∧ x.live = true
  rng : ∀ e ∈ args, match e with | .cel j => j < ρ.length | .spn _ _ j => j < ρ.length | _ => True
section
variable {K : PySem.W.Frag} {B : Bs} {as : List Addr} {env : EnvD} {M M' : Mem} {σ : L2.St} {H H' : Hp}
/-- all that a step must show -/
theorem CF.step (C : CF K B as (env, M) σ H) {ext : List Addr} {M2 : Mem} (kp : Kp (Ne B as M) (Ne B (as ++ ext) M2) H H') (len : (as ++ ext).length = M2.length) (nd : (as ++ ext).Nodup) (al : ∀ a, H a ≠ none → H' a ≠ none) (ale : ∀ a ∈ ext, H a = none ∧ H' a ≠ none)
    (cells : ∀ (k : Nat) (a : Addr) (x : Cell), (as ++ ext)[k]? = some a → M2[k]? = some x → CellOk K (Ne B (as ++ ext) M2) H' a x) (fr : ∀ a o, a ∉ as → H a = some o → H' a = some o) (fr0 : ∀ a o, a ∈ as → a ∉ B.A0 → B.H0 a = some o → H' a = some o) : CF K B (as ++ ext) (env, M2) σ H' := by
  have hA : ∀ a, H a = none → B.H0 a = none := fun a hp => by
    cases e : B.H0 a with
    | none => rfl
    | some u =>
      have hn : a ∉ B.A0 := fun z => C.a0 a (C.pre.subset z) hp
      rw [C.frame a u e hn] at hp
      cases hp
  refine { len := len, nd := nd, nb := C.nb, n0 := fun a z => al a (C.n0 a z), a0 := fun a z => ?_, pre := C.pre.trans (List.prefix_append _ _), cells := cells, sl := C.sl, slots := fun i e z => ?_, frame := fun a o e n => ?_, fresh := fun k a e hk => ?_, gh := fun g hg => (C.gh g hg).kp kp (List.prefix_append _ _) }
  · rcases List.mem_append.mp z with z | z
    · exact al a (C.a0 a z)
    · exact (ale a z).2
  · obtain ⟨o, e1, q⟩ := C.slots i e z
    exact ⟨o, e1, q.kp kp (List.prefix_append _ _)⟩
  · by_cases ha : a ∈ as
    · exact fr0 a o ha n e
    · exact fr a o ha (C.frame a o e n)
  · by_cases hk2 : k < as.length
    · rw [List.getElem?_append_left hk2] at e
      exact C.fresh k a e hk
    · rw [List.getElem?_append_right (by omega)] at e
      exact hA a (ale a (List.mem_of_getElem? e)).1
theorem sel_as {as : List Addr} {ρ : List Nat} (h : ∀ k ∈ ρ, k < as.length) : ∀ j : Nat, (ρ.map fun k => as.getD k 0)[j]? = (ρ[j]?).bind fun k => as[k]? := fun j => by
  rw [List.getElem?_map]
  cases e : ρ[j]? with
  | none => rfl
  | some k =>
    have hk := h k (List.mem_of_getElem? e)
    simp [List.getD_eq_getElem?_getD, List.getElem?_eq_getElem hk]
theorem VOk.ren {N : Addr → Prop} {ρ : List Nat} (h : ∀ k ∈ ρ, k < as.length) : ∀ {e : EI} {v : V}, (match e with | .cel j => j < ρ.length | .spn _ _ j => j < ρ.length | _ => True) → VOk K N H as (renE ρ e) v → VOk K N H (ρ.map fun k => as.getD k 0) e v
  | .un, _, _, _ => trivial
  | .dat _, _, _, z => z
  | .cel j, v, hj, z => by
    obtain ⟨a, e, q⟩ := z
    refine ⟨a, ?_, q⟩
    rw [sel_as h]
    have hj' : j < ρ.length := hj
    rw [List.getD_eq_getElem?_getD, List.getElem?_eq_getElem hj'] at e
    rw [List.getElem?_eq_getElem hj']
    exact e
  | .spn C f j, v, hj, z => by
    obtain ⟨x, dx, a, q, nn, hh, e⟩ := z
    refine ⟨x, dx, a, q, nn, hh, ?_⟩
    rw [sel_as h]
    have hj' : j < ρ.length := hj
    rw [List.getD_eq_getElem?_getD, List.getElem?_eq_getElem hj'] at e
    rw [List.getElem?_eq_getElem hj']
    exact e
theorem VsOk.ren {N : Addr → Prop} {ρ : List Nat} (h : ∀ k ∈ ρ, k < as.length) : ∀ {es : List EI} {vs : List V}, (∀ e ∈ es, match e with | .cel j => j < ρ.length | .spn _ _ j => j < ρ.length | _ => True) → VsOk K N H as (es.map (renE ρ)) vs → VsOk K N H (ρ.map fun k => as.getD k 0) es vs
  | [], _, _, z => z
  | e :: es, vs, hr, z => by
    obtain ⟨v, us, rfl, o, t⟩ := z
    exact ⟨v, us, rfl, VOk.ren h (hr e List.mem_cons_self) o, VsOk.ren h (fun e he => hr e (List.mem_cons_of_mem _ he)) t⟩
theorem CF.entry (C : CF K B as (env, M) σ H) {ρ : List Nat} {args rs : List EI} {vs : List V} (c : CallAt ρ args rs M) (o : VsOk K (Ne B as M) H as rs vs) : EntryOk K (Ne B as M) (ρ.map fun k => as.getD k 0) args (selM M ρ) vs H := by
  have hl : as.length = M.length := C.len
  have hρ : ∀ k ∈ ρ, k < as.length := fun k hk => by
    obtain ⟨x, e, _⟩ := c.live k hk
    rw [hl]
    exact (List.getElem?_eq_some_iff.mp e).1
  have hsel : ∀ j k, ρ[j]? = some k → (selM M ρ)[j]? = M[k]? := fun j k e => by
    obtain ⟨x, e1, _⟩ := c.live k (List.mem_of_getElem? e)
    rw [selM, List.getElem?_map, e, e1]
    simp [e1]
  refine { len := by simp [selM], nd := ?_, n0 := C.alloc, inN := fun a ha => ?_, live := fun x hx => ?_, cells := fun j a x e1 e2 => ?_, vals := ?_ }
  · refine List.pairwise_map.mpr (List.Pairwise.imp_of_mem ?_ c.nd)
    intro i j hi hj hij e
    have h1 := hρ i hi
    have h2 := hρ j hj
    rw [List.getD_eq_getElem?_getD, List.getD_eq_getElem?_getD, List.getElem?_eq_getElem h1, List.getElem?_eq_getElem h2] at e
    exact hij ((List.getElem_inj C.nd).mp e)
  · obtain ⟨k, hk, e⟩ := List.mem_map.mp ha
    obtain ⟨x, e1, lv⟩ := c.live k hk
    have h1 := hρ k hk
    refine .inr ⟨k, x, ?_, e1, lv⟩
    rw [← e, List.getD_eq_getElem?_getD, List.getElem?_eq_getElem h1]
    rfl
  · obtain ⟨k, hk, e⟩ := List.mem_map.mp hx
    obtain ⟨y, e1, lv⟩ := c.live k hk
    rw [e1] at e
    have e' : y = x := e
    rw [← e']
    exact lv
  · rw [sel_as hρ] at e1
    cases ej : ρ[j]? with
    | none =>
      rw [ej] at e1
      cases e1
    | some k =>
      rw [ej] at e1
      rw [hsel j k ej] at e2
      exact C.cells k a x e1 e2
  · rw [c.eq] at o
    exact VsOk.ren hρ c.rng o
/-- behind a call -/
theorem CF.exit (C : CF K B as (env, M) σ H) {ρ : List Nat} {args rs : List EI} (c : CallAt ρ args rs M) {fr : Bool} {d : D} {v : V} (x : ExitOk K (Ne B as M) (ρ.map fun k => as.getD k 0) H fr d M' v H') :
    CF K B as (env, updM M ρ M') σ H' ∧ DV K (Ne B as (updM M ρ M')) H' d v ∧ (fr = true → ∃ p, v = .ref p ∧ CF K B (as ++ [p]) (env, updM M ρ M' ++ [cellOf d]) σ H') := by
  have hl : as.length = M.length := C.len
  have hρ : ∀ k ∈ ρ, k < as.length := fun k hk => by
    obtain ⟨x, e, _⟩ := c.live k hk
    rw [hl]
    exact (List.getElem?_eq_some_iff.mp e).1
  have hM' : M'.length = ρ.length := by rw [x.len, List.length_map]
  have inN : ∀ a, a ∈ (ρ.map fun k => as.getD k 0) → Ne B as M a := fun a ha => by
    obtain ⟨k, hk, e⟩ := List.mem_map.mp ha
    obtain ⟨x, e1, lv⟩ := c.live k hk
    have h1 := hρ k hk
    refine .inr ⟨k, x, ?_, e1, lv⟩
    rw [← e, List.getD_eq_getElem?_getD, List.getElem?_eq_getElem h1]
    rfl
  have ne1 : ∀ a, Ne B as (updM M ρ M') a → Ne B as M a := fun a z => by
    rcases z with z | ⟨k, y, e1, e2, lv⟩
    · exact .inl z
    · by_cases hk : k ∈ ρ
      · obtain ⟨x, e3, lv'⟩ := c.live k hk
        exact .inr ⟨k, x, e1, e3, lv'⟩
      · rw [updM_out _ _ _ _ hk] at e2
        exact .inr ⟨k, y, e1, e2, lv⟩
  have kh : ∀ a o, ¬ Ne B as M a → H a = some o → H' a = some o := fun a o n e => x.frame a o (fun z => n (inN a z)) e
  have kp : Kp (Ne B as M) (Ne B as (updM M ρ M')) H H' := ⟨fun a z => .inl (ne1 a z), kh⟩
  have al : ∀ a, H a ≠ none → H' a ≠ none := fun a z => by
    by_cases ha : a ∈ (ρ.map fun k => as.getD k 0)
    · exact x.al a ha
    · cases e : H a with
      | none => exact absurd e z
      | some o => rw [x.frame a o ha e]; exact fun q => by cases q
  have cells : ∀ (N' : Addr → Prop), (∀ a, N' a → Ne B as M a ∨ H a = none) → (∀ (k : Nat) (a : Addr) (y : Cell), k ∈ ρ → as[k]? = some a → (updM M ρ M')[k]? = some y → CellOk K N' H' a y) → ∀ (k : Nat) (a : Addr) (y : Cell), as[k]? = some a → (updM M ρ M')[k]? = some y → CellOk K N' H' a y := fun N' hN hin k a y e1 e2 => by
    by_cases hk : k ∈ ρ
    · exact hin k a y hk e1 e2
    · have e2' := e2
      rw [updM_out _ _ _ _ hk] at e2'
      refine (C.cells k a y e1 e2').kp ⟨hN, kh⟩ ?_
      cases e : H a with
      | none => exact absurd e (C.a0 a (List.mem_of_getElem? e1))
      | some o =>
        refine x.frame a o (fun z => ?_) e
        obtain ⟨i, hi, ei⟩ := List.mem_map.mp z
        have h1 := hρ i hi
        rw [List.getD_eq_getElem?_getD, List.getElem?_eq_getElem h1] at ei
        have ei' : as[i]? = some a := by
          rw [List.getElem?_eq_getElem h1]
          exact congrArg some ei
        exact hk (nd_ix C.nd ei' e1 ▸ hi)
  have got : ∀ (k : Nat) (a : Addr) (y : Cell), k ∈ ρ → as[k]? = some a → (updM M ρ M')[k]? = some y → CellOk K (fun b => Ne B as M b ∨ (fr = true ∧ v = .ref b)) H' a y := fun k a y hk e1 e2 => by
    obtain ⟨j, hj⟩ := List.mem_iff_getElem?.mp hk
    rw [updM_in ρ M M' j k c.nd hj (hl ▸ hρ k hk) hM'] at e2
    refine x.cells j a y ?_ e2
    rw [sel_as hρ, hj]
    exact e1
  have fr0 : ∀ a o, a ∈ as → a ∉ B.A0 → B.H0 a = some o → H' a = some o := fun a o ha hn e => by
    obtain ⟨k, hk⟩ := List.mem_iff_getElem?.mp ha
    by_cases hk2 : B.A0.length ≤ k
    · rw [C.fresh k a hk hk2] at e
      cases e
    · exfalso
      apply hn
      obtain ⟨r, er⟩ := C.pre
      rw [← er, List.getElem?_append_left (by omega)] at hk
      exact List.mem_of_getElem? hk
  have frm : ∀ a o, a ∉ as → H a = some o → H' a = some o := fun a o ha e => x.frame a o (fun z => by
    obtain ⟨i, hi, ei⟩ := List.mem_map.mp z
    have h1 := hρ i hi
    rw [List.getD_eq_getElem?_getD, List.getElem?_eq_getElem h1] at ei
    have ei' : as[i] = a := ei
    exact ha (ei' ▸ List.getElem_mem h1)) e
  have C1 : CF K B as (env, updM M ρ M') σ H' := by
    have q := C.step (ext := []) (M2 := updM M ρ M') (H' := H') (by simpa using kp) (by simp [updM_len, hl]) (by simpa using C.nd) al (fun a z => by cases z) (fun k a y e1 e2 => by
      simp only [List.append_nil] at e1 ⊢
      exact cells _ (fun a z => .inl (ne1 a z)) (fun k a y hk e1 e2 => (got k a y hk e1 e2).mono fun b z => .inl (ne1 b z)) k a y e1 e2) frm fr0
    simpa using q
  refine ⟨C1, ?_, fun hfr => ?_⟩
  · have res := x.res
    cases fr with
    | false =>
      rw [if_neg (by decide)] at res
      exact res.mono ne1
    | true =>
      rw [if_pos rfl] at res
      obtain ⟨p, rfl, hp, lv, ok⟩ := res
      have np : ¬ Ne B as (updM M ρ M') p := fun z => C.alloc p (ne1 p z) hp
      have ok' := ok.mono (N' := Ne B as (updM M ρ M')) fun a z => .inl (ne1 a z)
      cases d with
      | lst ds =>
        obtain ⟨vs, e, q⟩ := ok'
        exact ⟨p, vs, rfl, np, e, q⟩
      | dic ks ds =>
        obtain ⟨vs, e, z, q⟩ := ok'
        exact ⟨p, vs, rfl, np, .inl e, z, q⟩
      | ins D fs ds =>
        obtain ⟨dx, vs, e, z, q⟩ := ok'
        exact ⟨p, dx, vs, rfl, np, e, z, q⟩
      | non => cases lv
      | bl => cases lv
      | int => cases lv
      | str => cases lv
      | tup => cases lv
      | scr => cases lv
  · have res := x.res
    rw [if_pos hfr] at res
    obtain ⟨p, rfl, hp, lv, ok⟩ := res
    refine ⟨p, rfl, ?_⟩
    have pin : p ∉ as := fun z => C.a0 p z hp
    have hl2 : as.length = (updM M ρ M').length := by rw [updM_len]; exact hl
    have ne2 : ∀ a, Ne B (as ++ [p]) (updM M ρ M' ++ [cellOf d]) a → Ne B as M a ∨ a = p := fun a z => by
      rcases z with z | ⟨k, y, e1, e2, lv⟩
      · exact .inl (.inl z)
      · by_cases hk : k < as.length
        · rw [List.getElem?_append_left hk] at e1
          rw [List.getElem?_append_left (hl2 ▸ hk)] at e2
          exact .inl (ne1 a (.inr ⟨k, y, e1, e2, lv⟩))
        · rw [List.getElem?_append_right (by omega)] at e1
          have k0 : k - as.length = 0 := by
            have := (List.getElem?_eq_some_iff.mp e1).1
            simp at this
            omega
          rw [k0] at e1
          simp at e1
          exact .inr e1.symm
    have hp' : H' p ≠ none := by
      cases d with
      | lst ds => obtain ⟨vs, e, _⟩ := ok; rw [e]; exact fun z => by cases z
      | dic ks ds => obtain ⟨vs, e, _⟩ := ok; rw [e]; exact fun z => by cases z
      | ins D fs ds => obtain ⟨dx, vs, e, _⟩ := ok; rw [e]; exact fun z => by cases z
      | non => cases lv
      | bl => cases lv
      | int => cases lv
      | str => cases lv
      | tup => cases lv
      | scr => cases lv
    refine C.step (ext := [p]) ⟨fun a z => (ne2 a z).imp id fun e => by rw [e]; exact hp, kh⟩ (by simp [updM_len, hl]) ?_ al (fun a z => ?_) (fun k a y e1 e2 => ?_) frm fr0
    · rw [List.nodup_append]
      exact ⟨C.nd, by simp, fun a ha b hb => by
        simp at hb
        subst hb
        exact fun e => pin (e ▸ ha)⟩
    · simp at z
      subst z
      exact ⟨hp, hp'⟩
    · by_cases hk : k < as.length
      · rw [List.getElem?_append_left hk] at e1
        rw [List.getElem?_append_left (hl2 ▸ hk)] at e2
        exact cells _ (fun a z => (ne2 a z).imp id fun e => by rw [e]; exact hp) (fun k a y hk e1 e2 => by
          exact (got k a y hk e1 e2).mono fun b z => (ne2 b z).imp id fun e => ⟨hfr, by rw [e]⟩) k a y e1 e2
      · rw [List.getElem?_append_right (by omega)] at e1
        rw [List.getElem?_append_right (by omega)] at e2
        have k0 : k - as.length = 0 := by
          have := (List.getElem?_eq_some_iff.mp e1).1
          simp at this
          omega
        rw [k0] at e1
        rw [show k - (updM M ρ M').length = 0 by omega] at e2
        simp at e1 e2
        subst e1
        subst e2
        exact ok.mono ne2
end
end Dl
set_option Elab.async false
set_option linter.all false
set_option maxRecDepth 100000
set_option maxHeartbeats 2000000
/-! Dl part 5: calls of one's own defs, methods, properties, classes; fields; built-ins; slices. -/
namespace Dl
open PySem L2 PyProof.Rows

theorem DVs.vs {K N H as} : ∀ {ds : List D} {vs : List V}, DVs K N H ds vs → VsOk K N H as (ds.map EI.dat) vs
  | [], _, h => h
  | _ :: _, _, h => by
    obtain ⟨v, r, rfl, a, t⟩ := h
    exact ⟨v, r, rfl, a, DVs.vs t⟩
structure FnG (P : Program) (w : World) (K : PySem.W.Frag) (mg : Str → Option Value) (base : Heap) (k : Nat) (x : Str) (F : Ct) : Prop where
  ex : ∃ f fd ps, FnOk P w K mg base CX0 k f fd ps (SpD K F) ∧ mg x = some (.ref f) ∧ PySem.W.keepIn K (.ref f) = true ∧ Binds K fd ps []
structure MethG (P : Program) (w : World) (K : PySem.W.Frag) (mg : Str → Option Value) (base : Heap) (k : Nat) (C : Addr) (m : Str) (F : Ct) : Prop where
  ex : ∃ f fd ps, FnOk P w K mg base CX0 k f fd ps (SpD K F) ∧ Meth K C m f ∧ Binds K fd ps []
  cl : Cls K C
structure PropG (P : Program) (w : World) (K : PySem.W.Frag) (mg : Str → Option Value) (base : Heap) (k : Nat) (C : Addr) (m : Str) (F : Ct) : Prop where
  ex : ∃ p f fd ps, FnOk P w K mg base CX0 k f fd ps (SpD K F) ∧ PropOf K C m p f ∧ Binds K fd ps []
  cl : Cls K C
structure MakeG (P : Program) (w : World) (K : PySem.W.Frag) (mg : Str → Option Value) (base : Heap) (k : Nat) (x : Str) (C : Addr) (F : Ct) : Prop where
  ex : ∃ f fd ps, FnOk P w K mg base CX0 k f fd ps (SpD K F) ∧ Mk K C f ∧ mg x = some (.ref C) ∧ Binds K fd ps []

section
variable {K : PySem.W.Frag} {B : Bs} {as : List Addr} {σ : L2.St} {H H' : Hp}
variable {X : Cx} {n : Nat} {env : EnvD} {M : Mem} {P : PP} {e a b o : Expr} {es : List Expr} {pos apos p : Pos} {k : Nat} {x m : Str} {F : Ct} {C : Addr}
/-- a new live cell, however it came -/
theorem CF.newG (c : CF K B as (env, M) σ H) {q : Addr} {y : Cell} (g : ∀ a o, H a = some o → H' a = some o) (hq : H q = none) (ok : CellOk K (fun a => Ne B as M a ∨ a = q) H' q y) (lv : y.live = true) (hq' : H' q ≠ none) : CF K B (as ++ [q]) (env, M ++ [y]) σ H' := by
  have hl : as.length = M.length := c.len
  have qin : q ∉ as := fun z => c.a0 q z hq
  have ne2 : ∀ a, Ne B (as ++ [q]) (M ++ [y]) a → Ne B as M a ∨ a = q := fun a z => by
    rcases z with z | ⟨k, y', e1, e2, lv⟩
    · exact .inl (.inl z)
    · by_cases hk : k < as.length
      · rw [List.getElem?_append_left hk] at e1
        rw [List.getElem?_append_left (hl ▸ hk)] at e2
        exact .inl (.inr ⟨k, y', e1, e2, lv⟩)
      · rw [List.getElem?_append_right (by omega)] at e1
        have k0 : k - as.length = 0 := by
          have := (List.getElem?_eq_some_iff.mp e1).1
          simp at this
          omega
        rw [k0] at e1
        simp at e1
        exact .inr e1.symm
  have kp : Kp (Ne B as M) (Ne B (as ++ [q]) (M ++ [y])) H H' := ⟨fun a z => (ne2 a z).imp id fun e => by rw [e]; exact hq, fun a o _ z => g a o z⟩
  refine c.step (ext := [q]) kp (by simp [hl]) ?_ (fun a z => ?_) (fun a z => ?_) (fun k a x e1 e2 => ?_) (fun a o _ z => g a o z) (fun a o _ hn z => g a o (c.frame a o z hn))
  · rw [List.nodup_append]
    exact ⟨c.nd, by simp, fun a ha b hb => by
      simp at hb
      subst hb
      exact fun e => qin (e ▸ ha)⟩
  · cases e : H a with
    | none => exact absurd e z
    | some o => rw [g a o e]; exact fun q => by cases q
  · simp at z
    subst z
    exact ⟨hq, hq'⟩
  · by_cases hk : k < as.length
    · rw [List.getElem?_append_left hk] at e1
      rw [List.getElem?_append_left (hl ▸ hk)] at e2
      refine (c.cells k a x e1 e2).kp kp ?_
      cases e : H a with
      | none => exact absurd e (c.a0 a (List.mem_of_getElem? e1))
      | some o => exact g a o e
    · rw [List.getElem?_append_right (by omega)] at e1
      rw [List.getElem?_append_right (by omega)] at e2
      have k0 : k - as.length = 0 := by
        have := (List.getElem?_eq_some_iff.mp e1).1
        simp at this
        omega
      rw [k0] at e1
      rw [show k - M.length = 0 by omega] at e2
      simp at e1 e2
      subst e1
      subst e2
      exact ok.mono ne2

/-! ### f(..) -/
theorem ed_call (G : FnG X.prog X.w X.K X.mg X.base k x F) (hr : Room k X.A) (h : AD n X (env, M) (e :: es) fun rs M1 => ∃ ρ args, CallAt ρ args rs M1 ∧ F args (selM M1 ρ) fun fr d M' => P (.dat d) (updM M1 ρ M'))
    (hg : Gl X x := by rfl) (hdb : (x == ("__debug__" : Str)) = false := by decide) (he : starEach (e :: es) X.env = (false, eval e X.env) :: starEach es X.env := by rfl) (hpl : (backTo pos (starEach es X.env)).any (·.1) = false := by rfl) :
    ED n X (env, M) (.Call (.Name x p) (e :: es) [] pos) P := by
  obtain ⟨f, fd, ps, G, hm, hk, hb⟩ := G.ex
  intro B as σ H hn C Q q
  refine wpE_of (pe_call G hr hg hm hk hb .nil pass0 (wpA_ok (X := X)) hdb he hpl (E := fun _ _ _ => False)) ?_
  refine h B as σ H hn C _ fun rs vs M1 as1 H1 ⟨ρ, args, c, hF⟩ C1 ov => ?_
  rw [List.append_nil]
  refine ⟨_, _, _, _, _, C1.cf.entry c ov, hF, fun fr d M' p v H' ex => ?_⟩
  obtain ⟨C2, dv, _⟩ := C1.cf.exit c ex
  exact q _ v _ as1 H' p ⟨C1.px, C2⟩ dv
theorem ed_call0 (G : FnG X.prog X.w X.K X.mg X.base k x F) (hr : Room k X.A) (h : F [] [] fun fr d M' => P (.dat d) M)
    (hg : Gl X x := by rfl) (hdb : (x == ("__debug__" : Str)) = false := by decide) : ED n X (env, M) (.Call (.Name x p) [] [] pos) P := by
  obtain ⟨f, fd, ps, G, hm, hk, hb⟩ := G.ex
  intro B as σ H hn C Q q
  refine wpE_of (pe_call0 G hr hg hm hk hb .nil pass0 hdb (E := fun _ _ _ => False)) ?_
  have c : CallAt [] [] [] M := ⟨rfl, List.nodup_nil, (fun k hk => nomatch hk), (fun e he => nomatch he)⟩
  refine ⟨_, _, _, _, _, C.entry c rfl, h, fun fr d M' p v H' ex => ?_⟩
  obtain ⟨C2, dv, _⟩ := C.exit c ex
  rw [updM] at C2 dv
  exact q _ v _ as H' p C2.g dv
/-- f(..), the result a cell -/
theorem en_call {P : D → Mem → Prop} (G : FnG X.prog X.w X.K X.mg X.base k x F) (hr : Room k X.A) (h : AD n X (env, M) (e :: es) fun rs M1 => ∃ ρ args, CallAt ρ args rs M1 ∧ F args (selM M1 ρ) fun fr d M' => fr = true ∧ P d (updM M1 ρ M'))
    (hg : Gl X x := by rfl) (hdb : (x == ("__debug__" : Str)) = false := by decide) (he : starEach (e :: es) X.env = (false, eval e X.env) :: starEach es X.env := by rfl) (hpl : (backTo pos (starEach es X.env)).any (·.1) = false := by rfl) :
    EN n X (env, M) (.Call (.Name x p) (e :: es) [] pos) P := by
  obtain ⟨f, fd, ps, G, hm, hk, hb⟩ := G.ex
  intro B as σ H hn C Q q
  refine wpE_of (pe_call G hr hg hm hk hb .nil pass0 (wpA_ok (X := X)) hdb he hpl (E := fun _ _ _ => False)) ?_
  refine h B as σ H hn C _ fun rs vs M1 as1 H1 ⟨ρ, args, c, hF⟩ C1 ov => ?_
  rw [List.append_nil]
  refine ⟨_, _, _, _, _, C1.cf.entry c ov, hF, fun fr d M' p v H' ex => ?_⟩
  obtain ⟨C2, dv, nw⟩ := C1.cf.exit c ex
  obtain ⟨z, rfl, C3⟩ := nw p.1
  exact q d z _ as1 H' p.2 ⟨C1.px, C2⟩ dv C3

/-! ### o.m(..) -/
def InsR (r : EI) (M : Mem) (C : Addr) (m : Str) : Prop := (∃ fs ds, rdD M r = some (.ins C fs ds) ∧ m ∉ fs) ∨ (∃ f k, r = .spn C f k ∧ m ≠ f)
theorem lookup_none {fs : List (Str × V)} {m : Str} (h : m ∉ fs.map (·.1)) : fs.lookup m = none := by
  induction fs with
  | nil => rfl
  | cons f r ih =>
    obtain ⟨g, v⟩ := f
    simp only [List.map_cons, List.mem_cons, not_or] at h
    rw [List.lookup_cons]
    have : (m == g) = false := by simpa using h.1
    rw [this]
    exact ih h.2
theorem InsR.at {r : EI} {v : V} (i : InsR r M C m) (c : CF K B as (env, M) σ H) (o : VOk K (Ne B as M) H as r v) : ∃ a dx gs, v = .ref a ∧ H a = some (.ins C dx gs) ∧ gs.lookup m = none := by
  rcases i with ⟨fs, ds, e, hm⟩ | ⟨f, k, rfl, hm⟩
  · obtain ⟨p, dx, gs, e1, e2, e3, _⟩ := rd_ins c o e
    exact ⟨p, dx, gs, e1, e2, lookup_none (by rw [e3]; exact hm)⟩
  · obtain ⟨y, dx, a, e1, _, e2, _⟩ := o
    exact ⟨y, dx, _, e1, e2, lookup_none (by simpa using hm)⟩
theorem ed_meth {pl : Sem Bool} (G : MethG X.prog X.w X.K X.mg X.base k C m F) (hr : Room k X.A) (h : ED n X (env, M) o fun r0 M0 => InsR r0 M0 C m ∧ AD n X (env, M0) (e :: es) fun rs M1 => ∃ ρ args, CallAt ρ args (r0 :: rs) M1 ∧ F args (selM M1 ρ) fun fr d M' => P (.dat d) (updM M1 ρ M'))
    (hst : starEach (e :: es) X.env = (false, eval e X.env) :: starEach es X.env := by rfl) (hpl : (backTo pos (starEach es X.env)).any (·.1) = false := by rfl)
    (ht : eval (.Call (.Attribute o m apos) (e :: es) [] pos) X.env = (do
      let ov ← eval o X.env
      standAt apos.atName
      let (f, first) ← holding [ov] (getMethod ov m pl)
      callWith pos f first (backTo pos (starEach (e :: es) X.env)) (backToKw pos (keywordEach [] X.env))) := by rfl) :
    ED n X (env, M) (.Call (.Attribute o m apos) (e :: es) [] pos) P := by
  obtain ⟨⟨f, fd, ps, G, hm, hb⟩, cl⟩ := G
  intro B as σ H hn C Q q
  refine wpE_of (pe_meth wpE_ok cl hm G hr hb .nil pass0 (wpA_ok (X := X)) hst hpl ht (E := fun _ _ _ => False)) ?_
  refine h B as σ H hn C _ fun r0 v0 M0 as0 H0 ⟨i0, h1⟩ C0 o0 => ?_
  obtain ⟨a, dx, gs, rfl, ha, hl⟩ := i0.at C0.cf o0
  refine ⟨a, dx, gs, rfl, ha, hl, ?_⟩
  refine h1 (B.add (r0, .ref a)) as0 σ H0 hn (C0.cf.add o0) _ fun rs vs M1 as1 H1 ⟨ρ, args, c, hF⟩ C1 ov => ?_
  rw [List.append_nil]
  have ov' : VsOk X.K (Ne B as1 M1) H1 as1 (r0 :: rs) (.ref a :: vs) := ⟨_, _, rfl, C1.cf.top, ov⟩
  have C1' := C1.pop
  refine ⟨_, _, _, _, _, C1'.cf.entry c ov', hF, fun fr d M' p v H' ex => ?_⟩
  obtain ⟨C2, dv, _⟩ := C1'.cf.exit c ex
  exact q _ v _ as1 H' p ⟨(C0.tr C1').px, C2⟩ dv
theorem ed_meth0 {pl : Sem Bool} (G : MethG X.prog X.w X.K X.mg X.base k C m F) (hr : Room k X.A) (h : ED n X (env, M) o fun r0 M0 => InsR r0 M0 C m ∧ ∃ ρ args, CallAt ρ args [r0] M0 ∧ F args (selM M0 ρ) fun fr d M' => P (.dat d) (updM M0 ρ M'))
    (ht : eval (.Call (.Attribute o m apos) [] [] pos) X.env = (do
      let ov ← eval o X.env
      standAt apos.atName
      let (f, first) ← holding [ov] (getMethod ov m pl)
      callWith pos f first (backTo pos (starEach [] X.env)) (backToKw pos (keywordEach [] X.env))) := by rfl) :
    ED n X (env, M) (.Call (.Attribute o m apos) [] [] pos) P := by
  obtain ⟨⟨f, fd, ps, G, hm, hb⟩, cl⟩ := G
  intro B as σ H hn C Q q
  refine wpE_of (pe_meth0 wpE_ok cl hm G hr hb .nil pass0 ht (E := fun _ _ _ => False)) ?_
  refine h B as σ H hn C _ fun r0 v0 M0 as0 H0 ⟨i0, ρ, args, c, hF⟩ C0 o0 => ?_
  obtain ⟨a, dx, gs, rfl, ha, hl⟩ := i0.at C0.cf o0
  refine ⟨a, dx, gs, rfl, ha, hl, ?_⟩
  have ov' : VsOk X.K (Ne B as0 M0) H0 as0 [r0] [.ref a] := ⟨_, _, rfl, o0, rfl⟩
  refine ⟨_, _, _, _, _, C0.cf.entry c ov', hF, fun fr d M' p v H' ex => ?_⟩
  obtain ⟨C2, dv, _⟩ := C0.cf.exit c ex
  exact q _ v _ as0 H' p ⟨C0.px, C2⟩ dv
/-- o.f, a property -/
theorem ed_prop (G : PropG X.prog X.w X.K X.mg X.base k C m F) (hr : Room (k + 1) X.A) (h : ED n X (env, M) o fun r0 M0 => InsR r0 M0 C m ∧ ∃ ρ args, CallAt ρ args [r0] M0 ∧ F args (selM M0 ρ) fun fr d M' => P (.dat d) (updM M0 ρ M'))
    (hab : attributeBase o m X.env (eval o X.env) = eval o X.env := by rfl) : ED n X (env, M) (.Attribute o m pos) P := by
  obtain ⟨⟨p, f, fd, ps, G, hm, hb⟩, cl⟩ := G
  intro B as σ H hn C Q q
  refine wpE_of (pe_prop wpE_ok cl hm G hr hb .nil pass0 hab (E := fun _ _ _ => False)) ?_
  refine h B as σ H hn C _ fun r0 v0 M0 as0 H0 ⟨i0, ρ, args, c, hF⟩ C0 o0 => ?_
  obtain ⟨a, dx, gs, rfl, ha, hl⟩ := i0.at C0.cf o0
  refine ⟨a, dx, gs, rfl, ha, ?_⟩
  have ov' : VsOk X.K (Ne B as0 M0) H0 as0 [r0] [.ref a] := ⟨_, _, rfl, o0, rfl⟩
  refine ⟨_, _, _, _, _, C0.cf.entry c ov', hF, fun fr d M' p v H' ex => ?_⟩
  obtain ⟨C2, dv, _⟩ := C0.cf.exit c ex
  exact q _ v _ as0 H' p ⟨C0.px, C2⟩ dv

/-! ### C(..) -/
theorem en_make {P : D → Mem → Prop} (G : MakeG X.prog X.w X.K X.mg X.base k x C F) (hr : Room (k + 1) X.A)
    (h : AD n X (env, M) (e :: es) fun rs M1 => ∃ ds : List D, rs = ds.map EI.dat ∧ F (.cel 0 :: ds.map EI.dat) [.ins C [] []] fun fr d M' => d = .non ∧ ∃ fs gs, M' = [.ins C fs gs] ∧ P (.ins C fs gs) M1)
    (hg : Gl X x := by rfl) (hdb : (x == ("__debug__" : Str)) = false := by decide) (he : starEach (e :: es) X.env = (false, eval e X.env) :: starEach es X.env := by rfl) (hpl : (backTo pos (starEach es X.env)).any (·.1) = false := by rfl) :
    EN n X (env, M) (.Call (.Name x p) (e :: es) [] pos) P := by
  obtain ⟨f, fd, ps, G, mk, hm, hb⟩ := G.ex
  intro B as σ H hn Cc Q q
  refine wpE_of (pe_make mk G hr hg hm hb .nil pass0 (wpA_ok (X := X)) hdb he hpl (E := fun _ _ _ => False)) ?_
  refine h B as σ H hn Cc _ fun rs vs M1 as1 H1 ⟨ds, e1, hF⟩ C1 ov => ?_
  subst e1
  intro y dx hy hdx hne
  rw [List.append_nil]
  have dvs := ov.dvs
  have g1 : ∀ a u, H1 a = some u → (upd (upd H1 dx (.own y)) y (.ins C dx [])) a = some u := fun a u e => by
    rw [upd_ne (ne_of_none e hy), upd_ne (ne_of_none e hdx)]
    exact e
  have nn : ∀ a u, H1 a = some u → a ≠ y := fun a u e => ne_of_none e hy
  have al : ∀ a, H1 a ≠ none → (upd (upd H1 dx (.own y)) y (.ins C dx [])) a ≠ none := fun a z => by
    cases e : H1 a with
    | none => exact absurd e z
    | some u => rw [g1 a u e]; exact fun q => by cases q
  have kp : Kp (Ne B as1 M1) (fun a => Ne B as1 M1 a ∨ a = y) H1 (upd (upd H1 dx (.own y)) y (.ins C dx [])) := ⟨fun a z => z.imp id fun e => by rw [e]; exact hy, fun a u _ e => g1 a u e⟩
  refine ⟨fun a => Ne B as1 M1 a ∨ a = y, [y], .cel 0 :: ds.map EI.dat, [.ins C [] []], _, ?_, hF, fun fr d M' hp v H2 ex => ?_⟩
  · refine { len := rfl, nd := by simp, n0 := fun a z => ?_, inN := fun a z => ?_, live := fun x hx => ?_, cells := fun j a x e1 e2 => ?_, vals := ?_ }
    · rcases z with z | z
      · exact al a (C1.cf.alloc a z)
      · rw [z, upd_same]
        exact fun q => by cases q
    · simp at z
      exact .inr z
    · simp at hx
      subst hx
      rfl
    · cases j with
      | succ j => simp at e1
      | zero =>
        simp at e1 e2
        subst e1
        subst e2
        exact ⟨dx, [], upd_same, rfl, .nil⟩
    · refine ⟨_, _, rfl, ⟨y, rfl, rfl⟩, ?_⟩
      have z := DVs.kp kp _ _ dvs
      exact DVs.vs z
  · obtain ⟨rfl, fs, gs, rfl, pp⟩ := hp
    have res := ex.res
    cases fr with
    | true =>
      rw [if_pos rfl] at res
      obtain ⟨_, _, _, lv, _⟩ := res
      cases lv
    | false =>
      rw [if_neg (by decide)] at res
      have ev : v = .non := res
      refine ⟨ev, ?_⟩
      have ok := (ex.cells 0 y _ rfl rfl).mono (N' := fun a => Ne B as1 M1 a ∨ a = y) fun a z => .inl z
      have g2 : ∀ a u, H1 a = some u → H2 a = some u := fun a u e => ex.frame a u (by simpa using nn a u e) (g1 a u e)
      have hy2 : H2 y ≠ none := ex.al y (by simp)
      have C3 := C1.cf.newG g2 hy ok rfl hy2
      have C2 := C1.cf.grow g2
      refine q _ y M1 as1 H2 pp ⟨C1.px, C2⟩ ?_ C3
      obtain ⟨dx', zs, e1, e2, e3⟩ := ok.mono (N' := Ne B as1 M1) fun a z => .inl z
      exact ⟨y, dx', zs, rfl, C1.cf.ne_new hy, e1, e2, e3⟩

/-! ### fields -/
def fFld (C : Addr) (f : Str) (r : EI) (M : Mem) (P : PP) : Prop :=
  (∃ fs ds d, rdD M r = some (.ins C fs ds) ∧ (fs.zip ds).lookup f = some d ∧ P (.dat d) M) ∨ (∃ k, r = .spn C f k ∧ P (.cel k) M)
theorem look_zip {N : Addr → Prop} {f : Str} {d : D} : ∀ {gs : List (Str × V)} {fs : List Str} {ds : List D}, gs.map (·.1) = fs → DVs K N H ds (gs.map (·.2)) → (fs.zip ds).lookup f = some d → ∃ v, gs.lookup f = some v ∧ DV K N H d v
  | [], fs, ds, e, z, h => by
    subst e
    simp at h
  | (g, v) :: gs, fs, ds, e, z, h => by
    subst e
    cases ds with
    | nil =>
      have q : v :: gs.map (·.2) = [] := z
      cases q
    | cons d' ds =>
      obtain ⟨v', r, e', a, t⟩ := z
      have e1 : v = v' := (List.cons.inj e').1
      have e2 : gs.map (·.2) = r := (List.cons.inj e').2
      subst e1
      rw [← e2] at t
      rw [List.map_cons, List.zip_cons_cons, List.lookup_cons] at h
      rw [List.lookup_cons]
      cases q : f == g with
      | true =>
        rw [q] at h
        cases h
        exact ⟨v, rfl, a⟩
      | false =>
        rw [q] at h
        exact look_zip rfl t h
theorem ed_fld (cl : Cls X.K C) (na : NoAttr X.K C m) (h : ED n X (env, M) o fun r0 M0 => fFld C m r0 M0 P) (hab : attributeBase o m X.env (eval o X.env) = eval o X.env := by rfl) : ED n X (env, M) (.Attribute o m pos) P := by
  intro B as σ H hn Cc Q q
  refine wpE_of (pe_fld wpE_ok hab) ?_
  refine h B as σ H hn Cc _ fun r0 v0 M0 as0 H0 f0 C0 o0 => ?_
  rcases f0 with ⟨fs, ds, d, e, l, p⟩ | ⟨k, rfl, p⟩
  · obtain ⟨a, dx, gs, rfl, e1, e2, e3⟩ := rd_ins C0.cf o0 e
    obtain ⟨v, e4, dv⟩ := look_zip e2 e3 l
    exact ⟨a, C, dx, gs, v, rfl, e1, cl, na, e4, q _ v M0 as0 H0 p C0 dv⟩
  · obtain ⟨y, dx, a, e1, _, e2, e3⟩ := o0
    exact ⟨y, C, dx, _, .ref a, e1, e2, cl, na, by simp [List.lookup], q _ _ M0 as0 H0 p C0 ⟨a, e3, rfl⟩⟩

/-! ### slices -/
def OD (n : Nat) (X : Cx) (c : Conf) (e : Option Expr) (P : Option Int → Mem → Prop) : Prop :=
  ∀ B as σ H, B.A0.length = n → CF X.K B as c σ H → ∀ Q : Option Int → Hp → Prop, (∀ b M' as' H', P b M' → CG X.K B as as' (c.1, M') σ H' → Q b H') → wpO X e σ H Q
theorem od_none {P : Option Int → Mem → Prop} (p : P none M) : OD n X (env, M) none P := fun B as σ H hn C Q q pins s I => po_none.run pins s σ H Q I (q none M as H p C.g)
theorem od_some {P : Option Int → Mem → Prop} (h : ED n X (env, M) e fun r M' => ∃ i, rdD M' r = some (.int i) ∧ P (some i) M') : OD n X (env, M) (some e) P := fun B as σ H hn C Q q pins s I =>
  (po_some (wpE_ok (X := X) (e := e))).run pins s σ H Q I (h B as σ H hn C _ fun r v M' as' H' ⟨i, e, p⟩ C' o => ⟨i, rd_dv C'.cf o e trivial, q _ M' as' H' p C'⟩)
def cutD {α : Type} (xs : List α) (lo hi : Option Int) : List α := (xs.drop (HT.sIx xs.length 0 lo)).take (HT.sIx xs.length xs.length hi - HT.sIx xs.length 0 lo)
theorem DVs.cut {N : Addr → Prop} {ds : List D} {vs : List V} (h : DVs K N H ds vs) (lo hi : Option Int) : DVs K N H (cutD ds lo hi) (cutV vs lo hi) := by
  unfold cutD cutV
  rw [← h.length]
  exact (h.drop _).take _
theorem en_slice {lo hi : Option Expr} {p2 : Pos} {P : D → Mem → Prop} (h : ED n X (env, M) a fun r1 M1 => OD n X (env, M1) lo fun l M2 => OD n X (env, M2) hi fun u M3 => ∃ ds, rdD M3 r1 = some (.lst ds) ∧ P (.lst (cutD ds l u)) M3) : EN n X (env, M) (.Subscript a (.Slice lo hi none p2) pos) P := by
  intro B as σ H hn C Q q
  refine wpE_of (pe_slice sl_list wpE_ok wpO_ok wpO_ok) ?_
  refine h B as σ H hn C _ fun r1 v1 M1 as1 H1 h1 C1 o1 => ?_
  refine h1 (B.add (r1, v1)) as1 σ H1 hn (C1.cf.add o1) _ fun l M2 as2 H2 h2 C2 => ?_
  refine h2 (B.add (r1, v1)) as2 σ H2 hn C2.cf _ fun u M3 as3 H3 ⟨ds, e, p⟩ C3 => ?_
  obtain ⟨y, vs, e1, e2, dv⟩ := rd_lst C3.cf C3.cf.top e
  refine ⟨y, vs, e1, SqL.of e2, fun z hz => ?_⟩
  obtain ⟨a1, a2, a3⟩ := dv_new_lst C3.cf.pop hz (dv.cut l u)
  exact q _ z M3 as3 _ p ⟨((C1.px.trans C2.px).trans C3.px), a1⟩ a2 a3
/-- xs[::-1] -/
theorem en_rev {k : Nat} {p1 p2 p3 : Pos} {P : D → Mem → Prop} (h : ED n X (env, M) a fun r1 M1 => ∃ ds, rdD M1 r1 = some (.lst ds) ∧ P (.lst ds.reverse) M1) : EN n X (env, M) (.Subscript a (.Slice none none (some (.UnaryOp .USub (.Constant (.int 1) k p1) p2)) p3) pos) P := by
  intro B as σ H hn C Q q
  refine wpE_of (pe_revL wpE_ok) ?_
  refine h B as σ H hn C _ fun r1 v1 M1 as1 H1 ⟨ds, e, p⟩ C1 o1 => ?_
  obtain ⟨y, vs, e1, e2, dv⟩ := rd_lst C1.cf o1 e
  refine ⟨y, vs, e1, SqL.of e2, fun z hz => ?_⟩
  obtain ⟨a1, a2, a3⟩ := dv_new_lst C1.cf hz dv.reverse
  exact q _ z M1 as1 _ p ⟨C1.px, a1⟩ a2 a3
end
end Dl
set_option Elab.async false
set_option linter.all false
set_option maxRecDepth 100000
set_option maxHeartbeats 2000000
/-! Dl part 6: statements, loops, comprehensions, defs. -/
namespace Dl
open PySem L2 PyProof.Rows

structure Po where
  nx : Conf → Prop
  rt : Bool → D → Mem → Prop
  bk : Conf → Prop := fun _ => False
  ct : Conf → Prop := fun _ => False
def RetOk (K : PySem.W.Frag) (n : Nat) (B : Bs) (as : List Addr) (M : Mem) (H : Hp) (fr : Bool) (d : D) (v : V) : Prop :=
  if fr = true then ∃ (k : Nat) (p : Addr) (c : Cell), n ≤ k ∧ as[k]? = some p ∧ v = .ref p ∧ M[k]? = some c ∧ c.opn = true ∧ c.toD = d else DV K (Ne B as M) H d v
structure Wish (K : PySem.W.Frag) (n : Nat) (B : Bs) (as : List Addr) (po : Po) (Dd : Ends) : Prop where
  nx : ∀ c as' σ H, po.nx c → CG K B as as' c σ H → Dd.nx σ H
  rt : ∀ fr d env M as' σ H v, po.rt fr d M → CG K B as as' (env, M) σ H → RetOk K n B as' M H fr d v → Dd.rt v H
  bk : ∀ c as' σ H, po.bk c → CG K B as as' c σ H → Dd.bk σ H
  ct : ∀ c as' σ H, po.ct c → CG K B as as' c σ H → Dd.ct σ H
theorem Wish.at {K n B as as1 po Dd} (w : Wish K n B as po Dd) (p : as <+: as1) : Wish K n B as1 po Dd :=
  ⟨fun c as' σ H h C => w.nx c as' σ H h ⟨p.trans C.px, C.cf⟩, fun fr d env M as' σ H v h C => w.rt fr d env M as' σ H v h ⟨p.trans C.px, C.cf⟩, fun c as' σ H h C => w.bk c as' σ H h ⟨p.trans C.px, C.cf⟩, fun c as' σ H h C => w.ct c as' σ H h ⟨p.trans C.px, C.cf⟩⟩
theorem Wish.imp {K n B as po po' Dd} (w : Wish K n B as po Dd) (h1 : ∀ c, po'.nx c → po.nx c) (h2 : ∀ fr d M, po'.rt fr d M → po.rt fr d M) (h3 : ∀ c, po'.bk c → po.bk c) (h4 : ∀ c, po'.ct c → po.ct c) : Wish K n B as po' Dd :=
  ⟨fun c as' σ H h C => w.nx c as' σ H (h1 c h) C, fun fr d env M as' σ H v h C => w.rt fr d env M as' σ H v (h2 fr d M h) C, fun c as' σ H h C => w.bk c as' σ H (h3 c h) C, fun c as' σ H h C => w.ct c as' σ H (h4 c h) C⟩
def SD (n : Nat) (X : Cx) (c : Conf) (st : Stmt) (po : Po) : Prop :=
  ∀ B as σ H, B.A0.length = n → CF X.K B as c σ H → ∀ Dd, Wish X.K n B as po Dd → wpS X st Dd σ H
def SDs (n : Nat) (X : Cx) (c : Conf) (st : List Stmt) (po : Po) : Prop :=
  ∀ B as σ H, B.A0.length = n → CF X.K B as c σ H → ∀ Dd, Wish X.K n B as po Dd → wpSs X st Dd σ H
section
variable {K : PySem.W.Frag} {B : Bs} {as : List Addr} {σ : L2.St} {H H' : Hp}
variable {X : Cx} {n : Nat} {env : EnvD} {M : Mem} {c : Conf} {P : PP} {e a b o : Expr} {es : List Expr} {pos apos p : Pos} {k : Nat} {x m : Str} {F : Ct} {C : Addr} {nx : Conf → Prop} {rt : Bool → D → Mem → Prop} {bk ct : Conf → Prop} {st : Stmt} {rest : List Stmt}
theorem sds_imp {po po' : Po} {sts : List Stmt} (h : SDs n X c sts po) (h1 : ∀ c, po.nx c → po'.nx c) (h2 : ∀ fr d M, po.rt fr d M → po'.rt fr d M) (h3 : ∀ c, po.bk c → po'.bk c) (h4 : ∀ c, po.ct c → po'.ct c) : SDs n X c sts po' := fun B as σ H hn C Dd w => h B as σ H hn C Dd (w.imp h1 h2 h3 h4)
theorem sds_nil (h : nx c) : SDs n X c [] ⟨nx, rt, bk, ct⟩ := fun B as σ H hn C Dd w => wpSs_of pss_nil (w.nx c as σ H h C.g)
theorem sds_cons (h : SD n X c st ⟨fun c' => SDs n X c' rest ⟨nx, rt, bk, ct⟩, rt, bk, ct⟩) : SDs n X c (st :: rest) ⟨nx, rt, bk, ct⟩ := fun B as σ H hn C Dd w => wpSs_of (pss_cons wpS_ok wpSs_ok) (by
  refine h B as σ H hn C _ ⟨fun c' as' σ' H' h' C' => ?_, w.rt, w.bk, w.ct⟩
  exact h' B as' σ' H' hn C'.cf Dd (w.at C'.px))
theorem sds_one (h : SD n X c st ⟨nx, rt, bk, ct⟩) : SDs n X c [st] ⟨nx, rt, bk, ct⟩ := sds_cons (nx := nx) (rt := rt) (bk := bk) (ct := ct) (fun B as σ H hn C Dd w => h B as σ H hn C Dd ⟨fun c' as' σ' H' h' C' => w.nx c' as' σ' H' (sds_nil h') C', w.rt, w.bk, w.ct⟩)
/-- a word between two statements -/
theorem sds_cut (I : Conf → Prop) (h : SD n X c st ⟨I, rt, bk, ct⟩) (h2 : ∀ c, I c → SDs n X c rest ⟨nx, rt, bk, ct⟩) : SDs n X c (st :: rest) ⟨nx, rt, bk, ct⟩ := sds_cons fun B as σ H hn C Dd w => h B as σ H hn C Dd (w.imp (po := ⟨fun c' => SDs n X c' rest ⟨nx, rt, bk, ct⟩, rt, bk, ct⟩) (po' := ⟨I, rt, bk, ct⟩) h2 (fun _ _ _ z => z) (fun _ z => z) fun _ z => z)
theorem sd_pass (h : nx c) : SD n X c (.Pass pos) ⟨nx, rt, bk, ct⟩ := fun B as σ H hn C Dd w => wpS_of ps_pass (w.nx c as σ H h C.g)
theorem sd_break (h : bk c) : SD n X c (.Break pos) ⟨nx, rt, bk, ct⟩ := fun B as σ H hn C Dd w => wpS_of ps_break (w.bk c as σ H h C.g)
theorem sd_continue (h : ct c) : SD n X c (.Continue pos) ⟨nx, rt, bk, ct⟩ := fun B as σ H hn C Dd w => wpS_of ps_continue (w.ct c as σ H h C.g)
theorem sd_expr (h : ED n X c e fun r M' => nx (c.1, M')) (hs : swapsWith e none pos.line X.env = pure false := by rfl) : SD n X c (.Expr e pos) ⟨nx, rt, bk, ct⟩ := fun B as σ H hn C Dd w => wpS_of (ps_expr wpE_ok hs) (h B as σ H hn C _ fun r v M' as' H' p C' _ => w.nx _ as' σ H' p C')
theorem sd_if {t : Expr} {A E : List Stmt} (h : TD n X (env, M) t fun b1 M1 => (b1 = true → SDs n X (env, M1) A ⟨nx, rt, bk, ct⟩) ∧ (b1 = false → SDs n X (env, M1) E ⟨nx, rt, bk, ct⟩)) : SD n X (env, M) (.If t A E pos) ⟨nx, rt, bk, ct⟩ := fun B as σ H hn C Dd w => wpS_of (ps_if wpT_ok wpSs_ok wpSs_ok) (by
  refine h B as σ H hn C _ fun b1 M1 as1 H1 h1 C1 => ?_
  cases b1 with
  | true => exact iteT (h1.1 rfl B as1 σ H1 hn C1.cf Dd (w.at C1.px))
  | false => exact iteF (h1.2 rfl B as1 σ H1 hn C1.cf Dd (w.at C1.px)))
def RetR (n : Nat) (rt : Bool → D → Mem → Prop) (r : EI) (M : Mem) : Prop := (∃ d, r = .dat d ∧ rt false d M) ∨ ∃ k c, r = .cel k ∧ n ≤ k ∧ M[k]? = some c ∧ c.opn = true ∧ rt true c.toD M
theorem sd_ret (h : ED n X (env, M) e (RetR n rt)) : SD n X (env, M) (.Return (some e) pos) ⟨nx, rt, bk, ct⟩ := fun B as σ H hn C Dd w => wpS_of (ps_ret wpE_ok) (by
  refine h B as σ H hn C _ fun r v M' as' H' hr C' o => ?_
  rcases hr with ⟨d, rfl, q⟩ | ⟨k, c, rfl, h1, h2, h3, q⟩
  · exact w.rt false d _ M' as' σ H' v q C' o
  · obtain ⟨p, e1, e2⟩ := o
    exact w.rt true _ _ M' as' σ H' v q C' ⟨k, p, c, h1, e1, e2, h2, h3, rfl⟩)
theorem sd_retN (h : rt false .non M) : SD n X (env, M) (.Return none pos) ⟨nx, rt, bk, ct⟩ := fun B as σ H hn C Dd w => wpS_of ps_retN (w.rt false .non env M as σ H .non h C.g rfl)
/-! ### stores -/
theorem sd_set {i : Nat} {pos' : Pos} (h : ED n X (env, M) e fun r M' => nx (env.set i r, M')) (hN : X.N.Nodup) (hi : X.N[i]? = some x := by rfl) (hx : Loc X.env.scope x := by first | exact Or.inl rfl | exact Or.inr rfl) (hs : swapsWith e (some (.Name x pos')) pos.line X.env = pure false := by rfl)
    (hf : X.fn x = true ∨ X.env.scope.names.lookup x = some .local := by first | exact .inl rfl | exact .inr rfl | assumption) : SD n X (env, M) (.Assign [.Name x pos'] e pos) ⟨nx, rt, bk, ct⟩ := fun B as σ H hn C Dd w => wpS_of (ps_set hN hi hx wpE_ok hs hf) (by
  refine h B as σ H hn C _ fun r v M' as' H' p C' o => ?_
  exact w.nx _ as' _ H' p ⟨C'.px, C'.cf.setv o⟩)
theorem setv2 (C : CF K B as (env, M) σ H) {i j : Nat} {r1 r2 : EI} {v1 v2 : V} (o1 : VOk K (Ne B as M) H as r1 v1) (o2 : VOk K (Ne B as M) H as r2 v2) : CF K B as ((env.set i r1).set j r2, M) ((σ.set i (some v1)).set j (some v2)) H := (C.setv o1).setv o2
/-- a, b = e1, e2 -/
theorem sd_par {i j : Nat} {y : Str} {px py pt : Pos} {kt k2 pt2} (h : AD n X (env, M) [a, b] fun rs M' => ∃ r1 r2, rs = [r1, r2] ∧ nx ((env.set i r1).set j r2, M')) (hN : X.N.Nodup) (hi : X.N[i]? = some x := by rfl) (hj : X.N[j]? = some y := by rfl) (hij : i ≠ j := by decide) (hx : X.env.scope.names.lookup x = some .local := by rfl) (hy : X.env.scope.names.lookup y = some .local := by rfl)
    (hw : swappedStores [.Tuple [.Name x px, .Name y py] kt pt] (.Tuple [a, b] k2 pt2) X.env = pure (some [x, y]) := by rfl) (hs : swapsWithSole [.Tuple [.Name x px, .Name y py] kt pt] (.Tuple [a, b] k2 pt2) pos.line X.env = pure false := by rfl) (hc : X.calm = true := by rfl) :
    SD n X (env, M) (.Assign [.Tuple [.Name x px, .Name y py] kt pt] (.Tuple [a, b] k2 pt2) pos) ⟨nx, rt, bk, ct⟩ := fun B as σ H hn C Dd w => wpS_of (ps_par hc hN hi hj hij hx hy (wpA_ok (X := X)) hw hs) (by
  refine h B as σ H hn C _ fun rs vs M' as' H' ⟨r1, r2, e, p⟩ C' o => ?_
  subst e
  obtain ⟨v1, us, rfl, o1, v2, us2, rfl, o2, z⟩ := o
  have z : us2 = [] := z
  subst z
  exact ⟨v1, v2, rfl, w.nx _ as' _ H' p ⟨C'.px, setv2 C'.cf o1 o2⟩⟩)
/-- a, b, c = e1, e2, e3 -/
theorem sd_par3 {i j l : Nat} {y z : Str} {c3 : Expr} {px py pz pt : Pos} {kt k2 pt2} (h : AD n X (env, M) [a, b, c3] fun rs M' => ∃ r1 r2 r3, rs = [r1, r2, r3] ∧ nx (((env.set i r1).set j r2).set l r3, M')) (hN : X.N.Nodup) (hi : X.N[i]? = some x := by rfl) (hj : X.N[j]? = some y := by rfl) (hl : X.N[l]? = some z := by rfl) (hij : i ≠ j := by decide) (hil : i ≠ l := by decide) (hjl : j ≠ l := by decide)
    (hp : ∀ (t : TA), PA X [a, b, c3] t → PS X (.Assign [.Tuple [.Name x px, .Name y py, .Name z pz] kt pt] (.Tuple [a, b, c3] k2 pt2) pos) (tPar3 i j l t)) :
    SD n X (env, M) (.Assign [.Tuple [.Name x px, .Name y py, .Name z pz] kt pt] (.Tuple [a, b, c3] k2 pt2) pos) ⟨nx, rt, bk, ct⟩ := fun B as σ H hn C Dd w => wpS_of (hp _ (wpA_ok (X := X))) (by
  refine h B as σ H hn C _ fun rs vs M' as' H' ⟨r1, r2, r3, e, p⟩ C' o => ?_
  subst e
  obtain ⟨v1, us, rfl, o1, v2, us2, rfl, o2, v3, us3, rfl, o3, z⟩ := o
  have z : us3 = [] := z
  subst z
  exact ⟨v1, v2, v3, rfl, w.nx _ as' _ H' p ⟨C'.px, (setv2 C'.cf o1 o2).setv o3⟩⟩)
/-! ### targets of names -/
inductive Tg where
  | one (i : Nat) | tup (is : List Nat)
def gNames : List Nat → TGs
  | [] => gNil
  | i :: is => gCons (gName i) (gNames is)
def Tg.g (K : PySem.W.Frag) : Tg → TG
  | .one i => gName i
  | .tup is => gTup K is.length (gNames is)
def Tg.slots : Tg → List Nat
  | .one i => [i]
  | .tup is => is
def setEs : List Nat → List D → EnvD → Option EnvD
  | [], [], env => some env
  | i :: is, d :: ds, env => setEs is ds (env.set i (.dat d))
  | _, _, _ => none
def Tg.setE : Tg → D → EnvD → Option EnvD
  | .one i, d, env => some (env.set i (.dat d))
  | .tup is, .tup ds, env => setEs is ds env
  | _, _, _ => none
def setσ : List Nat → List V → L2.St → L2.St
  | i :: is, v :: vs, σ => setσ is vs (σ.set i (some v))
  | _, _, σ => σ
theorem gNames_run : ∀ (is : List Nat) (vs : List V) (σ : L2.St) (H : Hp) (Q : L2.St → Hp → Prop), is.length = vs.length → Q (setσ is vs σ) H → gNames is vs σ H Q
  | [], [], σ, H, Q, _, q => ⟨rfl, q⟩
  | [], _ :: _, _, _, _, h, _ => by simp at h
  | _ :: _, [], _, _, _, h, _ => by simp at h
  | i :: is, v :: vs, σ, H, Q, h, q => ⟨v, vs, rfl, gNames_run is vs _ H Q (by simpa using h) q⟩
theorem setEs_cf : ∀ {is : List Nat} {ds : List D} {vs : List V} {env env' : EnvD} {σ : L2.St}, CF K B as (env, M) σ H → DVs K (Ne B as M) H ds vs → setEs is ds env = some env' → is.length = vs.length ∧ CF K B as (env', M) (setσ is vs σ) H
  | [], [], vs, env, env', σ, C, q, e => by
    cases e
    have z : vs = [] := q
    subst z
    exact ⟨rfl, C⟩
  | [], _ :: _, _, _, _, _, _, _, e => by cases e
  | _ :: _, [], _, _, _, _, _, _, e => by cases e
  | i :: is, d :: ds, vs, env, env', σ, C, q, e => by
    obtain ⟨v, r, rfl, a, t⟩ := q
    obtain ⟨h1, h2⟩ := setEs_cf (is := is) (C.setv (i := i) (e := .dat d) a) t e
    exact ⟨by simpa using h1, h2⟩
theorem wipe_set {i : Nat} {o : Option V} : ∀ {vs : List Nat} {σ : L2.St}, i ∈ vs → wipe (σ.set i o) vs = wipe σ vs
  | [], _, h => by cases h
  | v :: vs, σ, h => by
    show (wipe (σ.set i o) vs).set v none = (wipe σ vs).set v none
    by_cases hv : i = v
    · subst hv
      by_cases hm : i ∈ vs
      · rw [wipe_set hm]
      · have sw : ∀ (vs : List Nat) (σ : L2.St), i ∉ vs → wipe (σ.set i o) vs = (wipe σ vs).set i o := by
          intro vs
          induction vs with
          | nil => intro σ _; rfl
          | cons w ws ih =>
            intro σ h
            show (wipe (σ.set i o) ws).set w none = ((wipe σ ws).set w none).set i o
            rw [ih σ fun z => h (List.mem_cons_of_mem _ z), List.set_comm _ _ (fun e => h (by rw [e]; exact List.mem_cons_self))]
        rw [sw vs σ hm, List.set_set]
    · rcases List.mem_cons.mp h with z | z
      · exact absurd z hv
      · rw [wipe_set z]
theorem wipe_setσ {vs : List Nat} : ∀ {is : List Nat} {us : List V} {σ : L2.St}, (∀ i ∈ is, i ∈ vs) → wipe (setσ is us σ) vs = wipe σ vs
  | [], _, _, _ => by rw [setσ]; intros; contradiction
  | _ :: _, [], _, _ => by rw [setσ]; intros; contradiction
  | i :: is, v :: us, σ, h => by
    rw [setσ, wipe_setσ fun j hj => h j (List.mem_cons_of_mem _ hj), wipe_set (h i List.mem_cons_self)]
/-- a datum is given to a target -/
theorem Tg.run {t : Tg} {d : D} {v : V} {env' : EnvD} (C : CF K B as (env, M) σ H) (q : DV K (Ne B as M) H d v) (e : t.setE d env = some env') :
    ∃ σ', (∀ Q : L2.St → Hp → Prop, Q σ' H → t.g K v σ H Q) ∧ CF K B as (env', M) σ' H ∧ ∀ vs : List Nat, (∀ i ∈ t.slots, i ∈ vs) → wipe σ' vs = wipe σ vs := by
  cases t with
  | one i =>
    cases e
    exact ⟨_, fun Q z => z, C.setv (e := .dat d) q, fun vs h => wipe_set (h i (by simp [Tg.slots]))⟩
  | tup is =>
    cases d with
    | tup ds =>
      obtain ⟨p, vs, rfl, r, w⟩ := q
      obtain ⟨h1, h2⟩ := setEs_cf C w e
      exact ⟨_, fun Q z => ⟨p, vs, rfl, r.sq, h1.symm, gNames_run is vs σ H Q h1 z⟩, h2, fun vs h => wipe_setσ h⟩
    | _ => cases e
theorem tg_name {i : Nat} (hN : X.N.Nodup) (hi : X.N[i]? = some x := by rfl) (hx : Loc X.env.scope x := by first | exact Or.inl rfl | exact Or.inr rfl) (hf : X.fn x = true ∨ X.env.scope.names.lookup x = some .local := by first | exact .inl rfl | exact .inr rfl | assumption) : PG X (.Name x pos) ((Tg.one i).g X.K) := pg_name hN hi hx hf
theorem tg_tup {is : List Nat} {k : Nat} (h : PGs X es (gNames is)) (hn : (assignEach es X.env).length = is.length := by rfl) (hst : (assignEach es X.env).findIdx? (·.1) = none := by rfl) (hc : X.calm = true := by rfl) : PG X (.Tuple es k pos) ((Tg.tup is).g X.K) := pg_tup hc h hn hst
theorem tgs_nil : PGs X [] (gNames []) := pgs_nil
theorem tgs_cons {i : Nat} {is : List Nat} (h : PGs X es (gNames is)) (hN : X.N.Nodup) (hi : X.N[i]? = some x := by rfl) (hx : Loc X.env.scope x := by first | exact Or.inl rfl | exact Or.inr rfl) (hf : X.fn x = true ∨ X.env.scope.names.lookup x = some .local := by first | exact .inl rfl | exact .inr rfl | assumption)
    (hs : (assignEach (.Name x pos :: es) X.env).map (·.2) = assign (.Name x pos) X.env :: (assignEach es X.env).map (·.2) := by rfl) : PGs X (.Name x pos :: es) (gNames (i :: is)) := pgs_cons (pg_name hN hi hx hf) h hs
/-- a, b = e, e data -/
theorem sd_unp {tg : Expr} {t : Tg} (ht : PG X tg (t.g X.K)) (h : ED n X (env, M) e fun r M' => ∃ d env', r = .dat d ∧ t.setE d env = some env' ∧ nx (env', M')) (hs : swapsWithSole [tg] e pos.line X.env = pure false := by rfl) (hw : swappedStores [tg] e X.env = pure none := by rfl) (h1 : (assignEach [tg] X.env).map (·.2) = [assign tg X.env] := by rfl) : SD n X (env, M) (.Assign [tg] e pos) ⟨nx, rt, bk, ct⟩ := fun B as σ H hn C Dd w => wpS_of (ps_asg wpE_ok ht hs hw h1) (by
  refine h B as σ H hn C _ fun r v M' as' H' ⟨d, env', e1, e2, p⟩ C' o => ?_
  subst e1
  obtain ⟨σ', h1, h2, _⟩ := Tg.run C'.cf o e2
  exact h1 _ (w.nx _ as' _ H' p ⟨C'.px, h2⟩))

/-! ### while -/
theorem sd_while {t : Expr} {body : List Stmt} (I : Nat → Conf → Prop) {m0 : Nat} (h0 : I m0 c)
    (hs : ∀ m c, I m c → TD n X (c.1, c.2) t fun b1 M1 => (b1 = true → SDs n X (c.1, M1) body ⟨fun c' => ∃ m', m' < m ∧ I m' c', rt, nx, fun c' => ∃ m', m' < m ∧ I m' c'⟩) ∧ (b1 = false → nx (c.1, M1)))
    (hp : PassesOwn (model X.prog X.w) X.A X.env X.xe := by exact PassesOwn.never) : SD n X c (.While t body [] pos) ⟨nx, rt, bk, ct⟩ := fun B as σ H hn C Dd w => wpS_of (ps_while hp wpT_ok wpSs_ok) (by
  refine ⟨fun m σ H => ∃ c as', I m c ∧ CG X.K B as as' c σ H, ⟨m0, c, as, h0, C.g⟩, fun m σ1 H1 ⟨c1, as1, i1, C1⟩ => ?_⟩
  refine hs m c1 i1 B as1 σ1 H1 hn C1.cf _ fun b1 M2 as2 H2 h2 C2 => ?_
  cases b1 with
  | false => exact iteF (w.nx _ as2 σ1 H2 (h2.2 rfl) (C1.tr C2))
  | true =>
    refine iteT ⟨fun σ' H' => ∃ m', m' < m ∧ ∃ c as', I m' c ∧ CG X.K B as as' c σ' H', fun σ' H' ⟨m', lt, q⟩ => ⟨m', lt, q⟩, ?_⟩
    refine h2.1 rfl B as2 σ1 H2 hn C2.cf _ ⟨fun c' as' σ' H' ⟨m', lt, i'⟩ C' => ⟨m', lt, c', as', i', (C1.tr C2).tr C'⟩, fun fr d env M as' σ H v q C' => w.rt fr d env M as' σ H v q ((C1.tr C2).tr C'), fun c' as' σ' H' q C' => w.nx c' as' σ' H' q ((C1.tr C2).tr C'), fun c' as' σ' H' ⟨m', lt, i'⟩ C' => ⟨m', lt, c', as', i', (C1.tr C2).tr C'⟩⟩)

/-! ### what is walked -/
def Bs.gs (B : Bs) (G : List (EI × V)) : Bs := { B with G := G ++ B.G }
theorem CF.popG {G} (h : CF K (B.gs G) as c σ H) : CF K B as c σ H := ⟨h.len, h.nd, h.nb, h.n0, h.a0, h.pre, h.cells, h.sl, h.slots, h.frame, h.fresh, fun x hx => h.gh x (List.mem_append_right _ hx)⟩
theorem CG.popG {G as'} (h : CG K (B.gs G) as as' c σ H) : CG K B as as' c σ H := ⟨h.px, h.cf.popG⟩
theorem CF.gs1 {r v} (h : CF K (B.add (r, v)) as c σ H) : CF K (B.gs [(r, v)]) as c σ H := h
structure WkD (K : PySem.W.Frag) (B : Bs) (as : List Addr) (J : It) (items : List D) (S : Mem → Prop) : Prop where
  ok : ∀ as' c σ H, CG K B as as' c σ H → S c.2 → ∀ i, (i = items.length → J.stop i H) ∧ ∀ d, items[i]? = some d → J.go i H ∧ ∀ x H', J.yld i H x H' → (∀ a o, H a = some o → H' a = some o) ∧ DV K (Ne B as' c.2) H' d x
def ID (n : Nat) (X : Cx) (c : Conf) (tg iter : Expr) (P : List D → (Mem → Prop) → Mem → Prop) : Prop :=
  ∀ B as σ H, B.A0.length = n → CF X.K B as c σ H → ∀ R : It → Hp → Prop, (∀ items S G M' as' H' J, P items S M' → CG X.K (B.gs G) as as' (c.1, M') σ H' → WkD X.K (B.gs G) as' J items S → R J H') → wpI X tg iter σ H R
theorem wk_list {r : EI} {p : Addr} {ds : List D} (hg : (r, V.ref p) ∈ B.G) : WkD K B as (Itl K p) ds (fun M => rdD M r = some (.lst ds)) := ⟨fun as' c σ H C s i => by
  obtain ⟨q, vs, e, h1, dv⟩ := rd_lst (env := c.1) C.cf (C.cf.gh _ hg) s
  have e : p = q := by injection e
  subst e
  refine ⟨fun hi => ⟨vs, SqL.of h1, by rw [← dv.length]; omega⟩, fun d hd => ?_⟩
  obtain ⟨v, e1, dv1⟩ := dv.get hd
  refine ⟨⟨vs, v, SqL.of h1, e1⟩, fun x H' ⟨e2, e3⟩ => ?_⟩
  subst e2
  have := e3 vs (SqL.of h1)
  rw [e1] at this
  cases this
  exact ⟨fun _ _ z => z, dv1⟩⟩
theorem id_list {tg iter : Expr} {P : List D → (Mem → Prop) → Mem → Prop} (h : ED n X (env, M) iter fun r M' => ∃ ds, rdD M' r = some (.lst ds) ∧ P ds (fun M => rdD M r = some (.lst ds)) M') : ID n X (env, M) tg iter P := fun B as σ H hn C R q => wpI_of (pi_list wpE_ok) (by
  refine h B as σ H hn C _ fun r v M' as' H' ⟨ds, e, p⟩ C' o => ?_
  obtain ⟨y, vs, e1, e2, _⟩ := rd_lst C'.cf o e
  subst e1
  exact ⟨y, rfl, ⟨vs, SqL.of e2⟩, q ds _ [(r, .ref y)] M' as' H' _ p ⟨C'.px, (C'.cf.add o).gs1⟩ (wk_list List.mem_cons_self)⟩)
theorem wk_tup {r : EI} {p : Addr} {ds : List D} (hg : (r, V.ref p) ∈ B.G) : WkD K B as (Itt K p) ds (fun M => rdD M r = some (.tup ds)) := ⟨fun as' c σ H C s i => by
  obtain ⟨q, vs, e, h1, dv⟩ : ∃ a vs, V.ref p = .ref a ∧ RdT K (Ne B as' c.2) H a vs ∧ DVs K (Ne B as' c.2) H ds vs := rd_dv (env := c.1) C.cf (C.cf.gh _ hg) s trivial
  have e : p = q := by injection e
  subst e
  refine ⟨fun hi => ⟨vs, h1.sq, by rw [← dv.length]; omega⟩, fun d hd => ?_⟩
  obtain ⟨v, e1, dv1⟩ := dv.get hd
  refine ⟨⟨vs, v, h1.sq, e1⟩, fun x H' ⟨e2, e3⟩ => ?_⟩
  subst e2
  have := e3 vs h1.sq
  rw [e1] at this
  cases this
  exact ⟨fun _ _ z => z, dv1⟩⟩
theorem id_tup {tg iter : Expr} {P : List D → (Mem → Prop) → Mem → Prop} (h : ED n X (env, M) iter fun r M' => ∃ ds, rdD M' r = some (.tup ds) ∧ P ds (fun M => rdD M r = some (.tup ds)) M') : ID n X (env, M) tg iter P := fun B as σ H hn C R q => wpI_of (pi_tup wpE_ok) (by
  refine h B as σ H hn C _ fun r v M' as' H' ⟨ds, e, p⟩ C' o => ?_
  obtain ⟨y, vs, e1, e2, _⟩ : ∃ a vs, v = .ref a ∧ RdT X.K (Ne B as' M') H' a vs ∧ DVs X.K (Ne B as' M') H' ds vs := rd_dv C'.cf o e trivial
  subst e1
  exact ⟨y, rfl, ⟨vs, e2.sq⟩, q ds _ [(r, .ref y)] M' as' H' _ p ⟨C'.px, (C'.cf.add o).gs1⟩ (wk_tup List.mem_cons_self)⟩)
def rangeD (lo : Int) (m : Nat) : List D := (List.range m).map fun i => .int (lo + (i : Nat))
theorem wk_range {lo : Int} {m : Nat} : WkD K B as (Itr lo m) (rangeD lo m) (fun _ => True) := ⟨fun as' c σ H C s i => by
  refine ⟨fun hi => ?_, fun d hd => ?_⟩
  · rw [rangeD, List.length_map, List.length_range] at hi
    exact Nat.le_of_eq hi.symm
  · rw [rangeD, List.getElem?_map] at hd
    by_cases hi : i < m
    · rw [List.getElem?_range hi] at hd
      cases hd
      exact ⟨hi, fun x H' ⟨e2, e3⟩ => by
        subst e2
        exact ⟨fun _ _ z => z, e3⟩⟩
    · rw [List.getElem?_eq_none (by simpa using hi)] at hd
      cases hd⟩
theorem id_range1 {tg : Expr} {P : List D → (Mem → Prop) → Mem → Prop} (hm : X.mg "range" = none) (h : ED n X (env, M) a fun r M' => ∃ j, rdD M' r = some (.int j) ∧ -(2 ^ 62) ≤ j ∧ j < 2 ^ 62 ∧ P (rangeD 0 j.toNat) (fun _ => True) M') (hg : Gl X "range" := by rfl) (hs : starEach [a] X.env = [(false, eval a X.env)] := by rfl) (hs0 : starEach (a :: []) X.env = (false, eval a X.env) :: starEach [] X.env := by rfl) : ID n X (env, M) tg (.Call (.Name "range" p) [a] [] pos) P := fun B as σ H hn C R q => wpI_of (pi_range1 hg hm (pa_cons wpE_ok pa_nil hs0) hs) (by
  refine h B as σ H hn C _ fun r v M' as' H' ⟨j, e, h1, h2, p⟩ C' o => ?_
  have ev : v = .int j := rd_dv C'.cf o e trivial
  subst ev
  exact ⟨j, rfl, h1, h2, q _ _ [] M' as' H' _ p C' wk_range⟩)
theorem id_range2 {tg : Expr} {P : List D → (Mem → Prop) → Mem → Prop} (hm : X.mg "range" = none) (h : AD n X (env, M) [a, b] fun rs M' => ∃ i j, rs = [.dat (.int i), .dat (.int j)] ∧ (-(2 ^ 62) ≤ i ∧ i < 2 ^ 62 ∧ -(2 ^ 62) ≤ j ∧ j < 2 ^ 62) ∧ P (rangeD i (j - i).toNat) (fun _ => True) M') (hg : Gl X "range" := by rfl) (hs : starEach [a, b] X.env = [(false, eval a X.env), (false, eval b X.env)] := by rfl) (hs2 : starEach [b] X.env = [(false, eval b X.env)] := by rfl) : ID n X (env, M) tg (.Call (.Name "range" p) [a, b] [] pos) P := fun B as σ H hn C R q => wpI_of (pi_range2 hg hm (wpA_ok (X := X)) hs hs2) (by
  refine h B as σ H hn C _ fun rs vs M' as' H' ⟨i, j, e, h1, p⟩ C' o => ?_
  subst e
  obtain ⟨v1, us, rfl, o1, v2, us2, rfl, o2, z⟩ := o
  have z : us2 = [] := z
  have o1 : v1 = .int i := o1
  have o2 : v2 = .int j := o2
  subst z
  subst o1
  subst o2
  exact ⟨i, j, rfl, h1, q _ _ [] M' as' H' _ p C' wk_range⟩)
def enumD : Nat → List D → List D
  | _, [] => []
  | i, d :: ds => .tup [.int (i : Nat), d] :: enumD (i + 1) ds
theorem enumD_get : ∀ (ds : List D) (k i : Nat), (enumD k ds)[i]? = (ds[i]?).map fun d => .tup [.int ((k + i : Nat) : Int), d]
  | [], _, _ => by simp [enumD]
  | d :: ds, k, 0 => by simp [enumD]
  | d :: ds, k, i + 1 => by
    rw [enumD, List.getElem?_cons_succ, List.getElem?_cons_succ, enumD_get ds (k + 1) i, show k + 1 + i = k + (i + 1) by omega]
theorem enumD_len : ∀ (ds : List D) (k : Nat), (enumD k ds).length = ds.length
  | [], _ => rfl
  | d :: ds, k => by rw [enumD, List.length_cons, List.length_cons, enumD_len ds]
theorem wk_enum {r : EI} {p : Addr} {ds : List D} (hg : (r, V.ref p) ∈ B.G) : WkD K B as (Ite K p) (enumD 0 ds) (fun M => rdD M r = some (.lst ds)) := ⟨fun as' c σ H C s i => by
  obtain ⟨q, vs, e, h1, dv⟩ := rd_lst (env := c.1) C.cf (C.cf.gh _ hg) s
  have e : p = q := by injection e
  subst e
  refine ⟨fun hi => ⟨vs, SqL.of h1, by rw [← dv.length]; rw [enumD_len] at hi; omega⟩, fun d hd => ?_⟩
  rw [enumD_get, Nat.zero_add] at hd
  cases e0 : ds[i]? with
  | none =>
    rw [e0] at hd
    cases hd
  | some d0 =>
    rw [e0] at hd
    cases hd
    obtain ⟨v, e1, dv1⟩ := dv.get e0
    refine ⟨⟨vs, v, SqL.of h1, e1⟩, fun x H' ⟨T, y, e2, hT, e3, e4⟩ => ?_⟩
    have := e4 vs (SqL.of h1)
    rw [e1] at this
    cases this
    subst e2
    subst e3
    obtain ⟨a1, a2⟩ := dv_new_tup (env := c.1) (M := c.2) (σ := σ) (ds := [.int (i : Nat), d0]) (vs := [.int (i : Nat), v]) C.cf hT (.cons rfl (.one dv1))
    exact ⟨grow_new hT, a2⟩⟩
theorem id_enum {elts : List Expr} {kk : Nat} {tpos : Pos} {P : List D → (Mem → Prop) → Mem → Prop} (hm : X.mg "enumerate" = none) (h : ED n X (env, M) a fun r M' => ∃ ds, rdD M' r = some (.lst ds) ∧ P (enumD 0 ds) (fun M => rdD M r = some (.lst ds)) M') (hg : Gl X "enumerate" := by rfl) (hs : starEach [a] X.env = (false, eval a X.env) :: starEach [] X.env := by rfl) : ID n X (env, M) (.Tuple elts kk tpos) (.Call (.Name "enumerate" p) [a] [] pos) P := fun B as σ H hn C R q => wpI_of (pi_enum hg hm (pa_cons wpE_ok pa_nil hs) hs) (by
  refine h B as σ H hn C _ fun r v M' as' H' ⟨ds, e, p⟩ C' o => ?_
  obtain ⟨y, vs, e1, e2, _⟩ := rd_lst C'.cf o e
  subst e1
  exact ⟨y, vs, rfl, SqL.of e2, q _ _ [(r, .ref y)] M' as' H' _ p ⟨C'.px, (C'.cf.add o).gs1⟩ (wk_enum List.mem_cons_self)⟩)
def zipD : List D → List D → List D
  | d :: ds, e :: es => .tup [d, e] :: zipD ds es
  | _, _ => []
theorem zipD_get : ∀ (ds es : List D) (i : Nat), (zipD ds es)[i]? = match ds[i]?, es[i]? with | some d, some e => some (.tup [d, e]) | _, _ => none
  | [], es, i => by simp [zipD]
  | d :: ds, [], i => by
    simp [zipD]
  | d :: ds, e :: es, 0 => by simp [zipD]
  | d :: ds, e :: es, i + 1 => by
    rw [zipD, List.getElem?_cons_succ, List.getElem?_cons_succ, List.getElem?_cons_succ, zipD_get ds es i]
theorem zipD_len : ∀ (ds es : List D), (zipD ds es).length = min ds.length es.length
  | [], es => by simp [zipD]
  | d :: ds, [] => by simp [zipD]
  | d :: ds, e :: es => by rw [zipD, List.length_cons, List.length_cons, List.length_cons, zipD_len ds es]; omega
theorem wk_zip {r r' : EI} {p p' : Addr} {ds es : List D} (hg : (r, V.ref p) ∈ B.G) (hg' : (r', V.ref p') ∈ B.G) : WkD K B as (Itz K p p') (zipD ds es) (fun M => rdD M r = some (.lst ds) ∧ rdD M r' = some (.lst es)) := ⟨fun as' c σ H C s i => by
  obtain ⟨q, vs, e, h1, dv⟩ := rd_lst (env := c.1) C.cf (C.cf.gh _ hg) s.1
  have e : p = q := by injection e
  subst e
  obtain ⟨q, us, e, h2, dv'⟩ := rd_lst (env := c.1) C.cf (C.cf.gh _ hg') s.2
  have e : p' = q := by injection e
  subst e
  refine ⟨fun hi => ⟨vs, us, SqL.of h1, SqL.of h2, by rw [← dv.length, ← dv'.length]; rw [zipD_len] at hi; omega⟩, fun d hd => ?_⟩
  rw [zipD_get] at hd
  cases e0 : ds[i]? with
  | none =>
    rw [e0] at hd
    cases hd
  | some d0 =>
    cases e9 : es[i]? with
    | none =>
      rw [e0, e9] at hd
      cases hd
    | some d9 =>
      rw [e0, e9] at hd
      cases hd
      obtain ⟨v, e1, dv1⟩ := dv.get e0
      obtain ⟨u, e1', dv1'⟩ := dv'.get e9
      refine ⟨⟨vs, us, v, u, SqL.of h1, SqL.of h2, e1, e1'⟩, fun x H' ⟨T, y, y', e2, hT, e3, e4, e5⟩ => ?_⟩
      have := e4 vs (SqL.of h1)
      rw [e1] at this
      cases this
      have := e5 us (SqL.of h2)
      rw [e1'] at this
      cases this
      subst e2
      subst e3
      obtain ⟨a1, a2⟩ := dv_new_tup (env := c.1) (M := c.2) (σ := σ) (ds := [d0, d9]) (vs := [v, u]) C.cf hT (.cons dv1 (.one dv1'))
      exact ⟨grow_new hT, a2⟩⟩
theorem id_zip {elts : List Expr} {kk : Nat} {tpos : Pos} {P : List D → (Mem → Prop) → Mem → Prop} (hm : X.mg "zip" = none) (h : ED n X (env, M) a fun r M1 => ED n X (env, M1) b fun r' M' => ∃ ds es, rdD M' r = some (.lst ds) ∧ rdD M' r' = some (.lst es) ∧ P (zipD ds es) (fun M => rdD M r = some (.lst ds) ∧ rdD M r' = some (.lst es)) M') (hg : Gl X "zip" := by rfl) (hs : starEach [a, b] X.env = (false, eval a X.env) :: starEach [b] X.env := by rfl) (hs2 : starEach [b] X.env = (false, eval b X.env) :: starEach [] X.env := by rfl) (hpl : (backTo pos (starEach [b] X.env)).any (·.1) = false := by rfl) : ID n X (env, M) (.Tuple elts kk tpos) (.Call (.Name "zip" p) [a, b] [] pos) P := fun B as σ H hn C R q => wpI_of (pi_zip hg hm (pa_cons wpE_ok (pa_cons wpE_ok pa_nil hs2) hs) hs hpl) (by
  refine h B as σ H hn C _ fun r v M1 as1 H1 h1 C1 o1 => ?_
  refine h1 (B.add (r, v)) as1 σ H1 hn (C1.cf.add o1) _ fun r' v' M' as' H' ⟨ds, es, e, e', p⟩ C' o => ?_
  obtain ⟨y, vs, e1, e2, _⟩ := rd_lst C'.cf C'.cf.top e
  obtain ⟨y', vs', e1', e2', _⟩ := rd_lst C'.cf o e'
  subst e1
  subst e1'
  exact ⟨y, y', vs, vs', rfl, SqL.of e2, SqL.of e2', q _ _ [(r', .ref y'), (r, .ref y)] M' as' H' _ p ⟨(C1.px.trans C'.px), C'.cf.add o⟩ (wk_zip (List.mem_cons_of_mem _ List.mem_cons_self) List.mem_cons_self)⟩)

/-! ### for -/
theorem sd_for {tg iter : Expr} {body : List Stmt} {t : Tg} (ht : PG X tg (t.g X.K)) (h : ID n X (env, M) tg iter fun items S M1 => ∃ I : Nat → Conf → Prop, I 0 (env, M1) ∧ (∀ i c d, items[i]? = some d → I i c → S c.2 ∧ ∃ env', t.setE d c.1 = some env' ∧ SDs n X (env', c.2) body ⟨I (i + 1), rt, nx, I (i + 1)⟩) ∧ ∀ c, I items.length c → S c.2 ∧ nx c)
    (hp : PassesOwn (model X.prog X.w) X.A X.env X.xe := by exact PassesOwn.never) (hc : X.calm = true := by rfl) (hs : ∀ x, foldedSetIterable iter X.env x = pure x := by exact fun _ => rfl) : SD n X (env, M) (.For tg iter body [] pos) ⟨nx, rt, bk, ct⟩ := fun B as σ H hn C Dd w => wpS_of (ps_for hp hc wpI_ok ht wpSs_ok hs) (by
  refine h B as σ H hn C _ fun items S G M1 as1 H1 J ⟨I, i0, ist, iend⟩ C1 wk => ?_
  refine ⟨fun i m σ H => i ≤ items.length ∧ m = items.length - i ∧ ∃ c as', I i c ∧ CG X.K (B.gs G) as1 as' c σ H, ⟨_, Nat.zero_le _, rfl, _, _, i0, C1.cf.g⟩, fun i m σ2 H2 ⟨hi, hm, c2, as2, i2, C2⟩ => ?_⟩
  by_cases hlt : i < items.length
  · obtain ⟨d, hd⟩ : ∃ d, items[i]? = some d := ⟨_, List.getElem?_eq_getElem hlt⟩
    obtain ⟨s2, env', e', hb⟩ := ist i c2 d hd i2
    obtain ⟨go, yl⟩ := (wk.ok as2 c2 σ2 H2 C2 s2 i).2 d hd
    refine .inr ⟨go, fun σ' H' => ∃ c as', I (i + 1) c ∧ CG X.K (B.gs G) as1 as' c σ' H', fun σ' H' ⟨c, as', ic, Cc⟩ => ⟨items.length - (i + 1), by omega, hlt, rfl, c, as', ic, Cc⟩, fun x H3 hy => ?_⟩
    obtain ⟨gr, dv⟩ := yl x H3 hy
    obtain ⟨σ4, h1, h2, _⟩ := Tg.run (env := c2.1) (M := c2.2) (C2.cf.grow gr) dv e'
    refine h1 _ ?_
    refine hb (B.gs G) as2 σ4 H3 hn h2 _ ⟨fun c as' σ H z Cz => ⟨c, as', z, C2.tr Cz⟩, fun fr d env M as' σ H v z Cz => w.rt fr d env M as' σ H v z (((C1.tr C2).tr Cz).popG), fun c as' σ H z Cz => w.nx c as' σ H z (((C1.tr C2).tr Cz).popG), fun c as' σ H z Cz => ⟨c, as', z, C2.tr Cz⟩⟩
  · have hi' : i = items.length := by omega
    subst hi'
    obtain ⟨s2, q⟩ := iend c2 i2
    exact .inl ⟨(wk.ok as2 c2 σ2 H2 C2 s2 _).1 rfl, w.nx c2 as2 σ2 H2 q ((C1.tr C2).popG)⟩)
end
end Dl
set_option Elab.async false
set_option linter.all false
set_option maxRecDepth 100000
set_option maxHeartbeats 2000000
/-! Dl part 7: comprehensions, defs. -/
namespace Dl
open PySem L2 PyProof.Rows

def wipeE (env : EnvD) : List Nat → EnvD
  | [] => env
  | v :: vs => (wipeE env vs).set v .un
def wpTs (X : Cx) (ifs : List Expr) : TT := fun σ H Q => ∀ pins s, Inv X pins σ H s → wpAny (model X.prog X.w) X.A (forIn ifs true fun c r => if r = true then do let ok ← isTrue c X.env (eval c X.env); pure (ForInStep.yield ok) else pure (ForInStep.yield r)) (TP X pins σ Q) X.xe s
theorem wpTs_ok {X e} : PTs X e (wpTs X e) := ⟨fun pins s σ H Q I h => h pins s I⟩
theorem wpTs_of {X e t} (h : PTs X e t) {σ H Q} (q : t σ H Q) : wpTs X e σ H Q := fun pins s I => h.run pins s σ H Q I q
def TsD (n : Nat) (X : Cx) (c : Conf) (ifs : List Expr) (P : Bool → Mem → Prop) : Prop :=
  ∀ B as σ H, B.A0.length = n → CF X.K B as c σ H → ∀ Q : Bool → Hp → Prop, (∀ b M' as' H', P b M' → CG X.K B as as' (c.1, M') σ H' → Q b H') → wpTs X ifs σ H Q
abbrev Cx.bk (X : Cx) (scope : Scope) (s : Shared) (H : Hp) (C : Addr) (cl : List (Str × Addr)) (fp : List Addr) : Cx := L2.Cx.blk X s H scope (compEnvC scope cl C X.env) fp
def EDu (n : Nat) (X : Cx) (scope : Scope) (c : Conf) (e : Expr) (P : PP) : Prop := ∀ s H C cl fp, ED n (Cx.bk X scope s H C cl fp) c e P
def TsDu (n : Nat) (X : Cx) (scope : Scope) (c : Conf) (e : List Expr) (P : Bool → Mem → Prop) : Prop := ∀ s H C cl fp, TsD n (Cx.bk X scope s H C cl fp) c e P
section
variable {K : PySem.W.Frag} {B : Bs} {as : List Addr} {σ : L2.St} {H H' : Hp}
variable {X : Cx} {n : Nat} {env : EnvD} {M : Mem} {c : Conf} {P : PP} {e a b o : Expr} {es : List Expr} {pos apos p : Pos} {k : Nat} {x m : Str} {F : Ct} {C : Addr} {nx : Conf → Prop} {rt : Bool → D → Mem → Prop} {bk ct : Conf → Prop} {scope : Scope}
theorem tsd_nil {P : Bool → Mem → Prop} (h : P true M) : TsD n X (env, M) [] P := fun B as σ H hn C Q q => wpTs_of pts_nil (q true M as H h C.g)
theorem tsd_one {P : Bool → Mem → Prop} (h : TD n X c e P) : TsD n X c [e] P := fun B as σ H hn C Q q => wpTs_of (pts_one wpT_ok) (h B as σ H hn C Q q)
theorem tsu_nil {P : Bool → Mem → Prop} (h : P true M) : TsDu n X scope (env, M) [] P := fun _ _ _ _ _ => tsd_nil h
theorem CF.wipe : ∀ (vs : List Nat) {env : EnvD} {σ : L2.St}, CF K B as (env, M) σ H → CF K B as (wipeE env vs, M) (L2.wipe σ vs) H
  | [], _, _, h => h
  | v :: vs, env, σ, h => (CF.wipe vs h).unset
theorem set_last {α : Type} (xs : List α) (x y : α) : (xs ++ [x]).set xs.length y = xs ++ [y] := by
  rw [List.set_append_right _ _ (Nat.le_refl _)]
  simp
theorem get_last {α : Type} (xs : List α) (x : α) : (xs ++ [x])[xs.length]? = some x := by
  rw [List.getElem?_append_right (Nat.le_refl _)]
  simp
/-- the last cell is forgotten -/
theorem CF.drop {H0 : Hp} {M1 M2 : Mem} {D : Addr} {y : Cell} (C1 : CF K B as (env, M1) σ H0) (h : CF K B (as ++ [D]) (env, M2 ++ [y]) σ H) : CF K B as (env, M2) σ H := by
  have hl : as.length = M2.length := by
    have := h.len
    simp at this
    exact this
  have ne : ∀ a, Ne B as M2 a → Ne B (as ++ [D]) (M2 ++ [y]) a := fun a z => by
    rcases z with z | ⟨k, x, e1, e2, lv⟩
    · exact .inl z
    · refine .inr ⟨k, x, ?_, ?_, lv⟩
      · rw [List.getElem?_append_left (List.getElem?_eq_some_iff.mp e1).1]
        exact e1
      · rw [List.getElem?_append_left (List.getElem?_eq_some_iff.mp e2).1]
        exact e2
  have vk : ∀ e v H1, VOk K (Ne B as M1) H1 as e v → ∀ v', VOk K (Ne B (as ++ [D]) (M2 ++ [y])) H (as ++ [D]) e v' → VOk K (Ne B as M2) H as e v' := fun e v H1 h1 v' h2 => by
    cases e with
    | un => trivial
    | dat d => exact DV.mono ne h2
    | cel k =>
      obtain ⟨a, e1, _⟩ := h1
      obtain ⟨a', e2, e3⟩ := h2
      rw [List.getElem?_append_left (List.getElem?_eq_some_iff.mp e1).1] at e2
      exact ⟨a', e2, e3⟩
    | spn C f k =>
      obtain ⟨x1, dx1, a, _, _, _, e1⟩ := h1
      obtain ⟨x2, dx2, a', e2, e3, e4, e5⟩ := h2
      rw [List.getElem?_append_left (List.getElem?_eq_some_iff.mp e1).1] at e5
      exact ⟨x2, dx2, a', e2, fun z => e3 (ne _ z), e4, e5⟩
  refine { len := hl, nd := (List.nodup_append.mp h.nd).1, nb := h.nb, n0 := h.n0, a0 := fun a z => h.a0 a (List.mem_append_left _ z), pre := C1.pre, cells := fun k a x e1 e2 => ?_, sl := h.sl, slots := fun i e z => ?_, frame := h.frame, fresh := fun k a e hk => ?_, gh := fun g hg => vk g.1 g.2 H0 (C1.gh g hg) g.2 (h.gh g hg) }
  · have e2 : M2[k]? = some x := e2
    refine (h.cells k a x ?_ ?_).mono ne
    · rw [List.getElem?_append_left (List.getElem?_eq_some_iff.mp e1).1]
      exact e1
    · show (M2 ++ [y])[k]? = _
      rw [List.getElem?_append_left (List.getElem?_eq_some_iff.mp e2).1]
      exact e2
  · obtain ⟨o1, f1, q1⟩ := C1.slots i e z
    obtain ⟨o2, f2, q2⟩ := h.slots i e z
    refine ⟨o2, f2, ?_⟩
    by_cases hu : e = .un
    · subst hu
      trivial
    · obtain ⟨v1, _, w1⟩ := q1.val hu
      obtain ⟨v2, rfl, w2⟩ := q2.val hu
      exact SlOk.of (vk e v1 _ w1 v2 w2)
  · refine h.fresh k a ?_ hk
    rw [List.getElem?_append_left (List.getElem?_eq_some_iff.mp e).1]
    exact e
def gho (env : EnvD) (σ : L2.St) : List (EI × V) := (env.zip σ).filterMap fun p => p.2.map fun v => (p.1, v)
theorem mem_gho {env : EnvD} {σ : L2.St} {i : Nat} {e : EI} {v : V} (h1 : env[i]? = some e) (h2 : σ[i]? = some (some v)) : (e, v) ∈ gho env σ :=
  List.mem_filterMap.mpr ⟨(e, some v), List.mem_iff_getElem?.mpr ⟨i, by rw [List.getElem?_zip_eq_some]; exact ⟨h1, h2⟩⟩, rfl⟩
theorem of_gho {env : EnvD} {σ : L2.St} {g : EI × V} (h : g ∈ gho env σ) : ∃ i : Nat, env[i]? = some g.1 ∧ σ[i]? = some (some g.2) := by
  obtain ⟨⟨e, o⟩, h1, h2⟩ := List.mem_filterMap.mp h
  obtain ⟨i, hi⟩ := List.mem_iff_getElem?.mp h1
  rw [List.getElem?_zip_eq_some] at hi
  cases o with
  | none => cases h2
  | some v =>
    cases h2
    exact ⟨i, hi.1, hi.2⟩
theorem CF.keep (C : CF K B as (env, M) σ H) : CF K (B.gs (gho env σ)) as (env, M) σ H :=
  ⟨C.len, C.nd, C.nb, C.n0, C.a0, C.pre, C.cells, C.sl, C.slots, C.frame, C.fresh, fun g hg => (List.mem_append.mp hg).elim (fun z => by
    obtain ⟨i, h1, h2⟩ := of_gho z
    obtain ⟨o, e, q⟩ := C.slots i g.1 h1
    rw [h2] at e
    cases e
    cases hg1 : g.1 with
    | un => trivial
    | dat d =>
      rw [hg1] at q
      obtain ⟨v, e, w⟩ := q
      cases e
      exact w
    | cel d =>
      rw [hg1] at q
      obtain ⟨v, e, w⟩ := q
      cases e
      exact w
    | spn D f k =>
      rw [hg1] at q
      obtain ⟨v, e, w⟩ := q
      cases e
      exact w) (C.gh g)⟩
theorem CF.back {as' : List Addr} {env' : EnvD} {M' : Mem} {σ' : L2.St} (C : CF K B as (env, M) σ H) (C' : CF K (B.gs (gho env σ)) as' (env', M') σ' H') : CF K B as' (env, M') σ H' :=
  ⟨C'.len, C'.nd, C'.nb, C'.n0, C'.a0, C'.pre, C'.cells, C.sl, fun i e z => by
    obtain ⟨o, h1, q⟩ := C.slots i e z
    refine ⟨o, h1, ?_⟩
    by_cases hu : e = .un
    · subst hu
      trivial
    · obtain ⟨v, rfl, _⟩ := q.val hu
      exact SlOk.of (C'.gh (e, v) (List.mem_append_left _ (mem_gho z h1))), C'.frame, C'.fresh, fun g hg => C'.gh g (List.mem_append_right _ hg)⟩
theorem wipe_wipe : ∀ (vs : List Nat) {ws : List Nat} {σ : L2.St}, (∀ i ∈ vs, i ∈ ws) → L2.wipe (L2.wipe σ vs) ws = L2.wipe σ ws
  | [], _, _, _ => rfl
  | v :: vs, ws, σ, hs => by
    show L2.wipe ((L2.wipe σ vs).set v none) ws = _
    rw [wipe_set (hs v List.mem_cons_self), wipe_wipe vs fun i hi => hs i (List.mem_cons_of_mem _ hi)]
/-- what a comprehension of one clause asks, its source known -/
def LcBody (n : Nat) (X : Cx) (scope : Scope) (t : Tg) (vs : List Nat) (env : EnvD) (elt : Expr) (ifs : List Expr) (P : D → Mem → Prop) (items : List D) (S : Mem → Prop) (M1 : Mem) : Prop :=
  ∃ I : Nat → Mem → List D → Prop, I 0 M1 [] ∧
    (∀ i M2 acc d, items[i]? = some d → I i M2 acc → S (M2 ++ [.lst acc]) ∧ ∃ env', t.setE d (wipeE env vs) = some env' ∧
      TsDu n X scope (env', M2 ++ [.lst acc]) ifs fun b M3 => (b = true → EDu n X scope (env', M3) elt fun r M4 => ∃ d' M5, r = .dat d' ∧ M4 = M5 ++ [.lst acc] ∧ M5.length = M2.length ∧ acc.length < sizeLine ∧ I (i + 1) M5 (acc ++ [d'])) ∧
        (b = false → ∃ M5, M3 = M5 ++ [.lst acc] ∧ M5.length = M2.length ∧ I (i + 1) M5 acc)) ∧
    (∀ M2 acc, I items.length M2 acc → S (M2 ++ [.lst acc]) ∧ P (.lst acc) M2)
/-- what a comprehension of one clause asks -/
def LcD (n : Nat) (X : Cx) (scope : Scope) (t : Tg) (vs : List Nat) (env : EnvD) (M : Mem) (elt tg iter : Expr) (ifs : List Expr) (P : D → Mem → Prop) : Prop :=
  ID n X (env, M) tg iter (LcBody n X scope t vs env elt ifs P)
/-- the reading of a comprehension -/
theorem lc_run {elt tg iter : Expr} {ifs : List Expr} {t : Tg} {vs : List Nat} {P : D → Mem → Prop} (hsl : ∀ i ∈ t.slots, i ∈ vs) (h : LcD n X scope t vs env M elt tg iter ifs P)
    (hn : B.A0.length = n) (Cf : CF X.K B as (env, M) σ H) {Q : VK} (q : ∀ d p M' as' H', P d M' → CG X.K B as as' (env, M') σ H' → DV X.K (Ne B as' M') H' d (.ref p) → CF X.K B (as' ++ [p]) (env, M' ++ [cellOf d]) σ H' → Q (.ref p) H') :
    tLc (wpI X tg iter) (t.g X.K) (fun σ H Q => ∀ s H0 C cl fp, wpTs (Cx.bk X scope s H0 C cl fp) ifs σ H Q) (fun σ H Q => ∀ s H0 C cl fp, wpE (Cx.bk X scope s H0 C cl fp) elt σ H Q) vs σ H Q := by
  refine h B as σ H hn Cf _ fun items S G M1 as1 H1 J ⟨I, i0, ist, iend⟩ C1 wk D hD => ?_
  obtain ⟨a1, a2, a3⟩ := dv_new_lst (vs := []) (ds := []) C1.cf hD .nil
  refine ⟨fun i m H => i ≤ items.length ∧ m = items.length - i ∧ ∃ M2 acc, I i M2 acc ∧ M2.length = M1.length ∧ CF X.K (B.gs G) (as1 ++ [D]) (env, M2 ++ [.lst acc]) σ H, ⟨_, Nat.zero_le _, rfl, M1, [], i0, rfl, a3⟩, fun i m H2 ⟨hi, hm, M2, acc, i2, hl2, C2⟩ => ?_⟩
  have CG2 : CG X.K (B.gs G) as1 (as1 ++ [D]) (env, M2 ++ [.lst acc]) σ H2 := ⟨List.prefix_append _ _, C2⟩
  have l2 : as1.length = M2.length := by
    have := C2.len
    simp at this
    exact this
  by_cases hlt : i < items.length
  · obtain ⟨d, hd⟩ : ∃ d, items[i]? = some d := ⟨_, List.getElem?_eq_getElem hlt⟩
    obtain ⟨s2, env', e', ht⟩ := ist i M2 acc d hd i2
    obtain ⟨go, yl⟩ := (wk.ok _ _ σ H2 CG2 s2 i).2 d hd
    refine .inr ⟨go, fun H' => ∃ M2 acc, I (i + 1) M2 acc ∧ M2.length = M1.length ∧ CF X.K (B.gs G) (as1 ++ [D]) (env, M2 ++ [.lst acc]) σ H', fun H' ⟨M5, acc', ic, hl5, Cc⟩ => ⟨items.length - (i + 1), by omega, hlt, rfl, M5, acc', ic, hl5, Cc⟩, fun x H3 hy => ?_⟩
    obtain ⟨gr, dv⟩ := yl x H3 hy
    have C3 := C2.grow gr
    obtain ⟨σ4, h1, h2, hw⟩ := Tg.run (C3.keep.wipe vs) dv e'
    refine h1 _ ⟨(hw vs hsl).trans (wipe_wipe vs fun _ z => z), fun s H0 C cl fp => ?_⟩
    refine ht s H0 C cl fp ((B.gs G).gs (gho env σ)) (as1 ++ [D]) σ4 H3 hn h2 _ fun b M3 as3 H4 ⟨htr, hfa⟩ C4 => ?_
    have fin : ∀ {M5 : Mem} {as4 : List Addr} {H5 : Hp} {y : Cell}, M5.length = M2.length → CG X.K ((B.gs G).gs (gho env σ)) (as1 ++ [D]) as4 (env', M5 ++ [y]) σ4 H5 → as4 = as1 ++ [D] := fun {M5 as4 H5 acc'} hl C5 => by
      have l1 : as4.length = M5.length + 1 := by simpa using C5.cf.len
      exact (C5.px.eq_of_length (by simp; omega)).symm
    cases b with
    | false =>
      obtain ⟨M5, rfl, hl5, i5⟩ := hfa rfl
      refine iteF ⟨M5, acc, i5, hl5.trans hl2, ?_⟩
      have e3 := fin hl5 C4
      subst e3
      exact C3.back C4.cf
    | true =>
      refine iteT fun s H0 C cl fp => ?_
      refine htr rfl s H0 C cl fp ((B.gs G).gs (gho env σ)) as3 σ4 H4 hn C4.cf _ fun r y M4 as4 H5 ⟨d', M5, er, eM, hl5, hz, i5⟩ C5 o5 => ?_
      subst er
      subst eM
      have e4 := fin hl5 (C4.tr C5)
      subst e4
      have C6 := C3.back C5.cf
      have l5 : as1.length = M5.length := by omega
      have eD : (as1 ++ [D])[M5.length]? = some D := by rw [← l5]; exact get_last _ _
      have eM : (M5 ++ [Cell.lst acc])[M5.length]? = some (.lst acc) := get_last _ _
      obtain ⟨us, e6, w6⟩ := C6.cells M5.length D _ eD eM
      refine ⟨us, e6, by rw [← w6.length]; exact hz, M5, acc ++ [d'], i5, hl5.trans hl2, ?_⟩
      have C7 := C6.put (y := .lst (acc ++ [d'])) (o := .lst (us ++ [y])) eD eM rfl rfl fun kp => ⟨us ++ [y], upd_same, (DVs.kp kp _ _ w6).append (.one (DV.kp kp _ _ o5))⟩
      rw [set_last] at C7
      exact C7
  · have hi' : i = items.length := by omega
    subst hi'
    obtain ⟨s2, pq⟩ := iend M2 acc i2
    refine .inl ⟨(wk.ok _ _ σ H2 CG2 s2 _).1 rfl, ?_⟩
    have C2' := C2.popG
    have C8 := CF.drop C1.cf.popG C2'
    refine q _ D M2 as1 H2 pq ⟨C1.px, C8⟩ ?_ C2'
    have l2' : as1.length = M2.length := l2
    have eD : (as1 ++ [D])[M2.length]? = some D := by rw [← l2']; exact get_last _ _
    have eM : (M2 ++ [Cell.lst acc])[M2.length]? = some (.lst acc) := get_last _ _
    obtain ⟨us, e6, w6⟩ := C2'.cells M2.length D _ eD eM
    have ne : ∀ a, Ne B as1 M2 a → Ne B (as1 ++ [D]) (M2 ++ [.lst acc]) a := fun a z => by
      rcases z with z | ⟨k, x, e1, e2, lv⟩
      · exact .inl z
      · refine .inr ⟨k, x, ?_, ?_, lv⟩
        · rw [List.getElem?_append_left (List.getElem?_eq_some_iff.mp e1).1]
          exact e1
        · rw [List.getElem?_append_left (List.getElem?_eq_some_iff.mp e2).1]
          exact e2
    refine ⟨D, us, rfl, fun z => ?_, e6, w6.mono ne⟩
    rcases z with z | ⟨k, x, e1, e2, lv⟩
    · have : H1 D ≠ none := C1.cf.n0 D z
      exact this hD
    · exact C1.cf.a0 D (List.mem_of_getElem? e1) hD
theorem en_lc {elt tg iter : Expr} {ifs : List Expr} {t : Tg} {own : List (Str × Nat)} {P : D → Mem → Prop} (hN : X.N.Nodup) (ok : BlkOk X.N X.env.scope scope own)
    (ht : ∀ s H C cl fp, PG (Cx.bk X scope s H C cl fp) tg (t.g X.K)) (h : LcD n X scope t (own.map (·.2)) env M elt tg iter ifs P) (hsl : ∀ i ∈ t.slots, i ∈ own.map (·.2) := by decide)
    (hc : X.calm = true := by rfl) (hs : ∀ x, foldedSetIterable iter X.env x = pure x := by exact fun _ => rfl) : EN n X (env, M) (.ListComp elt [⟨tg, iter, ifs, 0⟩] scope pos) P := fun B as σ H hn C Q q =>
  wpE_of (pe_lc hc hN wpI_ok ok ht (fun s H C cl fp => ⟨fun pins s' σ' H' Q' I' h' => h' s H C cl fp pins s' I'⟩) (fun s H C cl fp => ⟨fun pins s' σ' H' Q' I' h' => h' s H C cl fp pins s' I'⟩) hs) (lc_run hsl h hn C q)
/-- y = [..] on one row -/
theorem sd_setLc {i : Nat} {py : Pos} {y : Str} {elt tg iter : Expr} {ifs : List Expr} {t : Tg} {own : List (Str × Nat)} {spos : Pos} (hN : X.N.Nodup) (ok : BlkOk X.N X.env.scope scope own)
    (ht : ∀ s H C cl fp, PG (Cx.bk X scope s H C cl fp) tg (t.g X.K)) (h : LcD n X scope t (own.map (·.2)) env M elt tg iter ifs fun d M' => nx (env.set i (.cel M'.length), M' ++ [cellOf d]) ∨ nx (env.set i (.dat d), M'))
    (hy : X.N[i]? = some y := by rfl) (hyl : X.env.scope.names.lookup y = some .local := by rfl)
    (hsw : swapsWith (.ListComp elt [⟨tg, iter, ifs, 0⟩] scope pos) (some (.Name y py)) spos.line X.env = pure true := by exact sw_true rfl rfl rfl (by decide +kernel)) (hsl : ∀ i ∈ t.slots, i ∈ own.map (·.2) := by decide)
    (hc : X.calm = true := by rfl) (hs : ∀ x, foldedSetIterable iter X.env x = pure x := by exact fun _ => rfl) : SD n X (env, M) (.Assign [.Name y py] (.ListComp elt [⟨tg, iter, ifs, 0⟩] scope pos) spos) ⟨nx, rt, bk, ct⟩ := fun B as σ H hn C Dd w =>
  wpS_of (ps_setLc hc hN hy hyl hsw wpI_ok ok ht (fun s H C cl fp => ⟨fun pins s' σ' H' Q' I' h' => h' s H C cl fp pins s' I'⟩) (fun s H C cl fp => ⟨fun pins s' σ' H' Q' I' h' => h' s H C cl fp pins s' I'⟩) hs) (lc_run hsl h hn C fun d p M' as' H' hp C' dv C2 => by
    rcases hp with hp | hp
    · have hl : as'.length = M'.length := C'.cf.len
      refine w.nx _ (as' ++ [p]) _ H' hp ⟨C'.px.trans (List.prefix_append _ _), C2.setv (e := .cel M'.length) ⟨p, ?_, rfl⟩⟩
      rw [← hl]
      exact get_last _ _
    · exact w.nx _ as' _ H' hp ⟨C'.px, C'.cf.setv (e := .dat d) dv⟩)

/-! ### a def -/
theorem cellOf_toD {c : Cell} (h : c.opn = true) : cellOf c.toD = c := by
  cases c <;> first | rfl | cases h
/-- what a body must reach -/
def PoOf (m : Nat) (P : Bool → D → Mem → Prop) : Po := ⟨fun c => P false .non (c.2.take m) ∧ ∀ x ∈ c.2.take m, x.live = true, fun fr d M => P fr d (M.take m) ∧ ∀ x ∈ M.take m, x.live = true, fun _ => False, fun _ => False⟩
theorem fn_okD {P : Program} {w : World} {K : PySem.W.Frag} {mg : Str → Option Value} {base : Heap} {F : Ct} {x qual : Str} {st : Stmt} {f : Addr} {fd : FuncData} {N ps : List Str} {k : Nat} (Fn : Fun K x qual st f fd) (S : FnScope N ps (defScope st)) (hl : ∀ args M P, F args M P → args.length = ps.length)
    (body : ∀ cdv A outer s H E, Room k (A.deeper (envOfC qual (defScope st) s.heap.objs.size f cdv)) → ∀ args M P0, F args M P0 →
      SDs M.length (cxOf CX0 P w K mg base N qual (defScope st) f cdv A outer s H E).nox (args ++ List.replicate (N.length - ps.length) .un, M) (defBody st) (PoOf M.length P0)) :
    FnOk P w K mg base CX0 (k + 1) f fd ps (SpD K F) := by
  have vlen : ∀ {args : List EI} {vs : List V} {N H as}, VsOk K N H as args vs → args.length = vs.length := fun h => h.length
  refine Fn.ok S (fun vs H Q E ⟨N0, as, args, M, P0, en, hF, _⟩ => by rw [← en.vals.length]; exact hl args M P0 hF) (fun cdv A outer s H vs Q E hr ⟨N0, as, args, M, P0, en, hF, hP⟩ => ⟨_, wpSs_ok, ?_⟩)
  have ha := hl args M P0 hF
  have hv := en.vals.length
  have hnl : ps.length ≤ N.length := by
    rw [← S.pre, List.length_take]
    exact Nat.min_le_right _ _
  have C0 : CF K ⟨N0, H, as, []⟩ as (args ++ List.replicate (N.length - ps.length) .un, M) (start N vs) H := by
    have ne : ∀ a, Ne ⟨N0, H, as, []⟩ as M a → N0 a := fun a z => by
      rcases z with z | ⟨k, c, e1, _, _⟩
      · exact z
      · exact en.inN a (List.mem_of_getElem? e1)
    have hvs : ∀ (args : List EI) (vs : List V) (i : Nat) (e : EI), VsOk K N0 H as args vs → args[i]? = some e → ∃ v, vs[i]? = some v ∧ VOk K N0 H as e v := by
      intro args
      induction args with
      | nil => intro vs i e _ h; simp at h
      | cons r rs ih =>
        intro vs i e h1 h2
        obtain ⟨v, us, rfl, o, t⟩ := h1
        cases i with
        | zero =>
          simp at h2
          subst h2
          exact ⟨v, rfl, o⟩
        | succ i => exact ih us i e t (by simpa using h2)
    have kp : Kp N0 (Ne ⟨N0, H, as, []⟩ as M) H H := ⟨fun a z => .inl (ne a z), fun _ _ _ z => z⟩
    refine { len := en.len, nd := en.nd, nb := en.n0, n0 := en.n0, a0 := fun a z => en.n0 a (en.inN a z), pre := List.prefix_refl _, cells := fun i a y e1 e2 => (en.cells i a y e1 e2).mono ne, sl := ?_, slots := fun i e z => ?_, frame := fun a o e _ => e, fresh := fun i a e hi => ?_, gh := fun g hg => by cases hg }
    · simp [L2.start]
      omega
    · have z : (args ++ List.replicate (N.length - ps.length) EI.un)[i]? = some e := z
      by_cases hi : i < args.length
      · rw [List.getElem?_append_left hi] at z
        obtain ⟨v, e1, o⟩ := hvs args vs i e en.vals z
        refine ⟨some v, ?_, SlOk.of (o.kp kp (List.prefix_refl _))⟩
        unfold L2.start
        rw [List.getElem?_append_left (by rw [List.length_map, ← hv]; exact hi), List.getElem?_map, e1]
        rfl
      · rw [List.getElem?_append_right (by omega)] at z
        have z2 := List.getElem?_eq_some_iff.mp z
        obtain ⟨h3, h4⟩ := z2
        rw [List.getElem_replicate] at h4
        subst h4
        refine ⟨none, ?_, trivial⟩
        unfold L2.start
        simp at h3
        rw [List.getElem?_append_right (by rw [List.length_map]; omega)]
        rw [List.getElem?_eq_getElem (by simp; omega), List.getElem_replicate]
    · have hi : as.length ≤ i := hi
      have := (List.getElem?_eq_some_iff.mp e).1
      omega
  have exit : ∀ (fr : Bool) (d : D) (c' : Conf) (as' : List Addr) (σ' : L2.St) (H' : Hp) (v : V), P0 fr d (c'.2.take M.length) → (∀ x ∈ c'.2.take M.length, x.live = true) → CG K ⟨N0, H, as, []⟩ as as' c' σ' H' → RetOk K M.length ⟨N0, H, as, []⟩ as' c'.2 H' fr d v → Q v H' := fun fr d c' as' σ' H' v hp lv C' ro => by
    obtain ⟨r, er⟩ := C'.px
    have hl' : as'.length = c'.2.length := C'.cf.len
    have al : as.length = M.length := en.len
    have ale : as.length ≤ c'.2.length := by rw [← hl', ← er]; simp
    refine hP fr d _ hp v H' { len := ?_, live := lv, cells := fun i a y e1 e2 => ?_, frame := fun a o hn e => C'.cf.frame a o e hn, al := fun a ha => C'.cf.a0 a (C'.px.subset ha), res := ?_ }
    · rw [List.length_take]
      omega
    · have hi : i < as.length := (List.getElem?_eq_some_iff.mp e1).1
      rw [List.getElem?_take_of_lt (by omega)] at e2
      refine (C'.cf.cells i a y ?_ e2).mono fun b z => ?_
      · rw [← er, List.getElem?_append_left hi]
        exact e1
      · rcases z with z | ⟨hf, hv⟩
        · exact .inl z
        · unfold RetOk at ro
          rw [if_pos hf] at ro
          obtain ⟨k, p, c, h1, h2, h3, h4, h5, _⟩ := ro
          rw [hv] at h3
          have h3 : b = p := by injection h3
          subst h3
          exact .inr ⟨k, c, h2, h4, Cell.opn_live h5⟩
    · unfold RetOk at ro
      cases fr with
      | false =>
        rw [if_neg (by decide)] at ro
        rw [if_neg (by decide)]
        exact ro.mono fun a z => .inl z
      | true =>
        rw [if_pos rfl] at ro
        rw [if_pos rfl]
        obtain ⟨k, p, c, h1, h2, h3, h4, h5, h6⟩ := ro
        have ec : cellOf d = c := by rw [← h6]; exact cellOf_toD h5
        have hH : H p = none := C'.cf.fresh k p h2 (show as.length ≤ k by omega)
        refine ⟨p, h3, hH, by rw [ec]; exact Cell.opn_live h5, ?_⟩
        rw [ec]
        refine (C'.cf.cells k p c h2 h4).mono fun b z => ?_
        rcases z with z | z
        · exact .inl z
        · rw [z]
          exact .inr ⟨k, c, h2, h4, Cell.opn_live h5⟩
  refine body cdv A outer s H E hr args M P0 hF ⟨N0, H, as, []⟩ as (start N vs) H en.len C0 _ ⟨fun c' as' σ' H' h C' => ?_, fun fr d env M' as' σ' H' v h C' ro => ?_, fun _ _ _ _ h _ => h.elim, fun _ _ _ _ h _ => h.elim⟩
  · exact exit false .non c' as' σ' H' .non h.1 h.2 C' rfl
  · exact exit fr d (env, M') as' σ' H' v h.1 h.2 C' ro
end
end Dl
set_option Elab.async false
set_option linter.all false
set_option maxRecDepth 100000
set_option maxHeartbeats 2000000
/-! Dl part 8: built-ins, methods of lists, stores, dicts. -/
namespace Dl
open PySem L2 PyProof.Rows

/-- an operation of one value, over data -/
def B1 (K : PySem.W.Frag) (r : List V → Hp → VK → Prop) (F : EI → Mem → PP → Prop) : Prop :=
  ∀ B as env M σ H r1 v1, CF K B as (env, M) σ H → VOk K (Ne B as M) H as r1 v1 → ∀ P : PP, F r1 M P →
    ∀ Q : VK, (∀ r v M' as' H', P r M' → CG K B as as' (env, M') σ H' → VOk K (Ne B as' M') H' as' r v → Q v H') → r [v1] H Q
def B2 (K : PySem.W.Frag) (r : List V → Hp → VK → Prop) (F : EI → EI → Mem → PP → Prop) : Prop :=
  ∀ B as env M σ H r1 v1 r2 v2, CF K B as (env, M) σ H → VOk K (Ne B as M) H as r1 v1 → VOk K (Ne B as M) H as r2 v2 → ∀ P : PP, F r1 r2 M P →
    ∀ Q : VK, (∀ r v M' as' H', P r M' → CG K B as as' (env, M') σ H' → VOk K (Ne B as' M') H' as' r v → Q v H') → r [v1, v2] H Q
section
variable {K : PySem.W.Frag} {B : Bs} {as : List Addr} {σ : L2.St} {H H' : Hp}
variable {X : Cx} {n : Nat} {env : EnvD} {M : Mem} {c : Conf} {P : PP} {e a b o : Expr} {es : List Expr} {pos apos p : Pos} {k : Nat} {x m : Str} {F : Ct} {C : Addr} {nx : Conf → Prop} {rt : Bool → D → Mem → Prop} {bk ct : Conf → Prop} {scope : Scope}
theorem ed_b1 {id : String} {r} {F : EI → Mem → PP → Prop} (hc : CallR X (.builtin id) r) (hF : B1 X.K r F) (hm : X.mg x = none) (h : ED n X (env, M) a fun r1 M1 => F r1 M1 P) (hv : bootBuiltins x = some (.builtin id) := by decide +kernel) (hg : Gl X x := by rfl) (hn : x ≠ "__name__" := by decide) (hdb : (x == ("__debug__" : Str)) = false := by decide)
    (he : starEach (a :: []) X.env = (false, eval a X.env) :: starEach [] X.env := by rfl) (hpl : (backTo pos (starEach [] X.env)).any (·.1) = false := by rfl) : ED n X (env, M) (.Call (.Name x p) [a] [] pos) P :=
  ed_lift (pe_callB hc hg hm hv (pa_cons wpE_ok pa_nil he) hn hdb he hpl) fun B as σ H hb C Q q => h B as σ H hb C _ fun r v M' as' H' f C' o => hF B as' env M' σ H' r v C'.cf o P f Q fun r v M2 as2 H2 p C2 => q r v M2 as2 H2 p (C'.tr C2)
theorem ed_t1 {T : String} {r} {F : EI → Mem → PP → Prop} (hc : CallR X (.type T) r) (hF : B1 X.K r F) (hm : X.mg x = none) (h : ED n X (env, M) a fun r1 M1 => F r1 M1 P) (hv : bootBuiltins x = some (.type T) := by decide +kernel) (hg : Gl X x := by rfl) (hn : x ≠ "__name__" := by decide) (hdb : (x == ("__debug__" : Str)) = false := by decide)
    (he : starEach (a :: []) X.env = (false, eval a X.env) :: starEach [] X.env := by rfl) (hpl : (backTo pos (starEach [] X.env)).any (·.1) = false := by rfl) : ED n X (env, M) (.Call (.Name x p) [a] [] pos) P :=
  ed_lift (pe_callTy hc hg hm hv (pa_cons wpE_ok pa_nil he) hn hdb he hpl) fun B as σ H hb C Q q => h B as σ H hb C _ fun r v M' as' H' f C' o => hF B as' env M' σ H' r v C'.cf o P f Q fun r v M2 as2 H2 p C2 => q r v M2 as2 H2 p (C'.tr C2)
theorem ed_b2 {id : String} {r} {F : EI → EI → Mem → PP → Prop} (hc : CallR X (.builtin id) r) (hF : B2 X.K r F) (hm : X.mg x = none) (h : ED n X (env, M) a fun r1 M1 => ED n X (env, M1) b fun r2 M2 => F r1 r2 M2 P) (hv : bootBuiltins x = some (.builtin id) := by decide +kernel) (hg : Gl X x := by rfl) (hn : x ≠ "__name__" := by decide) (hdb : (x == ("__debug__" : Str)) = false := by decide)
    (he : starEach (a :: [b]) X.env = (false, eval a X.env) :: starEach [b] X.env := by rfl) (he2 : starEach (b :: []) X.env = (false, eval b X.env) :: starEach [] X.env := by rfl) (hpl : (backTo pos (starEach [b] X.env)).any (·.1) = false := by rfl) : ED n X (env, M) (.Call (.Name x p) [a, b] [] pos) P :=
  ed_lift (pe_callB hc hg hm hv (pa_cons wpE_ok (pa_cons wpE_ok pa_nil he2) he) hn hdb he hpl) fun B as σ H hb C Q q => by
    refine h B as σ H hb C _ fun r v M1 as1 H1 h1 C1 o1 => ?_
    refine h1 (B.add (r, v)) as1 σ H1 hb (C1.cf.add o1) _ fun r2 v2 M2 as2 H2 f C2 o2 => ?_
    exact hF B as2 env M2 σ H2 r v r2 v2 C2.cf.pop C2.cf.top o2 P f Q fun r v M3 as3 H3 p C3 => q r v M3 as3 H3 p ((C1.tr C2.pop).tr C3)
/-! ### len, sum, any, all, abs, min, max -/
def LenOk : D → Int → Prop
  | .lst ds, k => k = ds.length
  | .tup ds, k => k = ds.length
  | .scr ds, k => k = ds.length
  | .dic ks ds, k => k = ds.length
  | .str x, k => x.length ≤ sizeLine ∧ k = x.length
  | _, _ => False
theorem CallR.or {f : Value} {r r' : List V → Hp → VK → Prop} (h : CallR X f r) (h' : CallR X f r') : CallR X f (fun x H Q => r x H Q ∨ r' x H Q) := fun pins s σ H xs us Q I v z => z.elim (fun z => h pins s σ H xs us Q I v z) fun z => h' pins s σ H xs us Q I v z
theorem call_lenR : CallR X (.builtin "len") (fun xs H Q => ∃ a kvs, xs = [V.ref a] ∧ Rd H a (.dK kvs) ∧ Q (.int kvs.length) H) := by
  intro pins s σ H xs us Q I r h
  obtain ⟨a, kvs, rfl, ha, q⟩ := h
  obtain ⟨u, rfl, ru⟩ := vals1 r
  cases ru
  exact d_len I ha fun t s' I' => ⟨.int kvs.length, H, I', ⟨t, rfl⟩, q⟩
theorem b1_len : B1 K (fun xs H Q => (∃ x n, xs = [x] ∧ LenV K x H n ∧ Q (.int n) H) ∨ (∃ a kvs, xs = [V.ref a] ∧ Rd H a (.dK kvs) ∧ Q (.int kvs.length) H)) (fun r M P => ∃ d k, rdD M r = some d ∧ LenOk d k ∧ P (.dat (.int k)) M) := by
  intro B as env M σ H r1 v1 Cf o P ⟨d, k, e, hk, p⟩ Q q
  have fin : Q (.int k) H := q _ _ M as H p Cf.g rfl
  cases d with
  | lst ds =>
    obtain ⟨y, vs, rfl, e1, dv⟩ := rd_lst Cf o e
    have hk : k = ds.length := hk
    subst hk
    exact .inl ⟨_, ds.length, rfl, .inl ⟨vs, SqL.of e1, dv.length⟩, fin⟩
  | tup ds =>
    obtain ⟨y, vs, rfl, e1, dv⟩ : ∃ a vs, v1 = .ref a ∧ RdT K (Ne B as M) H a vs ∧ DVs K (Ne B as M) H ds vs := rd_dv Cf o e trivial
    have hk : k = ds.length := hk
    subst hk
    exact .inl ⟨_, ds.length, rfl, .inr ⟨vs, e1.sq, dv.length⟩, fin⟩
  | scr ds =>
    obtain ⟨y, rfl, e1⟩ : ∃ a, v1 = .ref a ∧ RdL K (Ne B as M) H a (ds.map V.int) := rd_dv Cf o e trivial
    have hk : k = ds.length := hk
    subst hk
    exact .inl ⟨_, ds.length, rfl, .inl ⟨_, e1.sq, by simp⟩, fin⟩
  | dic ks ds =>
    obtain ⟨y, kvs, rfl, e1, e2, dv⟩ := rd_dic Cf o e
    have hk : k = ds.length := hk
    have hl : ds.length = kvs.length := by simpa using dv.length
    subst hk
    rw [hl] at fin
    exact .inr ⟨y, kvs, rfl, e1, fin⟩
  | str z =>
    have ev : v1 = .str z := rd_dv Cf o e trivial
    subst ev
    obtain ⟨h1, h2⟩ : z.length ≤ sizeLine ∧ k = z.length := hk
    subst h2
    exact .inl ⟨_, z.length, rfl, ⟨h1, rfl⟩, fin⟩
  | _ => cases hk
theorem ed_len (hm : X.mg "len" = none) (h : ED n X (env, M) a fun r M => ∃ d k, rdD M r = some d ∧ LenOk d k ∧ P (.dat (.int k)) M) (hg : Gl X "len" := by rfl) (he : starEach (a :: []) X.env = (false, eval a X.env) :: starEach [] X.env := by rfl) (hpl : (backTo pos (starEach [] X.env)).any (·.1) = false := by rfl) : ED n X (env, M) (.Call (.Name "len" p) [a] [] pos) P :=
  ed_b1 (CallR.or call_len call_lenR) b1_len hm h PySem.boot_len hg (by decide) (by decide) he hpl
theorem rd_ints {r : EI} {v : V} {ns : List Int} (Cf : CF K B as (env, M) σ H) (o : VOk K (Ne B as M) H as r v) (e : rdD M r = some (.lst (ns.map D.int))) : ∃ a, v = .ref a ∧ H a = some (.lst (ns.map V.int)) := by
  obtain ⟨y, vs, rfl, e1, dv⟩ := rd_lst Cf o e
  rw [dv.ints_inv] at e1
  exact ⟨y, rfl, e1⟩
theorem DVs.bls_inv {N : Addr → Prop} : ∀ {ns : List Bool} {vs : List V}, DVs K N H (ns.map D.bl) vs → vs = ns.map V.bl
  | [], vs, h => h
  | n :: ns, vs, h => by
    obtain ⟨v, r, rfl, a, z⟩ := h
    have e : v = .bl n := a
    rw [e, DVs.bls_inv z]
    rfl
theorem rd_bls {r : EI} {v : V} {ns : List Bool} (Cf : CF K B as (env, M) σ H) (o : VOk K (Ne B as M) H as r v) (e : rdD M r = some (.lst (ns.map D.bl))) : ∃ a, v = .ref a ∧ H a = some (.lst (ns.map V.bl)) := by
  obtain ⟨y, vs, rfl, e1, dv⟩ := rd_lst Cf o e
  rw [dv.bls_inv] at e1
  exact ⟨y, rfl, e1⟩
theorem ed_sum (hm : X.mg "sum" = none) (h : ED n X (env, M) a fun r M => ∃ ns : List Int, rdD M r = some (.lst (ns.map D.int)) ∧ P (.dat (.int ns.sum)) M) (hc : X.calm = true := by rfl) (hg : Gl X "sum" := by rfl) (he : starEach (a :: []) X.env = (false, eval a X.env) :: starEach [] X.env := by rfl) (hpl : (backTo pos (starEach [] X.env)).any (·.1) = false := by rfl) : ED n X (env, M) (.Call (.Name "sum" p) [a] [] pos) P :=
  ed_b1 (F := fun r M P => ∃ ns : List Int, rdD M r = some (.lst (ns.map D.int)) ∧ P (.dat (.int ns.sum)) M) (cr_sum hc) (fun B as env M σ H r1 v1 Cf o P ⟨ns, e, p⟩ Q q => by
    obtain ⟨y, rfl, e1⟩ := rd_ints Cf o e
    exact ⟨y, ns, rfl, SqL.of e1, q _ _ M as H p Cf.g rfl⟩) hm h (by decide +kernel) hg (by decide) (by decide) he hpl
theorem ed_all (hm : X.mg "all" = none) (h : ED n X (env, M) a fun r M => ∃ ns : List Bool, rdD M r = some (.lst (ns.map D.bl)) ∧ P (.dat (.bl (ns.all id))) M) (hc : X.calm = true := by rfl) (hg : Gl X "all" := by rfl) (he : starEach (a :: []) X.env = (false, eval a X.env) :: starEach [] X.env := by rfl) (hpl : (backTo pos (starEach [] X.env)).any (·.1) = false := by rfl) : ED n X (env, M) (.Call (.Name "all" p) [a] [] pos) P :=
  ed_b1 (F := fun r M P => ∃ ns : List Bool, rdD M r = some (.lst (ns.map D.bl)) ∧ P (.dat (.bl (ns.all id))) M) (cr_all hc) (fun B as env M σ H r1 v1 Cf o P ⟨ns, e, p⟩ Q q => by
    obtain ⟨y, rfl, e1⟩ := rd_bls Cf o e
    exact ⟨y, ns, rfl, SqL.of e1, q _ _ M as H p Cf.g rfl⟩) hm h (by decide +kernel) hg (by decide) (by decide) he hpl
theorem truth_ints {prog : Program} {w : World} {A : Around} {bs : List Int} {its : List Value} (rv : Vals (bs.map V.int) its) : TruthOf prog w A (fun i v => its.toArray[i]? = some v) (fun i => bs.getD i 0 != 0) := fun i v s Q E hv hq => by
  have hv' : its[i]? = some v := by simpa using hv
  have hl : (bs.map V.int).length = its.length := rv.length
  have hi : i < its.length := (List.getElem?_eq_some_iff.mp hv').1
  have hb : (bs.map V.int)[i]? = some (.int (bs.getD i 0)) := by
    rw [List.length_map] at hl
    rw [List.getElem?_map, List.getElem?_eq_getElem (by omega)]
    simp [List.getD_eq_getElem?_getD, List.getElem?_eq_getElem (show i < bs.length by omega)]
  obtain ⟨u, e1, r⟩ := rv.get hb
  rw [hv'] at e1
  cases e1
  obtain ⟨t, rfl⟩ := r
  exact PyProof.Rows.truthy_int hq
theorem any_rangeI : ∀ bs : List Int, (List.range bs.length).any (fun i => bs.getD i 0 != 0) = bs.any (· != 0)
  | [] => rfl
  | b :: bs => by
    rw [List.length_cons, List.range_succ_eq_map, List.any_cons, List.any_map, List.any_cons, ← any_rangeI bs]
    all_goals rfl
theorem cr_anyI (hc : X.calm = true) : CallR X (.builtin "any") (fun vs H Q => ∃ (a : Addr) (bs : List Int), vs = [V.ref a] ∧ SqL X.K H a (bs.map V.int) ∧ Q (.bl (bs.any (· != 0))) H) := by
  intro pins s σ H vs us Q I r h
  obtain ⟨a, bs, rfl, hs, q⟩ := h
  obtain ⟨its, rv, hl, _⟩ := I.list hs
  rw [Vals.ref1 r]
  refine call_any_walk (iter_any hl.isList fun s₂ e2 st hne => ?_)
  subst e2
  refine ⟨_, _, _, _, _, _, _, rfl, Walks.list (A := X.A.in1) (I.ok.hd hc) _ a hne its.toArray, st, truth_ints rv, fun h' tk hk => ?_⟩
  refine ⟨.bl _, H, I.kept fun b o eo => hk b o (fun hmem => ?_) (Heap.get?_push_of_some _ eo), ?_, q⟩
  · rcases List.mem_cons.mp hmem with e1 | hmem
    · exact absurd (e1 ▸ Heap.lt_size eo) (Nat.lt_irrefl _)
    · cases hmem
  · show Value.bool _ = Value.bool _
    have hlen := rv.length
    rw [List.length_map] at hlen
    rw [← any_rangeI, List.size_toArray, hlen]
theorem ed_anyI (hm : X.mg "any" = none) (h : ED n X (env, M) a fun r M => ∃ ns : List Int, rdD M r = some (.lst (ns.map D.int)) ∧ P (.dat (.bl (ns.any (· != 0)))) M) (hc : X.calm = true := by rfl) (hg : Gl X "any" := by rfl) (he : starEach (a :: []) X.env = (false, eval a X.env) :: starEach [] X.env := by rfl) (hpl : (backTo pos (starEach [] X.env)).any (·.1) = false := by rfl) : ED n X (env, M) (.Call (.Name "any" p) [a] [] pos) P :=
  ed_b1 (F := fun r M P => ∃ ns : List Int, rdD M r = some (.lst (ns.map D.int)) ∧ P (.dat (.bl (ns.any (· != 0)))) M) (cr_anyI hc) (fun B as env M σ H r1 v1 Cf o P ⟨ns, e, p⟩ Q q => by
    obtain ⟨y, rfl, e1⟩ := rd_ints Cf o e
    exact ⟨y, ns, rfl, SqL.of e1, q _ _ M as H p Cf.g rfl⟩) hm h (by decide +kernel) hg (by decide) (by decide) he hpl
def fI1 (g : Int → Int) (r : EI) (M : Mem) (P : PP) : Prop := ∃ i, rdD M r = some (.int i) ∧ P (.dat (.int (g i))) M
theorem ed_abs (hm : X.mg "abs" = none) (h : ED n X (env, M) a fun r M => fI1 (fun i => if i < 0 then -i else i) r M P) (hg : Gl X "abs" := by rfl) (he : starEach (a :: []) X.env = (false, eval a X.env) :: starEach [] X.env := by rfl) (hpl : (backTo pos (starEach [] X.env)).any (·.1) = false := by rfl) : ED n X (env, M) (.Call (.Name "abs" p) [a] [] pos) P :=
  ed_b1 (F := fI1 fun i => if i < 0 then -i else i) call_abs (fun B as env M σ H r1 v1 Cf o P ⟨i, e, p⟩ Q q => by
    have ev : v1 = .int i := rd_dv Cf o e trivial
    subst ev
    exact ⟨i, rfl, q _ _ M as H p Cf.g rfl⟩) hm h (by decide +kernel) hg (by decide) (by decide) he hpl
def intD : D → Option Int
  | .int i => some i
  | .bl b => some (if b then 1 else 0)
  | _ => none
theorem ed_int1 (hm : X.mg "int" = none) (h : ED n X (env, M) a fun r M => ∃ d i, rdD M r = some d ∧ intD d = some i ∧ P (.dat (.int i)) M) (hg : Gl X "int" := by rfl) (he : starEach (a :: []) X.env = (false, eval a X.env) :: starEach [] X.env := by rfl) (hpl : (backTo pos (starEach [] X.env)).any (·.1) = false := by rfl) : ED n X (env, M) (.Call (.Name "int" p) [a] [] pos) P :=
  ed_t1 (F := fun r M P => ∃ d i, rdD M r = some d ∧ intD d = some i ∧ P (.dat (.int i)) M) call_int1 (fun B as env M σ H r1 v1 Cf o P ⟨d, i, e, hi, p⟩ Q q => by
    have fin : Q (.int i) H := q _ _ M as H p Cf.g rfl
    cases d with
    | int j =>
      have ev : v1 = .int j := rd_dv Cf o e trivial
      cases hi
      subst ev
      exact .inl ⟨_, rfl, fin⟩
    | bl b =>
      cases hi
      have ev : v1 = .bl b := rd_dv Cf o e trivial
      subst ev
      exact .inr ⟨b, rfl, fin⟩
    | _ => cases hi) hm h (by decide +kernel) hg (by decide) (by decide) he hpl
def f2I (g : Int → Int → Int) (r1 r2 : EI) (M : Mem) (P : PP) : Prop := ∃ i j, rdD M r1 = some (.int i) ∧ rdD M r2 = some (.int j) ∧ P (.dat (.int (g i j))) M
theorem ed_max2 (hm : X.mg "max" = none) (h : ED n X (env, M) a fun r1 M1 => ED n X (env, M1) b fun r2 M2 => f2I (fun i j => if j > i then j else i) r1 r2 M2 P) (hc : X.calm = true := by rfl) (hg : Gl X "max" := by rfl)
    (he : starEach (a :: [b]) X.env = (false, eval a X.env) :: starEach [b] X.env := by rfl) (he2 : starEach (b :: []) X.env = (false, eval b X.env) :: starEach [] X.env := by rfl) (hpl : (backTo pos (starEach [b] X.env)).any (·.1) = false := by rfl) : ED n X (env, M) (.Call (.Name "max" p) [a, b] [] pos) P :=
  ed_b2 (F := f2I fun i j => if j > i then j else i) (call_max2 hc) (fun B as env M σ H r1 v1 r2 v2 Cf o1 o2 P ⟨i, j, e1, e2, p⟩ Q q => by
    have ev : v1 = .int i := rd_dv Cf o1 e1 trivial
    have ev' : v2 = .int j := rd_dv Cf o2 e2 trivial
    subst ev
    subst ev'
    exact ⟨i, j, rfl, q _ _ M as H p Cf.g rfl⟩) hm h (by decide +kernel) hg (by decide) (by decide) he he2 hpl
theorem ed_min2 (hm : X.mg "min" = none) (h : ED n X (env, M) a fun r1 M1 => ED n X (env, M1) b fun r2 M2 => f2I (fun i j => if j < i then j else i) r1 r2 M2 P) (hc : X.calm = true := by rfl) (hg : Gl X "min" := by rfl)
    (he : starEach (a :: [b]) X.env = (false, eval a X.env) :: starEach [b] X.env := by rfl) (he2 : starEach (b :: []) X.env = (false, eval b X.env) :: starEach [] X.env := by rfl) (hpl : (backTo pos (starEach [b] X.env)).any (·.1) = false := by rfl) : ED n X (env, M) (.Call (.Name "min" p) [a, b] [] pos) P :=
  ed_b2 (F := f2I fun i j => if j < i then j else i) (call_min2 hc) (fun B as env M σ H r1 v1 r2 v2 Cf o1 o2 P ⟨i, j, e1, e2, p⟩ Q q => by
    have ev : v1 = .int i := rd_dv Cf o1 e1 trivial
    have ev' : v2 = .int j := rd_dv Cf o2 e2 trivial
    subst ev
    subst ev'
    exact ⟨i, j, rfl, q _ _ M as H p Cf.g rfl⟩) hm h (by decide +kernel) hg (by decide) (by decide) he he2 hpl
/-! ### tuple(..), list(..) -/
def seqOf : D → Option (List D)
  | .lst ds => some ds
  | .tup ds => some ds
  | .scr ns => some (ns.map D.int)
  | _ => none
theorem rd_seq {r : EI} {v : V} {d : D} {ds : List D} (Cf : CF K B as (env, M) σ H) (o : VOk K (Ne B as M) H as r v) (e : rdD M r = some d) (hs : seqOf d = some ds) : ∃ a vs, v = .ref a ∧ (SqL K H a vs ∨ SqT K H a vs) ∧ DVs K (Ne B as M) H ds vs := by
  cases d with
  | lst es =>
    cases hs
    obtain ⟨y, vs, rfl, e1, dv⟩ := rd_lst Cf o e
    exact ⟨y, vs, rfl, .inl (SqL.of e1), dv⟩
  | tup es =>
    cases hs
    obtain ⟨y, vs, rfl, e1, dv⟩ : ∃ a vs, v = .ref a ∧ RdT K (Ne B as M) H a vs ∧ DVs K (Ne B as M) H ds vs := rd_dv Cf o e trivial
    exact ⟨y, vs, rfl, .inr e1.sq, dv⟩
  | scr ns =>
    cases hs
    obtain ⟨y, rfl, e1⟩ : ∃ a, v = .ref a ∧ RdL K (Ne B as M) H a (ns.map V.int) := rd_dv Cf o e trivial
    exact ⟨y, _, rfl, .inl e1.sq, DVs.ints ns⟩
  | _ => cases hs
theorem en_list (hm : X.mg "list" = none) {P : D → Mem → Prop} (h : ED n X (env, M) a fun r M => ∃ d ds, rdD M r = some d ∧ seqOf d = some ds ∧ P (.lst ds) M) (hg : Gl X "list" := by rfl) (he : starEach (a :: []) X.env = (false, eval a X.env) :: starEach [] X.env := by rfl) (hpl : (backTo pos (starEach [] X.env)).any (·.1) = false := by rfl) : EN n X (env, M) (.Call (.Name "list" p) [a] [] pos) P := fun B as σ H hn C Q q =>
  wpE_of (pe_callTy call_list_of hg hm (by decide +kernel) (pa_cons wpE_ok pa_nil he) (by decide) (by decide) he hpl) (by
    refine h B as σ H hn C _ fun r v M' as' H' ⟨d, ds, e, hs, p⟩ C' o => ?_
    obtain ⟨y, vs, rfl, sq, dv⟩ := rd_seq C'.cf o e hs
    refine ⟨y, vs, rfl, sq, fun l hl => ?_⟩
    obtain ⟨a1, a2, a3⟩ := dv_new_lst C'.cf hl dv
    exact q _ l M' as' _ p ⟨C'.px, a1⟩ a2 a3)
theorem ed_tuple (hm : X.mg "tuple" = none) (h : ED n X (env, M) a fun r M => ∃ ds, rdD M r = some (.lst ds) ∧ P (.dat (.tup ds)) M) (hg : Gl X "tuple" := by rfl) (he : starEach (a :: []) X.env = (false, eval a X.env) :: starEach [] X.env := by rfl) (hpl : (backTo pos (starEach [] X.env)).any (·.1) = false := by rfl) : ED n X (env, M) (.Call (.Name "tuple" p) [a] [] pos) P :=
  ed_t1 (F := fun r M P => ∃ ds, rdD M r = some (.lst ds) ∧ P (.dat (.tup ds)) M) call_tuple_of (fun B as env M σ H r1 v1 Cf o P ⟨ds, e, p⟩ Q q => by
    obtain ⟨y, vs, rfl, e1, dv⟩ := rd_lst Cf o e
    refine ⟨y, vs, rfl, .inl ⟨SqL.of e1, fun l hl => ?_⟩⟩
    obtain ⟨a1, a2⟩ := dv_new_tup Cf hl dv
    exact q _ _ M as _ p a1.g a2) hm h (by decide +kernel) hg (by decide) (by decide) he hpl
/-! ### methods of lists -/
/-- a flat value as data -/
def ofV : V → D
  | .non => .non
  | .bl b => .bl b
  | .int i => .int i
  | .str x => .str x
  | _ => .non
theorem dv_flat {N : Addr → Prop} {y v : V} (f : flatV y = true) (h : DV K N H (ofV y) v) : v = y := by
  cases y with
  | non => exact h
  | bl => exact h
  | int => exact h
  | str => exact h
  | _ => cases f
theorem dvs_flat {N : Addr → Prop} : ∀ {ys vs : List V}, ys.all flatV = true → DVs K N H (ys.map ofV) vs → vs = ys
  | [], _, _, h => h
  | y :: ys, vs, f, h => by
    obtain ⟨v, r, rfl, a, t⟩ := h
    rw [List.all_cons, Bool.and_eq_true] at f
    rw [dv_flat f.1 a, dvs_flat f.2 t]
theorem tyV_lst {v : V} {y : Addr} {vs : List V} (e : v = .ref y) (h : H y = some (.lst vs)) : tyV K "list" v H := by
  subst e
  exact .inl ⟨rfl, _, SqL.of h⟩
theorem ed_append (h : ED n X (env, M) o fun r0 M0 => ∃ k ds0, r0 = .cel k ∧ M0[k]? = some (.lst ds0) ∧ ED n X (env, M0) a fun r1 M1 => ∃ d ds, r1 = .dat d ∧ M1[k]? = some (.lst ds) ∧ ds.length < sizeLine ∧ P (.dat .non) (M1.set k (.lst (ds ++ [d]))))
    (hbase : attributeBase o "append" X.env (eval o X.env) = eval o X.env := by rfl) (hline : (apos.endLine == pos.line) = true := by rfl) (he : starEach (a :: []) X.env = (false, eval a X.env) :: starEach [] X.env := by rfl)
    (hfew : ((backTo pos (starEach (a :: []) X.env)).all (fun x => !x.1) && (backToKw pos (keywordEach [] X.env)).all (fun x => x.1.isSome) && decide ((a :: []).length + ([] : List Keyword).length + (if ([] : List Keyword).isEmpty then 0 else 1) < 30)) = true := by rfl) (hplain : (backTo pos (starEach [] X.env)).any (·.1) = false := by rfl) :
    ED n X (env, M) (.Call (.Attribute o "append" apos) [a] [] pos) P :=
  ed_lift (pe_bm PySem.F.plainAttrs_list PySem.F.slot_list_append PySem.F.type_list_append mt_append wpE_ok (pa_cons wpE_ok pa_nil he) hbase hfew hline he hplain) fun B as σ H hn C Q q => by
    refine h B as σ H hn C _ fun r0 v0 M0 as0 H0 ⟨k, ds0, e, e0, h1⟩ C0 o0 => ?_
    subst e
    obtain ⟨y, ey, rfl⟩ := id o0
    obtain ⟨vs0, e1, _⟩ := C0.cf.cells k y _ ey e0
    refine ⟨tyV_lst rfl e1, ?_⟩
    refine h1 (B.add (.cel k, .ref y)) as0 σ H0 hn (C0.cf.add o0) _ fun r1 v1 M1 as1 H1 ⟨d, ds, er, em, hl, p⟩ C1 o1 => ?_
    subst er
    obtain ⟨y', ey', ee⟩ := C1.cf.top
    have ee : y = y' := by injection ee
    subst ee
    obtain ⟨vs, e2, dv⟩ := C1.cf.cells k y _ ey' em
    refine ⟨y, vs, v1, rfl, rfl, e2, by rw [← dv.length]; exact hl, ?_⟩
    have C2 := C1.cf.pop.put (y := .lst (ds ++ [d])) (o := .lst (vs ++ [v1])) ey' em rfl rfl fun kp => ⟨vs ++ [v1], upd_same, (DVs.kp kp _ _ dv).append (.one (DV.kp kp _ _ o1))⟩
    exact q _ _ _ as1 _ p ⟨(C0.tr C1.pop).px, C2⟩ rfl
theorem ed_insert (h : ED n X (env, M) o fun r0 M0 => ∃ k ds0, r0 = .cel k ∧ M0[k]? = some (.lst ds0) ∧ ED n X (env, M0) a fun r1 M1 => ED n X (env, M1) b fun r2 M2 => ∃ d ds i, rdD M2 r1 = some (.int i) ∧ r2 = .dat d ∧ M2[k]? = some (.lst ds) ∧ ds.length < sizeLine ∧ 0 ≤ i ∧ i < 2 ^ 63 ∧ P (.dat .non) (M2.set k (.lst (ds.take i.toNat ++ [d] ++ ds.drop i.toNat))))
    (hbase : attributeBase o "insert" X.env (eval o X.env) = eval o X.env := by rfl) (hline : (apos.endLine == pos.line) = true := by rfl) (he : starEach (a :: [b]) X.env = (false, eval a X.env) :: starEach [b] X.env := by rfl) (he2 : starEach (b :: []) X.env = (false, eval b X.env) :: starEach [] X.env := by rfl)
    (hfew : ((backTo pos (starEach (a :: [b]) X.env)).all (fun x => !x.1) && (backToKw pos (keywordEach [] X.env)).all (fun x => x.1.isSome) && decide ((a :: [b]).length + ([] : List Keyword).length + (if ([] : List Keyword).isEmpty then 0 else 1) < 30)) = true := by rfl) (hplain : (backTo pos (starEach [b] X.env)).any (·.1) = false := by rfl) :
    ED n X (env, M) (.Call (.Attribute o "insert" apos) [a, b] [] pos) P :=
  ed_lift (pe_bm PySem.F.plainAttrs_list PySem.F.slot_list_insert PySem.F.type_list_insert mt_insert wpE_ok (pa_cons wpE_ok (pa_cons wpE_ok pa_nil he2) he) hbase hfew hline he hplain) fun B as σ H hn C Q q => by
    refine h B as σ H hn C _ fun r0 v0 M0 as0 H0 ⟨k, ds0, e, e0, h1⟩ C0 o0 => ?_
    subst e
    obtain ⟨y, ey, rfl⟩ := id o0
    obtain ⟨vs0, e1, _⟩ := C0.cf.cells k y _ ey e0
    refine ⟨tyV_lst rfl e1, ?_⟩
    refine h1 (B.add (.cel k, .ref y)) as0 σ H0 hn (C0.cf.add o0) _ fun r1 v1 M1 as1 H1 h2 C1 o1 => ?_
    refine h2 ((B.add (.cel k, .ref y)).add (r1, v1)) as1 σ H1 hn (C1.cf.add o1) _ fun r2 v2 M2 as2 H2 ⟨d, ds, i, ei, er, em, hl, g0, g1, p⟩ C2 o2 => ?_
    subst er
    have ev : v1 = .int i := rd_dv C2.cf C2.cf.top ei trivial
    subst ev
    have C2' := C2.pop
    obtain ⟨y', ey', ee⟩ := C2'.cf.top
    have ee : y = y' := by injection ee
    subst ee
    obtain ⟨vs, e2, dv⟩ := C2.cf.cells k y _ ey' em
    refine ⟨y, vs, i, v2, rfl, rfl, e2, by rw [← dv.length]; exact hl, g0, g1, ?_⟩
    have C3 := C2'.cf.pop.put (y := .lst (ds.take i.toNat ++ [d] ++ ds.drop i.toNat)) (o := .lst (vs.take i.toNat ++ [v2] ++ vs.drop i.toNat)) ey' em rfl rfl fun kp => ⟨_, upd_same, (((DVs.kp kp _ _ dv).take _).append (.one (DV.kp kp _ _ o2))).append ((DVs.kp kp _ _ dv).drop _)⟩
    exact q _ _ _ as2 _ p ⟨(C0.tr (C1.tr C2').pop).px, C3⟩ rfl
/-- xs.index(y), flat items -/
theorem ed_index (h : ED n X (env, M) o fun r0 M0 => ∃ ys : List V, rdD M0 r0 = some (.lst (ys.map ofV)) ∧ ys.all flatV = true ∧ ED n X (env, M0) a fun r1 M1 => ∃ y j z, rdD M1 r0 = some (.lst (ys.map ofV)) ∧ rdD M1 r1 = some (ofV y) ∧ flatV y = true ∧ ys[j]? = some z ∧ eqV z y = true ∧ (∀ (m : Nat) (z' : V), m < j → ys[m]? = some z' → eqV z' y = false) ∧ P (.dat (.int (j : Nat))) M1)
    (hbase : attributeBase o "index" X.env (eval o X.env) = eval o X.env := by rfl) (hline : (apos.endLine == pos.line) = true := by rfl) (he : starEach (a :: []) X.env = (false, eval a X.env) :: starEach [] X.env := by rfl)
    (hfew : ((backTo pos (starEach (a :: []) X.env)).all (fun x => !x.1) && (backToKw pos (keywordEach [] X.env)).all (fun x => x.1.isSome) && decide ((a :: []).length + ([] : List Keyword).length + (if ([] : List Keyword).isEmpty then 0 else 1) < 30)) = true := by rfl) (hplain : (backTo pos (starEach [] X.env)).any (·.1) = false := by rfl) :
    ED n X (env, M) (.Call (.Attribute o "index" apos) [a] [] pos) P :=
  ed_lift (pe_bm PySem.F.plainAttrs_list PySem.F.slot_list_index PySem.F.type_list_index mt_index wpE_ok (pa_cons wpE_ok pa_nil he) hbase hfew hline he hplain) fun B as σ H hn C Q q => by
    refine h B as σ H hn C _ fun r0 v0 M0 as0 H0 ⟨ys, e0, fl, h1⟩ C0 o0 => ?_
    obtain ⟨y0, vs0, rfl, e1, _⟩ := rd_lst C0.cf o0 e0
    refine ⟨tyV_lst rfl e1, ?_⟩
    refine h1 (B.add (r0, .ref y0)) as0 σ H0 hn (C0.cf.add o0) _ fun r1 v1 M1 as1 H1 ⟨y, j, z, e2, e3, fy, g1, g2, g3, p⟩ C1 o1 => ?_
    obtain ⟨y', vs, ee, e4, dv⟩ := rd_lst C1.cf C1.cf.top e2
    have ee : y0 = y' := by injection ee
    subst ee
    have ev := dvs_flat fl dv
    subst ev
    have d1 : DV X.K (Ne (B.add (r0, .ref y0)) as1 M1) H1 (ofV y) v1 := rd_dv C1.cf o1 e3 (by cases y <;> first | trivial | cases fy)
    have ev := dv_flat fy d1
    subst ev
    exact ⟨y0, vs, v1, j, z, rfl, rfl, SqL.of e4, fy, fl, g1, g2, g3, q _ _ M1 as1 H1 p (C0.tr C1.pop) rfl⟩
/-- in, not in: flat items -/
def fIn (neg : Bool) (r1 r2 : EI) (M : Mem) (P : PP) : Prop := ∃ (y : V) (ys : List V) (d : D), rdD M r1 = some (ofV y) ∧ rdD M r2 = some d ∧ seqOf d = some (ys.map ofV) ∧ flatV y = true ∧ ys.all flatV = true ∧ P (.dat (.bl (if neg then !inV y ys else inV y ys))) M
theorem od_in {neg : Bool} : OpD K (rIn K neg) (fIn neg) := by
  intro B as env M σ H r1 r2 v1 v2 Cf o1 o2 P ⟨y, ys, d, e1, e2, es, f1, f2, p⟩ Q q
  have d1 : DV K (Ne B as M) H (ofV y) v1 := rd_dv Cf o1 e1 (by cases y <;> first | trivial | cases f1)
  have ev := dv_flat f1 d1
  subst ev
  obtain ⟨a, vs, rfl, sq, dv⟩ := rd_seq Cf o2 e2 es
  have ev := dvs_flat f2 dv
  subst ev
  exact ⟨a, vs, rfl, sq, f1, f2, q _ _ M as H p Cf.g rfl⟩
theorem ed_in (h : ED n X (env, M) a fun r1 M1 => ED n X (env, M1) b fun r2 M2 => fIn false r1 r2 M2 P) (hm : behindInMarks .In b = false := by first | rfl | with_unfolding_all rfl) : ED n X (env, M) (.Compare a [.In] [b] pos) P := ed_cmpR op_in_seq od_in h hm
theorem td_in {P : Bool → Mem → Prop} (h : ED n X (env, M) a fun r1 M1 => ED n X (env, M1) b fun r2 M2 => fIn false r1 r2 M2 (isB P)) (hm : behindInMarks .In b = false := by first | rfl | with_unfolding_all rfl) : TD n X (env, M) (.Compare a [.In] [b] pos) P := td_cmpR op_in_seq od_in h hm
theorem ed_notin (h : ED n X (env, M) a fun r1 M1 => ED n X (env, M1) b fun r2 M2 => fIn true r1 r2 M2 P) (hm : behindInMarks .NotIn b = false := by first | rfl | with_unfolding_all rfl) : ED n X (env, M) (.Compare a [.NotIn] [b] pos) P := ed_cmpR op_notIn_seq od_in h hm
theorem td_notin {P : Bool → Mem → Prop} (h : ED n X (env, M) a fun r1 M1 => ED n X (env, M1) b fun r2 M2 => fIn true r1 r2 M2 (isB P)) (hm : behindInMarks .NotIn b = false := by first | rfl | with_unfolding_all rfl) : TD n X (env, M) (.Compare a [.NotIn] [b] pos) P := td_cmpR op_notIn_seq od_in h hm
/-- one sign in a text -/
def fSig (neg : Bool) (r1 r2 : EI) (M : Mem) (P : PP) : Prop := ∃ (c : Nat) (z : Str), rdD M r1 = some (.str ⟨#[c]⟩) ∧ rdD M r2 = some (.str z) ∧ P (.dat (.bl (if neg then !decide (c ∈ z.cps.toList) else decide (c ∈ z.cps.toList)))) M
theorem ed_inS (h : ED n X (env, M) a fun r1 M1 => ED n X (env, M1) b fun r2 M2 => fSig false r1 r2 M2 P) (hm : behindInMarks .In b = false := by first | rfl | with_unfolding_all rfl) : ED n X (env, M) (.Compare a [.In] [b] pos) P := ed_cmpR (F := fSig false) op_in_sign (fun B as env M σ H r1 r2 v1 v2 Cf o1 o2 P ⟨c, z, e1, e2, p⟩ Q q => by
  have d1 : v1 = .str ⟨#[c]⟩ := rd_dv Cf o1 e1 trivial
  have d2 : v2 = .str z := rd_dv Cf o2 e2 trivial
  exact ⟨c, z, d1, d2, q _ _ M as H p Cf.g rfl⟩) h hm
/-! ### stores -/
/-- xs[i] = e -/
theorem sd_setix {i : Expr} {pos' : Pos} (h : ED n X (env, M) e fun r M1 => ED n X (env, M1) o fun r0 M2 => ∃ k, r0 = .cel k ∧ ED n X (env, M2) i fun ri M3 => ∃ d ds j m, r = .dat d ∧ rdD M3 ri = some (.int j) ∧ M3[k]? = some (.lst ds) ∧ ixN ds.length j = some m ∧ nx (env, M3.set k (.lst (ds.set m d))))
    (ha : ∀ v, assign (.Subscript o i pos') X.env v = (do
      let ov ← holding [v] (eval o X.env)
      let iv ← holding [v, ov] (eval i X.env)
      standAt pos'
      holding [v, ov, iv] (setItem ov iv v)
      release [v, ov, iv] []) := by intro _; rfl)
    (hs : swapsWithSole [.Subscript o i pos'] e pos.line X.env = pure false := by rfl) (hw : swappedStores [.Subscript o i pos'] e X.env = pure none := by rfl) (h1 : (assignEach [.Subscript o i pos'] X.env).map (·.2) = [assign (.Subscript o i pos') X.env] := by rfl) :
    SD n X (env, M) (.Assign [.Subscript o i pos'] e pos) ⟨nx, rt, bk, ct⟩ := fun B as σ H hn C Dd w => wpS_of (ps_asg wpE_ok (pg_sub wpE_ok wpE_ok set_list ha) hs hw h1) (by
  refine h B as σ H hn C _ fun r v M1 as1 H1 h2 C1 o1 => ?_
  refine h2 (B.add (r, v)) as1 σ H1 hn (C1.cf.add o1) _ fun r0 v0 M2 as2 H2 ⟨k, e0, h3⟩ C2 o2 => ?_
  subst e0
  refine h3 ((B.add (r, v)).add (.cel k, v0)) as2 σ H2 hn (C2.cf.add o2) _ fun ri vi M3 as3 H3 ⟨d, ds, j, m, er, ei, em, ix, p⟩ C3 o3 => ?_
  subst er
  have ev : vi = .int j := rd_dv C3.cf o3 ei trivial
  subst ev
  obtain ⟨y, ey, rfl⟩ := C3.cf.top
  obtain ⟨vs, e2, dv⟩ := C3.cf.cells k y _ ey em
  have C3' := C3.pop
  refine ⟨y, vs, j, m, rfl, rfl, e2, by rw [← dv.length]; exact ix, ?_⟩
  have od := C3'.cf.top
  have C4 := C3'.cf.pop.put (y := .lst (ds.set m d)) (o := .lst (vs.set m v)) ey em rfl rfl fun kp => ⟨_, upd_same, DVs.set (DV.kp kp _ _ od) m (DVs.kp kp _ _ dv)⟩
  exact w.nx _ as3 σ _ p ⟨(C1.tr (C2.tr C3').pop).px, C4⟩)
/-- x op= e -/
theorem sd_aug {i : Nat} {ri : EI} {op : Operator} {r : R2} {F} {pos' : Pos} (ho : OpR X (inplaceOp op) r) (hF : OpD X.K r F) (hi' : env[i]? = some ri) (hu : ri ≠ .un) (h : ED n X (env, M) e fun r2 M2 => F ri r2 M2 fun r' M' => nx (env.set i r', M')) (hN : X.N.Nodup) (hi : X.N[i]? = some x := by rfl) (hx : Loc X.env.scope x := by first | exact Or.inl rfl | exact Or.inr rfl)
    (hf : X.fn x = true ∨ X.env.scope.names.lookup x = some .local := by first | exact .inl rfl | exact .inr rfl | assumption) : SD n X (env, M) (.AugAssign (.Name x pos') op e pos) ⟨nx, rt, bk, ct⟩ := fun B as σ H hn C Dd w => wpS_of (ps_aug hN hi hx wpE_ok ho hf) (by
  obtain ⟨v, ev, ov⟩ := vok_var C hi' hu
  refine ⟨v, ev, ?_⟩
  refine h (B.add (ri, v)) as σ H hn (C.add ov) _ fun r2 v2 M2 as2 H2 f C2 o2 => ?_
  refine hF B as2 env M2 σ H2 ri r2 v v2 C2.cf.pop C2.cf.top o2 _ f _ fun r' v' M' as' H' p C3 o3 => ?_
  exact w.nx _ as' _ H' p ⟨(C2.pop.tr C3).px, C3.cf.setv o3⟩)
theorem sd_iadd {i : Nat} {j : Int} {pos' : Pos} (hi' : env[i]? = some (.dat (.int j))) (h : ED n X (env, M) e fun r2 M2 => ∃ k, rdD M2 r2 = some (.int k) ∧ nx (env.set i (.dat (.int (j + k))), M2)) (hN : X.N.Nodup) (hi : X.N[i]? = some x := by rfl) (hx : Loc X.env.scope x := by first | exact Or.inl rfl | exact Or.inr rfl)
    (hf : X.fn x = true ∨ X.env.scope.names.lookup x = some .local := by first | exact .inl rfl | exact .inr rfl | assumption) : SD n X (env, M) (.AugAssign (.Name x pos') .Add e pos) ⟨nx, rt, bk, ct⟩ :=
  sd_aug iop_add od_I0 hi' (by intro z; cases z) (ed_imp h fun r M ⟨k, e, p⟩ => ⟨j, k, rfl, e, trivial, p⟩) hN hi hx hf
theorem sd_ifdiv {i : Nat} {j : Int} {pos' : Pos} (hi' : env[i]? = some (.dat (.int j))) (h : ED n X (env, M) e fun r2 M2 => ∃ k, rdD M2 r2 = some (.int k) ∧ CDivX j k ∧ nx (env.set i (.dat (.int (j.fdiv k))), M2)) (hN : X.N.Nodup) (hi : X.N[i]? = some x := by rfl) (hx : Loc X.env.scope x := by first | exact Or.inl rfl | exact Or.inr rfl)
    (hf : X.fn x = true ∨ X.env.scope.names.lookup x = some .local := by first | exact .inl rfl | exact .inr rfl | assumption) : SD n X (env, M) (.AugAssign (.Name x pos') .FloorDiv e pos) ⟨nx, rt, bk, ct⟩ :=
  sd_aug iop_fdivX od_I hi' (by intro z; cases z) (ed_imp h fun r M ⟨k, e, c, p⟩ => ⟨j, k, rfl, e, c, p⟩) hN hi hx hf
theorem get_list : PGet X (rIxL X.K) := by
  intro pins s σ H o i ov iv Q I ro ri h
  obtain ⟨p, xs, j, z, rfl, rfl, hq, he, q⟩ := h
  cases ro
  obtain ⟨t, rfl⟩ := ri
  obtain ⟨its, r, pl, hz⟩ := I.list hq
  obtain ⟨m, h1, h2, h3, h4, h5⟩ := atI_get he
  obtain ⟨w, ew, rw'⟩ := r.get h2
  have hl := r.length
  have hn := line63
  have fin : EP X pins σ Q w s := ⟨z, H, I, rw', q⟩
  by_cases h0 : 0 ≤ j
  · have hj : j.toNat = m := by
      rw [seqIndex_of h0 h5] at h1
      exact Option.some.inj h1
    exact wpAny_getItem_list pl.isList h0 (by omega) (by rw [hj]; simpa using ew) fin
  · have hj : (j + (its.toArray.size : Int)).toNat = m := by
      rw [seqIndex_neg (by omega) h4] at h1
      rw [List.size_toArray, ← hl]
      exact Option.some.inj h1
    exact wpAny_getItem_list_neg pl.isList (by omega) (by rw [List.size_toArray] <;> omega) (by omega) (by rw [hj]; simpa using ew) fin
/-- xs[i] += e -/
theorem sd_iaddix {i : Expr} {pos' : Pos} (h : ED n X (env, M) o fun r0 M1 => ∃ k, r0 = .cel k ∧ ED n X (env, M1) i fun ri M2 => ∃ j ds u m, rdD M2 ri = some (.int j) ∧ M2[k]? = some (.lst ds) ∧ ixN ds.length j = some m ∧ ds[m]? = some (.int u) ∧ ED n X (env, M2) e fun r M3 => ∃ d, rdD M3 r = some (.int d) ∧ M3[k]? = some (.lst ds) ∧ nx (env, M3.set k (.lst (ds.set m (.int (u + d))))))
    (ha : ∀ ov iv new, augStore i ov iv new = (do holding [new, ov, iv] (setItem ov iv new); release [new, ov, iv] []; pure .next) := by intros; rfl) : SD n X (env, M) (.AugAssign (.Subscript o i pos') .Add e pos) ⟨nx, rt, bk, ct⟩ := fun B as σ H hn C Dd w => wpS_of (ps_augS wpE_ok wpE_ok get_list wpE_ok ip_add set_list ha) (by
  refine h B as σ H hn C _ fun r0 v0 M1 as1 H1 ⟨k, e0, h2⟩ C1 o1 => ?_
  subst e0
  refine h2 (B.add (.cel k, v0)) as1 σ H1 hn (C1.cf.add o1) _ fun ri vi M2 as2 H2 ⟨j, ds, u, m, ei, em, ix, eu, h3⟩ C2 o2 => ?_
  have ev : vi = .int j := rd_dv C2.cf o2 ei trivial
  subst ev
  obtain ⟨y, ey, rfl⟩ := C2.cf.top
  obtain ⟨vs, e2, dv⟩ := C2.cf.cells k y _ ey em
  obtain ⟨vu, e3, du⟩ := dv.get eu
  have ev : vu = .int u := du
  subst ev
  refine ⟨y, vs, j, .int u, rfl, rfl, SqL.of e2, ?_, ?_⟩
  · unfold L2.atI
    rw [← dv.length, ix]
    exact e3
  refine h3 (B.add (.cel k, .ref y)) as2 σ H2 hn C2.cf _ fun r v M3 as3 H3 ⟨d, ed, em3, p⟩ C3 o3 => ?_
  have ev : v = .int d := rd_dv C3.cf o3 ed trivial
  subst ev
  obtain ⟨y', ey', ee⟩ := C3.cf.top
  have ee : y = y' := by injection ee
  subst ee
  obtain ⟨vs', e4, dv'⟩ := C3.cf.cells k y _ ey' em3
  refine ⟨u, d, rfl, rfl, y, vs', j, m, rfl, rfl, e4, by rw [← dv'.length]; exact ix, ?_⟩
  have C4 := C3.cf.pop.put (y := .lst (ds.set m (.int (u + d)))) (o := .lst (vs'.set m (.int (u + d)))) ey' em3 rfl rfl fun kp => ⟨_, upd_same, DVs.set (d := .int (u + d)) rfl m (DVs.kp kp _ _ dv')⟩
  exact w.nx _ as3 σ _ p ⟨(C1.tr (C2.pop.tr C3.pop)).px, C4⟩)
theorem putF_new {f : Str} {y : V} : ∀ {gs : List (Str × V)}, f ∉ gs.map (·.1) → putF f y gs = gs ++ [(f, y)]
  | [], _ => rfl
  | (g, x) :: r, h => by
    simp only [List.map_cons, List.mem_cons, not_or] at h
    show (if g = f then (g, y) :: r else (g, x) :: putF f y r) = _
    rw [if_neg (fun z => h.1 z.symm), putF_new h.2]
    rfl
/-- self.f = e, a field that is not there yet -/
theorem sd_fldN {f : Str} {C : Addr} {pos' : Pos} (cl : Cls X.K C) (na : NoAttr X.K C f) (h : ED n X (env, M) e fun r M1 => ED n X (env, M1) o fun r0 M2 => ∃ d k fs ds, r = .dat d ∧ r0 = .cel k ∧ M2[k]? = some (.ins C fs ds) ∧ f ∉ fs ∧ fs.length < 1000 ∧ nx (env, M2.set k (.ins C (fs ++ [f]) (ds ++ [d]))))
    (hs : swapsWith e (some (.Attribute o f pos')) pos.line X.env = pure false := by rfl) : SD n X (env, M) (.Assign [.Attribute o f pos'] e pos) ⟨nx, rt, bk, ct⟩ := fun B as σ H hn Cc Dd w => wpS_of (ps_fld wpE_ok wpE_ok hs) (by
  refine h B as σ H hn Cc _ fun r v M1 as1 H1 h2 C1 o1 => ?_
  refine h2 (B.add (r, v)) as1 σ H1 hn (C1.cf.add o1) _ fun r0 v0 M2 as2 H2 ⟨d, k, fs, ds, er, e0, em, nf, hl, p⟩ C2 o2 => ?_
  subst er
  subst e0
  obtain ⟨y, ey, rfl⟩ := o2
  obtain ⟨dx, gs, e2, e3, dv⟩ := C2.cf.cells k y _ ey em
  refine ⟨y, C, dx, gs, rfl, e2, cl, na, by rw [← e3, List.length_map] at hl; exact hl, ?_⟩
  have od := C2.cf.top
  rw [putF_new (by rw [e3]; exact nf)]
  have C4 := C2.cf.pop.put (y := .ins C (fs ++ [f]) (ds ++ [d])) (o := .ins C dx (gs ++ [(f, v)])) ey em rfl rfl fun kp => ⟨dx, _, upd_same, by simp [e3], by
    rw [List.map_append]
    exact (DVs.kp kp _ _ dv).append (.one (DV.kp kp _ _ od))⟩
  exact w.nx _ as2 σ _ p ⟨(C1.tr C2.pop).px, C4⟩)
/-! ### dicts -/
def valD : List Key → List D → Key → Option D
  | k' :: ks, d :: ds, k => if k' = k then some d else valD ks ds k
  | _, _, _ => none
def putDs : List Key → List D → Key → D → List D
  | k' :: ks, x :: ds, k, d => (if k' = k then d else x) :: putDs ks ds k d
  | _, ds, _, _ => ds
def putKey (ks : List Key) (k : Key) : List Key := if ks.any (fun k' => decide (k' = k)) = true then ks else ks ++ [k]
def putVal (ks : List Key) (ds : List D) (k : Key) (d : D) : List D := if ks.any (fun k' => decide (k' = k)) = true then putDs ks ds k d else ds ++ [d]
theorem val_get {N : Addr → Prop} {k : Key} {d : D} : ∀ {kvs : List (Key × V)} {ds : List D}, DVs K N H ds (kvs.map (·.2)) → valD (kvs.map (·.1)) ds k = some d → ∃ v, valV kvs k = some v ∧ DV K N H d v
  | [], ds, h, e => by simp [valD] at e
  | (k', v) :: kvs, ds, h, e => by
    cases ds with
    | nil => simp [valD] at e
    | cons d' ds =>
      obtain ⟨v', r, e1, a, t⟩ := h
      have e2 : v = v' := (List.cons.inj e1).1
      have e3 : kvs.map (·.2) = r := (List.cons.inj e1).2
      subst e2
      rw [← e3] at t
      rw [List.map_cons, valD] at e
      by_cases hk : k' = k
      · rw [if_pos hk] at e
        cases e
        exact ⟨v, valV_pos hk, a⟩
      · rw [if_neg hk] at e
        obtain ⟨u, e4, q⟩ := val_get t e
        exact ⟨u, (valV_neg (p := (k', v)) hk).trans e4, q⟩
theorem val_none {k : Key} : ∀ {kvs : List (Key × V)}, k ∉ kvs.map (·.1) → valV kvs k = none
  | [], _ => rfl
  | (k', v) :: kvs, h => by
    simp only [List.map_cons, List.mem_cons, not_or] at h
    exact (valV_neg (p := (k', v)) fun z => h.1 z.symm).trans (val_none h.2)
theorem putDs_dvs {N : Addr → Prop} {k : Key} {d : D} {v : V} (hv : DV K N H d v) : ∀ {kvs : List (Key × V)} {ds : List D}, DVs K N H ds (kvs.map (·.2)) → DVs K N H (putDs (kvs.map (·.1)) ds k d) ((kvs.map fun kv => if kv.1 = k then (kv.1, v) else kv).map (·.2))
  | [], ds, h => by
    have z : ds = [] := by
      cases ds with
      | nil => rfl
      | cons => obtain ⟨_, _, e, _⟩ := h; cases e
    subst z
    exact .nil
  | (k', u) :: kvs, ds, h => by
    cases ds with
    | nil =>
      have z : u :: kvs.map (·.2) = [] := h
      cases z
    | cons d' ds =>
      obtain ⟨v', r, e1, a, t⟩ := h
      have e2 : u = v' := (List.cons.inj e1).1
      have e3 : kvs.map (·.2) = r := (List.cons.inj e1).2
      subst e2
      rw [← e3] at t
      simp only [List.map_cons, putDs]
      by_cases hk : k' = k
      · rw [if_pos hk, if_pos hk]
        exact .cons hv (putDs_dvs hv t)
      · rw [if_neg hk, if_neg hk]
        exact .cons a (putDs_dvs hv t)
theorem put_dvs {N : Addr → Prop} {k : Key} {d : D} {v : V} (hv : DV K N H d v) {kvs : List (Key × V)} {ks : List Key} {ds : List D} (e : kvs.map (·.1) = ks) (h : DVs K N H ds (kvs.map (·.2))) : (putK kvs k v).map (·.1) = putKey ks k ∧ DVs K N H (putVal ks ds k d) ((putK kvs k v).map (·.2)) := by
  subst e
  unfold putK putKey putVal
  have ea : (kvs.any fun kv => decide (kv.1 = k)) = ((kvs.map (·.1)).any fun k' => decide (k' = k)) := by
    rw [List.any_map]
    rfl
  rw [← ea]
  by_cases hc : (kvs.any fun kv => decide (kv.1 = k)) = true
  · rw [if_pos hc, if_pos hc, if_pos hc]
    refine ⟨?_, putDs_dvs hv h⟩
    rw [List.map_map]
    refine List.map_congr_left fun kv _ => ?_
    show (if kv.1 = k then (kv.1, v) else kv).1 = kv.1
    split <;> rfl
  · rw [if_neg hc, if_neg hc, if_neg hc]
    refine ⟨by simp, ?_⟩
    rw [List.map_append]
    exact h.append (.one hv)
def keyD : Key → D
  | .inl i => .int i
  | .inr x => .str x
theorem dv_key {N : Addr → Prop} {k : Key} {v : V} (h : DV K N H (keyD k) v) : v = kV k := by
  cases k with
  | inl i => exact h
  | inr i => exact h
theorem rd_key {r : EI} {v : V} {k : Key} (Cf : CF K B as (env, M) σ H) (o : VOk K (Ne B as M) H as r v) (e : rdD M r = some (keyD k)) : v = kV k := dv_key (rd_dv Cf o e (by cases k <;> trivial))
/-- d[k] -/
theorem ed_dget {i : Expr} (hu : X.A.units + 64 < cLine) (h : ED n X (env, M) o fun r0 M1 => ED n X (env, M1) i fun ri M2 => ∃ ks ds k d, rdD M2 r0 = some (.dic ks ds) ∧ rdD M2 ri = some (keyD k) ∧ valD ks ds k = some d ∧ P (.dat d) M2) (hs : NoSl i := by exact fun _ _ => rfl) : ED n X (env, M) (.Subscript o i pos) P :=
  ed_lift (pe_dget (by omega) wpE_ok wpE_ok hs) fun B as σ H hn C Q q => by
    refine h B as σ H hn C _ fun r0 v0 M1 as1 H1 h1 C1 o1 => ?_
    refine h1 (B.add (r0, v0)) as1 σ H1 hn (C1.cf.add o1) _ fun ri vi M2 as2 H2 ⟨ks, ds, k, d, e0, ei, ev, p⟩ C2 o2 => ?_
    obtain ⟨y, kvs, rfl, e1, e2, dv⟩ := rd_dic C2.cf C2.cf.top e0
    subst e2
    obtain ⟨v, e3, dv1⟩ := val_get dv ev
    refine ⟨y, v, rfl, ?_, q _ v M2 as2 H2 p (C1.tr C2.pop) dv1⟩
    rw [rd_key C2.cf o2 ei, ← e3]
    exact .inl ⟨kvs, k, e1, rfl, rfl⟩
theorem tsu_one {P : Bool → Mem → Prop} (h : ∀ s H C cl fp, TD n (Cx.bk X scope s H C cl fp) c e P) : TsDu n X scope c [e] P := fun s H C cl fp => tsd_one (h s H C cl fp)
/-- what a dict comprehension asks; keys ints or texts -/
def DcBody (n : Nat) (X : Cx) (scope : Scope) (t : Tg) (vs : List Nat) (env : EnvD) (kx vx : Expr) (ifs : List Expr) (P : D → Mem → Prop) (items : List D) (S : Mem → Prop) (M1 : Mem) : Prop :=
  ∃ I : Nat → Mem → List Key → List D → Prop, I 0 M1 [] [] ∧
    (∀ i M2 ks ds d, items[i]? = some d → I i M2 ks ds → S (M2 ++ [.dic ks ds]) ∧ ∃ env', t.setE d (wipeE env vs) = some env' ∧
      TsDu n X scope (env', M2 ++ [.dic ks ds]) ifs fun b M3 => (b = true → EDu n X scope (env', M3) kx fun rk M4 => EDu n X scope (env', M4) vx fun r M5 => ∃ k d' M6, rdD M5 rk = some (keyD k) ∧ r = .dat d' ∧ M5 = M6 ++ [.dic ks ds] ∧ M6.length = M2.length ∧ ds.length < sizeLine ∧ I (i + 1) M6 (putKey ks k) (putVal ks ds k d')) ∧
        (b = false → ∃ M6, M3 = M6 ++ [.dic ks ds] ∧ M6.length = M2.length ∧ I (i + 1) M6 ks ds)) ∧
    (∀ M2 ks ds, I items.length M2 ks ds → S (M2 ++ [.dic ks ds]) ∧ P (.dic ks ds) M2)
def DcD (n : Nat) (X : Cx) (scope : Scope) (t : Tg) (vs : List Nat) (env : EnvD) (M : Mem) (kx vx tg iter : Expr) (ifs : List Expr) (P : D → Mem → Prop) : Prop :=
  ID n X (env, M) tg iter (DcBody n X scope t vs env kx vx ifs P)
theorem dc_run {kx vx tg iter : Expr} {ifs : List Expr} {t : Tg} {vs : List Nat} {P : D → Mem → Prop} (hsl : ∀ i ∈ t.slots, i ∈ vs) (h : DcD n X scope t vs env M kx vx tg iter ifs P)
    (hn : B.A0.length = n) (Cf : CF X.K B as (env, M) σ H) {Q : VK} (q : ∀ d p M' as' H', P d M' → CG X.K B as as' (env, M') σ H' → DV X.K (Ne B as' M') H' d (.ref p) → CF X.K B (as' ++ [p]) (env, M' ++ [cellOf d]) σ H' → Q (.ref p) H') :
    tDc (wpI X tg iter) (t.g X.K) (fun σ H Q => ∀ s H0 C cl fp, wpTs (Cx.bk X scope s H0 C cl fp) ifs σ H Q) (fun σ H Q => ∀ s H0 C cl fp, wpE (Cx.bk X scope s H0 C cl fp) kx σ H Q) (fun σ H Q => ∀ s H0 C cl fp, wpE (Cx.bk X scope s H0 C cl fp) vx σ H Q) vs σ H Q := by
  refine h B as σ H hn Cf _ fun items S G M1 as1 H1 J ⟨I, i0, ist, iend⟩ C1 wk D hD => ?_
  have a3 : CF X.K (B.gs G) (as1 ++ [D]) (env, M1 ++ [.dic [] []]) σ (upd H1 D (.dK [])) := C1.cf.new hD (fun _ => ⟨[], upd_same, rfl, .nil⟩) (fun z => by cases z)
  refine ⟨fun i m H => i ≤ items.length ∧ m = items.length - i ∧ ∃ M2 ks ds, I i M2 ks ds ∧ M2.length = M1.length ∧ CF X.K (B.gs G) (as1 ++ [D]) (env, M2 ++ [.dic ks ds]) σ H, ⟨_, Nat.zero_le _, rfl, M1, [], [], i0, rfl, a3⟩, fun i m H2 ⟨hi, hm, M2, ks, ds, i2, hl2, C2⟩ => ?_⟩
  have CG2 : CG X.K (B.gs G) as1 (as1 ++ [D]) (env, M2 ++ [.dic ks ds]) σ H2 := ⟨List.prefix_append _ _, C2⟩
  have l2 : as1.length = M2.length := by
    have := C2.len
    simp at this
    exact this
  by_cases hlt : i < items.length
  · obtain ⟨d, hd⟩ : ∃ d, items[i]? = some d := ⟨_, List.getElem?_eq_getElem hlt⟩
    obtain ⟨s2, env', e', ht⟩ := ist i M2 ks ds d hd i2
    obtain ⟨go, yl⟩ := (wk.ok _ _ σ H2 CG2 s2 i).2 d hd
    refine .inr ⟨go, fun H' => ∃ M2 ks ds, I (i + 1) M2 ks ds ∧ M2.length = M1.length ∧ CF X.K (B.gs G) (as1 ++ [D]) (env, M2 ++ [.dic ks ds]) σ H', fun H' ⟨M5, ks', ds', ic, hl5, Cc⟩ => ⟨items.length - (i + 1), by omega, hlt, rfl, M5, ks', ds', ic, hl5, Cc⟩, fun x H3 hy => ?_⟩
    obtain ⟨gr, dv⟩ := yl x H3 hy
    have C3 := C2.grow gr
    obtain ⟨σ4, h1, h2, hw⟩ := Tg.run (C3.keep.wipe vs) dv e'
    refine h1 _ ⟨(hw vs hsl).trans (wipe_wipe vs fun _ z => z), fun s H0 C cl fp => ?_⟩
    refine ht s H0 C cl fp ((B.gs G).gs (gho env σ)) (as1 ++ [D]) σ4 H3 hn h2 _ fun b M3 as3 H4 ⟨htr, hfa⟩ C4 => ?_
    have fin : ∀ {M5 : Mem} {as4 : List Addr} {H5 : Hp} {y : Cell}, M5.length = M2.length → CG X.K ((B.gs G).gs (gho env σ)) (as1 ++ [D]) as4 (env', M5 ++ [y]) σ4 H5 → as4 = as1 ++ [D] := fun {M5 as4 H5 acc'} hl C5 => by
      have l1 : as4.length = M5.length + 1 := by simpa using C5.cf.len
      exact (C5.px.eq_of_length (by simp; omega)).symm
    cases b with
    | false =>
      obtain ⟨M5, rfl, hl5, i5⟩ := hfa rfl
      refine iteF ⟨M5, ks, ds, i5, hl5.trans hl2, ?_⟩
      have e3 := fin hl5 C4
      subst e3
      exact C3.back C4.cf
    | true =>
      refine iteT fun s H0 C cl fp => ?_
      refine htr rfl s H0 C cl fp ((B.gs G).gs (gho env σ)) as3 σ4 H4 hn C4.cf _ fun rk yk M4 as4 H5 hv C5 o5 => ?_
      intro s H0 C cl fp
      refine hv s H0 C cl fp (((B.gs G).gs (gho env σ)).add (rk, yk)) as4 σ4 H5 hn (C5.cf.add o5) _ fun r y M5 as5 H6 ⟨k, d', M6, ek, er, eM, hl5, hz, i5⟩ C6 o6 => ?_
      subst er
      subst eM
      have ek' := rd_key C6.cf C6.cf.top ek
      have C6' := C6.pop
      have e4 := fin hl5 (C4.tr (C5.tr C6'))
      subst e4
      have C7 := C3.back C6'.cf
      have l5 : as1.length = M6.length := by omega
      have eD : (as1 ++ [D])[M6.length]? = some D := by rw [← l5]; exact get_last _ _
      have eM : (M6 ++ [Cell.dic ks ds])[M6.length]? = some (.dic ks ds) := get_last _ _
      obtain ⟨kvs, e6, e7, w6⟩ := C7.cells M6.length D _ eD eM
      have hlen : ds.length = kvs.length := by simpa using w6.length
      refine ⟨kvs, k, ek', e6, by rw [← hlen]; exact hz, M6, _, _, i5, hl5.trans hl2, ?_⟩
      have C8 := C7.put (y := .dic (putKey ks k) (putVal ks ds k d')) (o := .dK (putK kvs k y)) eD eM rfl rfl fun kp => ⟨_, upd_same, put_dvs (DV.kp kp _ _ o6) e7 (DVs.kp kp _ _ w6)⟩
      rw [set_last] at C8
      exact C8
  · have hi' : i = items.length := by omega
    subst hi'
    obtain ⟨s2, pq⟩ := iend M2 ks ds i2
    refine .inl ⟨(wk.ok _ _ σ H2 CG2 s2 _).1 rfl, ?_⟩
    have C2' := C2.popG
    have C8 := CF.drop C1.cf.popG C2'
    refine q _ D M2 as1 H2 pq ⟨C1.px, C8⟩ ?_ C2'
    have eD : (as1 ++ [D])[M2.length]? = some D := by rw [← l2]; exact get_last _ _
    have eM : (M2 ++ [Cell.dic ks ds])[M2.length]? = some (.dic ks ds) := get_last _ _
    obtain ⟨us, e6, e7, w6⟩ := C2'.cells M2.length D _ eD eM
    have ne : ∀ a, Ne B as1 M2 a → Ne B (as1 ++ [D]) (M2 ++ [.dic ks ds]) a := fun a z => by
      rcases z with z | ⟨k, x, e1, e2, lv⟩
      · exact .inl z
      · refine .inr ⟨k, x, ?_, ?_, lv⟩
        · rw [List.getElem?_append_left (List.getElem?_eq_some_iff.mp e1).1]
          exact e1
        · rw [List.getElem?_append_left (List.getElem?_eq_some_iff.mp e2).1]
          exact e2
    refine ⟨D, us, rfl, fun z => ?_, .inl e6, e7, w6.mono ne⟩
    rcases z with z | ⟨k, x, e1, e2, lv⟩
    · have : H1 D ≠ none := C1.cf.n0 D z
      exact this hD
    · exact C1.cf.a0 D (List.mem_of_getElem? e1) hD
theorem en_dc {kx vx tg iter : Expr} {ifs : List Expr} {t : Tg} {own : List (Str × Nat)} {P : D → Mem → Prop} (hN : X.N.Nodup) (ok : BlkOk X.N X.env.scope scope own)
    (ht : ∀ s H C cl fp, PG (Cx.bk X scope s H C cl fp) tg (t.g X.K)) (h : DcD n X scope t (own.map (·.2)) env M kx vx tg iter ifs P) (hsl : ∀ i ∈ t.slots, i ∈ own.map (·.2) := by decide)
    (hc : X.calm = true := by rfl) (hs : ∀ x, foldedSetIterable iter X.env x = pure x := by exact fun _ => rfl) : EN n X (env, M) (.DictComp kx vx [⟨tg, iter, ifs, 0⟩] scope pos) P := fun B as σ H hn C Q q =>
  wpE_of (pe_dc hc hN wpI_ok ok ht (fun s H C cl fp => ⟨fun pins s' σ' H' Q' I' h' => h' s H C cl fp pins s' I'⟩) (fun s H C cl fp => ⟨fun pins s' σ' H' Q' I' h' => h' s H C cl fp pins s' I'⟩) (fun s H C cl fp => ⟨fun pins s' σ' H' Q' I' h' => h' s H C cl fp pins s' I'⟩) hs) (dc_run hsl h hn C q)
end
end Dl
set_option Elab.async false
set_option linter.all false
set_option maxRecDepth 100000
set_option maxHeartbeats 2000000
/-! Dl part 9: forgetting names; loops and comprehensions in the forms one uses. -/
namespace Dl
open PySem L2 PyProof.Rows

def Fgt : EnvD → EnvD → Prop
  | [], [] => True
  | e0 :: r0, e :: r => (e0 = e ∨ e0 = .un) ∧ Fgt r0 r
  | _, _ => False
theorem Fgt.refl : ∀ e : EnvD, Fgt e e
  | [] => trivial
  | _ :: r => ⟨.inl rfl, Fgt.refl r⟩
theorem Fgt.len : ∀ {e0 e : EnvD}, Fgt e0 e → e0.length = e.length
  | [], [], _ => rfl
  | _ :: _, _ :: _, h => by simp [Fgt.len h.2]
  | [], _ :: _, h => h.elim
  | _ :: _, [], h => h.elim
theorem Fgt.get : ∀ {e0 e : EnvD} {i : Nat} {x : EI}, Fgt e0 e → e0[i]? = some x → x = .un ∧ i < e.length ∨ e[i]? = some x
  | [], [], _, _, _, h => by simp at h
  | a :: r0, b :: r, 0, x, h, e => by
    simp at e
    subst e
    rcases h.1 with z | z
    · exact .inr (by simp [z])
    · exact .inl ⟨z, by simp⟩
  | a :: r0, b :: r, i + 1, x, h, e => by
    rcases Fgt.get (i := i) h.2 (by simpa using e) with ⟨z, l⟩ | z
    · exact .inl ⟨z, by simpa using l⟩
    · exact .inr (by simpa using z)
  | [], _ :: _, _, _, h, _ => h.elim
  | _ :: _, [], _, _, h, _ => h.elim
section
variable {K : PySem.W.Frag} {B : Bs} {as : List Addr} {σ : L2.St} {H H' : Hp}
variable {X : Cx} {n : Nat} {env : EnvD} {M : Mem} {c : Conf} {P : PP} {e a b o : Expr} {es : List Expr} {pos apos p : Pos} {k : Nat} {x m : Str} {F : Ct} {C : Addr} {nx : Conf → Prop} {rt : Bool → D → Mem → Prop} {bk ct : Conf → Prop} {scope : Scope}
theorem ev (i : Nat) {x : Str} {r : EI} (h : env[i]? = some r) (p : P r M) (hr : r ≠ .un := by intro z; cases z) (hN : X.N[i]? = some x := by rfl) (hv : Vis X.env.scope x := by first | exact Or.inl rfl | exact Or.inr (Or.inl rfl) | exact Or.inr (Or.inr rfl)) (hd : (x == ("__debug__" : Str)) = false := by decide) (hcd : (x == ("__classdict__" : Str)) = false := by decide) : ED n X (env, M) (.Name x pos) P := ed_var h hr p hN hv hd hcd
theorem CF.fgt {e0 : EnvD} (h : CF K B as (env, M) σ H) (f : Fgt e0 env) : CF K B as (e0, M) σ H :=
  ⟨h.len, h.nd, h.nb, h.n0, h.a0, h.pre, h.cells, h.sl.trans f.len.symm, fun i x z => by
    rcases f.get z with ⟨rfl, l⟩ | z
    · have hs : σ.length = env.length := h.sl
      exact ⟨_, List.getElem?_eq_getElem (by omega), trivial⟩
    · exact h.slots i x z, h.frame, h.fresh, h.gh⟩
theorem CG.fgt {e0 : EnvD} {as'} (h : CG K B as as' (env, M) σ H) (f : Fgt e0 env) : CG K B as as' (e0, M) σ H := ⟨h.px, h.cf.fgt f⟩
/-- up to forgotten names -/
def UpF (I : Conf → Prop) : Conf → Prop := fun c => ∃ e0, Fgt e0 c.1 ∧ I (e0, c.2)
theorem UpF.of {I : Conf → Prop} {c : Conf} (h : I c) : UpF I c := ⟨c.1, Fgt.refl _, h⟩
theorem UpF.by {I : Conf → Prop} {e0 : EnvD} (i : I (e0, M)) (f : Fgt e0 env) : UpF I (env, M) := ⟨e0, f, i⟩
theorem sds_upf {sts : List Stmt} {I : Conf → Prop} (hc : UpF I c) (h : ∀ c, I c → SDs n X c sts ⟨nx, rt, bk, ct⟩) : SDs n X c sts ⟨nx, rt, bk, ct⟩ := fun B as σ H hn C Dd w => by
  obtain ⟨e0, f, i⟩ := hc
  exact h _ i B as σ H hn (C.fgt f) Dd w
/-- a word behind a statement, up to forgotten names -/
theorem sds_cutF {st : Stmt} {rest : List Stmt} (I : Conf → Prop) (h : SD n X c st ⟨UpF I, rt, bk, ct⟩) (h2 : ∀ c, I c → SDs n X c rest ⟨nx, rt, bk, ct⟩) : SDs n X c (st :: rest) ⟨nx, rt, bk, ct⟩ := sds_cut (UpF I) h fun c hc => sds_upf hc h2
/-- what a name holds lies among the first k cells -/
def EIin (k : Nat) : EI → Prop
  | .cel j => j < k
  | .spn _ _ j => j < k
  | _ => True
theorem VOk.cut {N N' : Addr → Prop} {H : Hp} {as : List Addr} {k : Nat} {e : EI} {v : V} (hn : ∀ a, N' a → N a) (i : EIin k e) (h : VOk K N H as e v) : VOk K N' H (as.take k) e v := by
  cases e with
  | un => trivial
  | dat d => exact DV.mono hn h
  | cel j =>
    obtain ⟨a, e1, e2⟩ := h
    exact ⟨a, by rw [List.getElem?_take_of_lt i]; exact e1, e2⟩
  | spn C f j =>
    obtain ⟨x, dx, a, e1, nx, e2, e3⟩ := h
    exact ⟨x, dx, a, e1, fun z => nx (hn _ z), e2, by rw [List.getElem?_take_of_lt i]; exact e3⟩
theorem VOk.inn {N : Addr → Prop} {H : Hp} {as : List Addr} {e : EI} {v : V} (h : VOk K N H as e v) : EIin as.length e := by
  cases e with
  | un => trivial
  | dat d => trivial
  | cel j =>
    obtain ⟨a, e1, _⟩ := h
    exact (List.getElem?_eq_some_iff.mp e1).1
  | spn C f j =>
    obtain ⟨x, dx, a, _, _, _, e3⟩ := h
    exact (List.getElem?_eq_some_iff.mp e3).1
theorem EIin.mono {j k : Nat} {e : EI} (h : EIin j e) (l : j ≤ k) : EIin k e := by
  cases e with
  | un => trivial
  | dat d => trivial
  | cel j => exact Nat.lt_of_lt_of_le h l
  | spn C f j => exact Nat.lt_of_lt_of_le h l
/-- the cells from M0 on are forgotten -/
theorem CG.gc {as1 : List Addr} {env1 e0 : EnvD} {Ms M0 M1 : Mem} {σ1 : L2.St} {H1 : Hp} (C1 : CF K B as1 (env1, Ms) σ1 H1) {as' : List Addr} (h : CG K B as1 as' (env, M0 ++ M1) σ H) (f : Fgt e0 env) (hl : Ms.length ≤ M0.length) (hr : ∀ e ∈ e0, EIin M0.length e) : CG K B as1 (as'.take M0.length) (e0, M0) σ H := by
  have C := h.cf.fgt f
  have l1 : as1.length = Ms.length := C1.len
  have l2 : as'.length = M0.length + M1.length := by
    have := C.len
    simpa using this
  have ne : ∀ a, Ne B (as'.take M0.length) M0 a → Ne B as' (M0 ++ M1) a := fun a z => by
    rcases z with z | ⟨k, x, e1, e2, lv⟩
    · exact .inl z
    · have hk : k < M0.length := (List.getElem?_eq_some_iff.mp e2).1
      rw [List.getElem?_take_of_lt hk] at e1
      exact .inr ⟨k, x, e1, by rw [List.getElem?_append_left hk]; exact e2, lv⟩
  have px : as1 <+: as'.take M0.length := by
    obtain ⟨r, er⟩ := h.px
    refine ⟨r.take (M0.length - as1.length), ?_⟩
    rw [← er, List.take_append, List.take_of_length_le (l := as1) (by omega)]
  refine ⟨px, { len := by rw [List.length_take]; show min _ _ = M0.length; omega, nd := C.nd.sublist (List.take_sublist _ _), nb := C.nb, n0 := C.n0, a0 := fun a z => C.a0 a (List.mem_of_mem_take z), pre := C1.pre.trans px, cells := fun k a x e1 e2 => ?_, sl := C.sl, slots := fun i e z => ?_, frame := C.frame, fresh := fun k a e hk => ?_, gh := fun g hg => ?_ }⟩
  · have e2 : M0[k]? = some x := e2
    have hk : k < M0.length := (List.getElem?_eq_some_iff.mp e2).1
    rw [List.getElem?_take_of_lt hk] at e1
    refine (C.cells k a x e1 ?_).mono ne
    show (M0 ++ M1)[k]? = _
    rw [List.getElem?_append_left hk]
    exact e2
  · obtain ⟨o, e1, q⟩ := C.slots i e z
    refine ⟨o, e1, ?_⟩
    by_cases hu : e = .un
    · subst hu
      trivial
    · obtain ⟨v, rfl, w⟩ := q.val hu
      exact SlOk.of (w.cut ne (hr e (List.mem_of_getElem? z)))
  · by_cases hk2 : k < M0.length
    · rw [List.getElem?_take_of_lt hk2] at e
      exact C.fresh k a e hk
    · rw [List.getElem?_eq_none (by rw [List.length_take]; omega)] at e
      cases e
  · have i := (C1.gh g hg).inn
    exact (C.gh g hg).cut ne (i.mono (by omega))
/-- up to forgotten names and cells; the first n1 cells stay -/
def UpG (n1 : Nat) (I : Conf → Prop) : Conf → Prop := fun c => UpF I c ∨ ∃ e0 M0 M1, Fgt e0 c.1 ∧ c.2 = M0 ++ M1 ∧ n1 ≤ M0.length ∧ (∀ e ∈ e0, EIin M0.length e) ∧ I (e0, M0)
theorem UpG.of {n1 : Nat} {I : Conf → Prop} {c : Conf} (h : I c) : UpG n1 I c := .inl (.of h)
theorem UpG.by {n1 : Nat} {I : Conf → Prop} {e0 : EnvD} (i : I (e0, M)) (f : Fgt e0 env) : UpG n1 I (env, M) := .inl (.by i f)
theorem UpG.gc {n1 : Nat} {I : Conf → Prop} {e0 : EnvD} {M0 M1 : Mem} (i : I (e0, M0)) (f : Fgt e0 env) (e : M = M0 ++ M1) (hl : n1 ≤ M0.length) (hr : ∀ e ∈ e0, EIin M0.length e) : UpG n1 I (env, M) := .inr ⟨e0, M0, M1, f, e, hl, hr, i⟩
theorem UpG.run {as1 as' : List Addr} {env1 : EnvD} {Ms : Mem} {σ1 : L2.St} {H1 : Hp} {I : Conf → Prop} (C1 : CF K B as1 (env1, Ms) σ1 H1) (h : CG K B as1 as' c σ H) (u : UpG Ms.length I c) : ∃ c0 as0, I c0 ∧ CG K B as1 as0 c0 σ H := by
  rcases u with ⟨e0, f, i⟩ | ⟨e0, M0, M1, f, e, hl, hr, i⟩
  · exact ⟨_, as', i, CG.fgt (env := c.1) (M := c.2) h f⟩
  · refine ⟨_, as'.take M0.length, i, CG.gc (env := c.1) (M1 := M1) (as' := as') C1 ?_ f hl hr⟩
    rw [← e]
    exact h
theorem sd_forF {tg iter : Expr} {body : List Stmt} {t : Tg} (ht : PG X tg (t.g X.K)) (h : ID n X (env, M) tg iter fun items S M1 => ∃ I : Nat → Conf → Prop, UpF (I 0) (env, M1) ∧ (∀ i c d, items[i]? = some d → I i c → S c.2 ∧ ∃ env', t.setE d c.1 = some env' ∧ SDs n X (env', c.2) body ⟨UpG M1.length (I (i + 1)), rt, nx, UpG M1.length (I (i + 1))⟩) ∧ ∀ c, I items.length c → S c.2 ∧ nx c)
    (hp : PassesOwn (model X.prog X.w) X.A X.env X.xe := by exact PassesOwn.never) (hc : X.calm = true := by rfl) (hs : ∀ x, foldedSetIterable iter X.env x = pure x := by exact fun _ => rfl) : SD n X (env, M) (.For tg iter body [] pos) ⟨nx, rt, bk, ct⟩ := fun B as σ H hn C Dd w => wpS_of (ps_for hp hc wpI_ok ht wpSs_ok hs) (by
  refine h B as σ H hn C _ fun items S G M1 as1 H1 J ⟨I, ⟨e0, f0, i0⟩, ist, iend⟩ C1 wk => ?_
  have C1' := C1.cf.fgt f0
  refine ⟨fun i m σ H => i ≤ items.length ∧ m = items.length - i ∧ ∃ c as', I i c ∧ CG X.K (B.gs G) as1 as' c σ H, ⟨_, Nat.zero_le _, rfl, _, _, i0, C1'.g⟩, fun i m σ2 H2 ⟨hi, hm, c2, as2, i2, C2⟩ => ?_⟩
  by_cases hlt : i < items.length
  · obtain ⟨d, hd⟩ : ∃ d, items[i]? = some d := ⟨_, List.getElem?_eq_getElem hlt⟩
    obtain ⟨s2, env', e', hb⟩ := ist i c2 d hd i2
    obtain ⟨go, yl⟩ := (wk.ok as2 c2 σ2 H2 C2 s2 i).2 d hd
    have nxt : ∀ c as' σ H, UpG M1.length (I (i + 1)) c → CG X.K (B.gs G) as2 as' c σ H → ∃ c as', I (i + 1) c ∧ CG X.K (B.gs G) as1 as' c σ H := fun c as' σ H u Cz => UpG.run C1' (C2.tr Cz) u
    refine .inr ⟨go, fun σ' H' => ∃ c as', I (i + 1) c ∧ CG X.K (B.gs G) as1 as' c σ' H', fun σ' H' ⟨c, as', ic, Cc⟩ => ⟨items.length - (i + 1), by omega, hlt, rfl, c, as', ic, Cc⟩, fun x H3 hy => ?_⟩
    obtain ⟨gr, dv⟩ := yl x H3 hy
    obtain ⟨σ4, h1, h2, _⟩ := Tg.run (env := c2.1) (M := c2.2) (C2.cf.grow gr) dv e'
    refine h1 _ ?_
    refine hb (B.gs G) as2 σ4 H3 hn h2 _ ⟨nxt, fun fr d env M as' σ H v z Cz => w.rt fr d env M as' σ H v z (((C1.tr ⟨C2.px, C2.cf⟩).tr Cz).popG), fun c as' σ H z Cz => w.nx c as' σ H z (((C1.tr C2).tr Cz).popG), nxt⟩
  · have hi' : i = items.length := by omega
    subst hi'
    obtain ⟨s2, q⟩ := iend c2 i2
    exact .inl ⟨(wk.ok as2 c2 σ2 H2 C2 s2 _).1 rfl, w.nx c2 as2 σ2 H2 q ((C1.tr C2).popG)⟩)
theorem sd_whileF {t : Expr} {body : List Stmt} (I : Nat → Conf → Prop) {m0 : Nat} (h0 : UpF (I m0) (env, M))
    (hs : ∀ m c, I m c → TD n X (c.1, c.2) t fun b1 M1 => (b1 = true → SDs n X (c.1, M1) body ⟨UpG M.length (fun c' => ∃ m', m' < m ∧ I m' c'), rt, nx, UpG M.length (fun c' => ∃ m', m' < m ∧ I m' c')⟩) ∧ (b1 = false → nx (c.1, M1)))
    (hp : PassesOwn (model X.prog X.w) X.A X.env X.xe := by exact PassesOwn.never) : SD n X (env, M) (.While t body [] pos) ⟨nx, rt, bk, ct⟩ := fun B as σ H hn C Dd w => wpS_of (ps_while hp wpT_ok wpSs_ok) (by
  obtain ⟨e0, f0, i0⟩ := h0
  have C' := C.fgt f0
  refine ⟨fun m σ H => ∃ c as', I m c ∧ CG X.K B as as' c σ H, ⟨m0, _, as, i0, C'.g⟩, fun m σ1 H1 ⟨c1, as1, i1, C1⟩ => ?_⟩
  refine hs m c1 i1 B as1 σ1 H1 hn C1.cf _ fun b1 M2 as2 H2 h2 C2 => ?_
  cases b1 with
  | false => exact iteF (w.nx _ as2 σ1 H2 (h2.2 rfl) (C1.tr C2))
  | true =>
    have nxt : ∀ c as' σ H, UpG M.length (fun c' => ∃ m', m' < m ∧ I m' c') c → CG X.K B as2 as' c σ H → ∃ m', m' < m ∧ ∃ c as', I m' c ∧ CG X.K B as as' c σ H := fun c as' σ H u Cz => by
      obtain ⟨c0, as0, ⟨m', lt, z⟩, Cc⟩ := UpG.run C' ((C1.tr C2).tr Cz) u
      exact ⟨m', lt, c0, as0, z, Cc⟩
    refine iteT ⟨fun σ' H' => ∃ m', m' < m ∧ ∃ c as', I m' c ∧ CG X.K B as as' c σ' H', fun σ' H' ⟨m', lt, q⟩ => ⟨m', lt, q⟩, ?_⟩
    refine h2.1 rfl B as2 σ1 H2 hn C2.cf _ ⟨nxt, fun fr d env M as' σ H v q C' => w.rt fr d env M as' σ H v q ((C1.tr C2).tr C'), fun c' as' σ' H' q C' => w.nx c' as' σ' H' q ((C1.tr C2).tr C'), nxt⟩)
/-- xs * k, the new list a cell -/
theorem en_rep {P : D → Mem → Prop} (h : ED n X (env, M) a fun r1 M1 => ED n X (env, M1) b fun r2 M2 => ∃ x k, rdD M2 r1 = some (.lst x) ∧ rdD M2 r2 = some (.int k) ∧ -(2 ^ 63) ≤ k ∧ k < 2 ^ 63 ∧ x.length * k.toNat ≤ sizeLine ∧ P (.lst (List.replicate k.toNat x).flatten) M2) : EN n X (env, M) (.BinOp a .Mult b pos) P := by
  intro B as σ H hn C Q q
  refine wpE_of (pe_op op_rep wpE_ok wpE_ok) ?_
  refine h B as σ H hn C _ fun r1 v1 M1 as1 H1 h1 C1 o1 => ?_
  refine h1 (B.add (r1, v1)) as1 σ H1 hn (C1.cf.add o1) _ fun r2 v2 M2 as2 H2 ⟨xs, k, e1, e2, c1, c2, c3, p⟩ C2 o2 => ?_
  obtain ⟨a, vs, d1, h1, w1⟩ := rd_lst C2.cf C2.cf.top e1
  have d2 : v2 = .int k := rd_dv C2.cf o2 e2 trivial
  refine ⟨a, k, vs, d1, d2, h1, c1, c2, by rw [← w1.length]; exact c3, fun p' hp => ?_⟩
  obtain ⟨a1, a2, a3⟩ := dv_new_lst C2.cf.pop hp (w1.rep k.toNat)
  exact q _ _ M2 _ _ p ⟨(C1.tr C2.pop).px, a1⟩ a2 a3
/-- what LcD asks behind its source, for a pure element without tests -/
theorem lcd_map {α : Type} {items : List D} {S : Mem → Prop} {M1 : Mem} {t : Tg} {vs : List Nat} {elt : Expr} {P : D → Mem → Prop} (xs : List α) (enc : α → D) (g : α → D) (hi : items = xs.map enc) (hl : xs.length ≤ sizeLine)
    (el : ∀ x ∈ xs, ∀ acc, ∃ env', t.setE (enc x) (wipeE env vs) = some env' ∧ EDu n X scope (env', M1 ++ [.lst acc]) elt fun r M4 => r = .dat (g x) ∧ M4 = M1 ++ [.lst acc]) (hS : ∀ acc, S (M1 ++ [.lst acc])) (hP : P (.lst (xs.map g)) M1) :
    LcBody n X scope t vs env elt [] P items S M1 := by
  subst hi
  refine ⟨fun i M2 acc => M2 = M1 ∧ acc = (xs.take i).map g, ⟨rfl, rfl⟩, fun i M2 acc d hd ⟨e1, e2⟩ => ?_, fun M2 acc ⟨e1, e2⟩ => ?_⟩
  · subst e1
    refine ⟨hS acc, ?_⟩
    rw [List.getElem?_map] at hd
    cases hx : xs[i]? with
    | none =>
      rw [hx] at hd
      cases hd
    | some x =>
      rw [hx] at hd
      cases hd
      obtain ⟨env', h1, h2⟩ := el x (List.mem_of_getElem? hx) acc
      refine ⟨env', h1, tsu_nil ⟨fun _ => fun s H C cl fp => ed_imp (h2 s H C cl fp) fun r M4 ⟨e3, e4⟩ => ⟨g x, M2, e3, e4, rfl, ?_, rfl, ?_⟩, fun z => by cases z⟩⟩
      · have hi := (List.getElem?_eq_some_iff.mp hx).1
        rw [e2, List.length_map, List.length_take]
        omega
      · rw [e2]
        have hi := (List.getElem?_eq_some_iff.mp hx)
        rw [List.take_succ, hx]
        simp
  · subst e1
    subst e2
    refine ⟨hS _, ?_⟩
    rw [List.length_map, List.take_length]
    exact hP
/-- with one test -/
theorem lcd_filter {α : Type} {items : List D} {S : Mem → Prop} {M1 : Mem} {t : Tg} {vs : List Nat} {elt te : Expr} {P : D → Mem → Prop} (xs : List α) (enc : α → D) (p : α → Bool) (g : α → D) (hi : items = xs.map enc) (hl : xs.length ≤ sizeLine)
    (el : ∀ x ∈ xs, ∀ acc, ∃ env', t.setE (enc x) (wipeE env vs) = some env' ∧ (∀ s H C cl fp, TD n (Cx.bk X scope s H C cl fp) (env', M1 ++ [.lst acc]) te fun b M3 => b = p x ∧ M3 = M1 ++ [.lst acc]) ∧ (p x = true → EDu n X scope (env', M1 ++ [.lst acc]) elt fun r M4 => r = .dat (g x) ∧ M4 = M1 ++ [.lst acc])) (hS : ∀ acc, S (M1 ++ [.lst acc])) (hP : P (.lst ((xs.filter p).map g)) M1) :
    LcBody n X scope t vs env elt [te] P items S M1 := by
  subst hi
  refine ⟨fun i M2 acc => M2 = M1 ∧ acc = ((xs.take i).filter p).map g, ⟨rfl, rfl⟩, fun i M2 acc d hd ⟨e1, e2⟩ => ?_, fun M2 acc ⟨e1, e2⟩ => ?_⟩
  · subst e1
    refine ⟨hS acc, ?_⟩
    rw [List.getElem?_map] at hd
    cases hx : xs[i]? with
    | none =>
      rw [hx] at hd
      cases hd
    | some x =>
      rw [hx] at hd
      cases hd
      have hi := (List.getElem?_eq_some_iff.mp hx).1
      obtain ⟨env', h1, h2, h3⟩ := el x (List.mem_of_getElem? hx) acc
      have tk : xs.take (i + 1) = xs.take i ++ [x] := by
        rw [List.take_succ, hx]
        simp
      refine ⟨env', h1, tsu_one fun s H C cl fp => td_imp (h2 s H C cl fp) fun b M3 ⟨e3, e4⟩ => ⟨fun hb => ?_, fun hb => ⟨M2, e4, rfl, rfl, ?_⟩⟩⟩
      · rw [e4]
        rw [e3] at hb
        refine fun s H C cl fp => ed_imp (h3 hb s H C cl fp) fun r M4 ⟨e5, e6⟩ => ⟨g x, M2, e5, e6, rfl, ?_, rfl, ?_⟩
        · rw [e2, List.length_map]
          have : ((xs.take i).filter p).length ≤ (xs.take i).length := List.length_filter_le _ _
          rw [List.length_take] at this
          omega
        · rw [e2, tk, List.filter_append, List.map_append]
          simp [hb]
      · rw [e3] at hb
        rw [e2, tk, List.filter_append, List.map_append]
        simp [hb]
  · subst e1
    subst e2
    refine ⟨hS _, ?_⟩
    rw [List.length_map, List.take_length]
    exact hP

/-! ### == of ints -/
theorem eqD_int {i j : Int} : eqD (.int i) (.int j) = (i == j) := by simp [eqD, toPy, PyData.eqv]
theorem okD_int {i : Int} : okD (.int i) = true := rfl
def fEqI (neg : Bool) (r1 r2 : EI) (M : Mem) (P : PP) : Prop := ∃ i j, rdD M r1 = some (.int i) ∧ rdD M r2 = some (.int j) ∧ P (.dat (.bl (if neg then i != j else i == j))) M
theorem fEqI.eq {neg : Bool} {r1 r2 : EI} (h : fEqI neg r1 r2 M P) : fEq neg r1 r2 M P := by
  obtain ⟨i, j, e1, e2, p⟩ := h
  refine ⟨_, _, e1, e2, rfl, rfl, ?_⟩
  rw [eqD_int]
  cases neg with
  | true =>
    rw [if_pos rfl] at p
    simpa [bne] using p
  | false =>
    rw [if_neg (by decide)] at p
    simpa using p
theorem td_eqI {P : Bool → Mem → Prop} (hu : X.A.units + 64 < cLine) (h : ED n X (env, M) a fun r1 M1 => ED n X (env, M1) b fun r2 M2 => ∃ i j, rdD M2 r1 = some (.int i) ∧ rdD M2 r2 = some (.int j) ∧ P (i == j) M2) : TD n X (env, M) (.Compare a [.Eq] [b] pos) P :=
  td_eq hu (ed_imp h fun r1 M1 h1 => ed_imp h1 fun r2 M2 ⟨i, j, e1, e2, p⟩ => fEqI.eq ⟨i, j, e1, e2, _, rfl, p⟩)
theorem td_neI {P : Bool → Mem → Prop} (hu : X.A.units + 64 < cLine) (h : ED n X (env, M) a fun r1 M1 => ED n X (env, M1) b fun r2 M2 => ∃ i j, rdD M2 r1 = some (.int i) ∧ rdD M2 r2 = some (.int j) ∧ P (i != j) M2) : TD n X (env, M) (.Compare a [.NotEq] [b] pos) P :=
  td_ne hu (ed_imp h fun r1 M1 h1 => ed_imp h1 fun r2 M2 ⟨i, j, e1, e2, p⟩ => fEqI.eq ⟨i, j, e1, e2, _, rfl, p⟩)
theorem ed_eqI (hu : X.A.units + 64 < cLine) (h : ED n X (env, M) a fun r1 M1 => ED n X (env, M1) b fun r2 M2 => ∃ i j, rdD M2 r1 = some (.int i) ∧ rdD M2 r2 = some (.int j) ∧ P (.dat (.bl (i == j))) M2) : ED n X (env, M) (.Compare a [.Eq] [b] pos) P :=
  ed_eq hu (ed_imp h fun r1 M1 h1 => ed_imp h1 fun r2 M2 ⟨i, j, e1, e2, p⟩ => fEqI.eq ⟨i, j, e1, e2, p⟩)
theorem ed_neI (hu : X.A.units + 64 < cLine) (h : ED n X (env, M) a fun r1 M1 => ED n X (env, M1) b fun r2 M2 => ∃ i j, rdD M2 r1 = some (.int i) ∧ rdD M2 r2 = some (.int j) ∧ P (.dat (.bl (i != j))) M2) : ED n X (env, M) (.Compare a [.NotEq] [b] pos) P :=
  ed_ne hu (ed_imp h fun r1 M1 h1 => ed_imp h1 fun r2 M2 ⟨i, j, e1, e2, p⟩ => fEqI.eq ⟨i, j, e1, e2, p⟩)
/-! ### calls with data alone -/
theorem callAt_pure {ds : List D} : CallAt [] (ds.map EI.dat) (ds.map EI.dat) M := ⟨by
  rw [List.map_map]
  exact List.map_congr_left fun _ _ => rfl, List.nodup_nil, (fun k hk => nomatch hk), fun e he => by
  obtain ⟨d, _, rfl⟩ := List.mem_map.mp he
  trivial⟩
theorem updM_nil {xs : Mem} : updM M [] xs = M := by rw [updM]
theorem ed_callp (G : FnG X.prog X.w X.K X.mg X.base k x F) (hr : Room k X.A) (h : AD n X (env, M) (e :: es) fun rs M1 => ∃ ds : List D, rs = ds.map EI.dat ∧ F (ds.map EI.dat) [] fun fr d M' => P (.dat d) M1)
    (hg : Gl X x := by rfl) (hdb : (x == ("__debug__" : Str)) = false := by decide) (he : starEach (e :: es) X.env = (false, eval e X.env) :: starEach es X.env := by rfl) (hpl : (backTo pos (starEach es X.env)).any (·.1) = false := by rfl) :
    ED n X (env, M) (.Call (.Name x p) (e :: es) [] pos) P := ed_call G hr (ad_imp h fun rs M1 ⟨ds, e1, hF⟩ => ⟨[], ds.map EI.dat, e1 ▸ callAt_pure, by
      simp only [updM_nil]
      exact hF⟩) hg hdb he hpl
theorem en_callp {P : D → Mem → Prop} (G : FnG X.prog X.w X.K X.mg X.base k x F) (hr : Room k X.A) (h : AD n X (env, M) (e :: es) fun rs M1 => ∃ ds : List D, rs = ds.map EI.dat ∧ F (ds.map EI.dat) [] fun fr d M' => fr = true ∧ P d M1)
    (hg : Gl X x := by rfl) (hdb : (x == ("__debug__" : Str)) = false := by decide) (he : starEach (e :: es) X.env = (false, eval e X.env) :: starEach es X.env := by rfl) (hpl : (backTo pos (starEach es X.env)).any (·.1) = false := by rfl) :
    EN n X (env, M) (.Call (.Name x p) (e :: es) [] pos) P := en_call G hr (ad_imp h fun rs M1 ⟨ds, e1, hF⟩ => ⟨[], ds.map EI.dat, e1 ▸ callAt_pure, by
      simp only [updM_nil]
      exact hF⟩) hg hdb he hpl
theorem insR_dat {C : Addr} {fs : List Str} {ds : List D} (h : m ∉ fs) : InsR (.dat (.ins C fs ds)) M C m := .inl ⟨fs, ds, rfl, h⟩
theorem ed_methp {pl : Sem Bool} (G : MethG X.prog X.w X.K X.mg X.base k C m F) (hr : Room k X.A) (h : ED n X (env, M) o fun r0 M0 => ∃ d0, r0 = .dat d0 ∧ InsR r0 M0 C m ∧ AD n X (env, M0) (e :: es) fun rs M1 => ∃ ds : List D, rs = ds.map EI.dat ∧ F (.dat d0 :: ds.map EI.dat) [] fun fr d M' => P (.dat d) M1)
    (hst : starEach (e :: es) X.env = (false, eval e X.env) :: starEach es X.env := by rfl) (hpl : (backTo pos (starEach es X.env)).any (·.1) = false := by rfl)
    (ht : eval (.Call (.Attribute o m apos) (e :: es) [] pos) X.env = (do
      let ov ← eval o X.env
      standAt apos.atName
      let (f, first) ← holding [ov] (getMethod ov m pl)
      callWith pos f first (backTo pos (starEach (e :: es) X.env)) (backToKw pos (keywordEach [] X.env))) := by rfl) :
    ED n X (env, M) (.Call (.Attribute o m apos) (e :: es) [] pos) P := ed_meth G hr (ed_imp h fun r0 M0 ⟨d0, e0, i0, h1⟩ => ⟨i0, ad_imp h1 fun rs M1 ⟨ds, e1, hF⟩ => ⟨[], (d0 :: ds).map EI.dat, by
      subst e0
      subst e1
      exact callAt_pure (ds := d0 :: ds), by
      simp only [updM_nil]
      exact hF⟩⟩) hst hpl ht
theorem ed_methp0 {pl : Sem Bool} (G : MethG X.prog X.w X.K X.mg X.base k C m F) (hr : Room k X.A) (h : ED n X (env, M) o fun r0 M0 => ∃ d0, r0 = .dat d0 ∧ InsR r0 M0 C m ∧ F [.dat d0] [] fun fr d M' => P (.dat d) M0)
    (ht : eval (.Call (.Attribute o m apos) [] [] pos) X.env = (do
      let ov ← eval o X.env
      standAt apos.atName
      let (f, first) ← holding [ov] (getMethod ov m pl)
      callWith pos f first (backTo pos (starEach [] X.env)) (backToKw pos (keywordEach [] X.env))) := by rfl) :
    ED n X (env, M) (.Call (.Attribute o m apos) [] [] pos) P := ed_meth0 G hr (ed_imp h fun r0 M0 ⟨d0, e0, i0, hF⟩ => ⟨i0, [], [d0].map EI.dat, by
      subst e0
      exact callAt_pure (ds := [d0]), by
      simp only [updM_nil]
      exact hF⟩) ht
theorem ed_propp (G : PropG X.prog X.w X.K X.mg X.base k C m F) (hr : Room (k + 1) X.A) (h : ED n X (env, M) o fun r0 M0 => ∃ d0, r0 = .dat d0 ∧ InsR r0 M0 C m ∧ F [.dat d0] [] fun fr d M' => P (.dat d) M0)
    (hab : attributeBase o m X.env (eval o X.env) = eval o X.env := by rfl) : ED n X (env, M) (.Attribute o m pos) P := ed_prop G hr (ed_imp h fun r0 M0 ⟨d0, e0, i0, hF⟩ => ⟨i0, [], [d0].map EI.dat, by
      subst e0
      exact callAt_pure (ds := [d0]), by
      simp only [updM_nil]
      exact hF⟩) hab
/-! ### returns -/
theorem sd_retn (h : EN n X (env, M) e fun d M' => (cellOf d).live = true ∧ n ≤ M'.length ∧ rt true d (M' ++ [cellOf d])) : SD n X (env, M) (.Return (some e) pos) ⟨nx, rt, bk, ct⟩ :=
  sd_ret (ed_new (en_imp h fun d M' ⟨lv, hn, q⟩ => .inr ⟨M'.length, cellOf d, rfl, hn, get_last _ _, cellOf_opn lv, by
    have e : (cellOf d).toD = d := by cases d <;> first | rfl | cases lv
    rw [e]
    exact q⟩))
theorem ret_dat {d : D} (h : rt false d M) : RetR n rt (.dat d) M := .inl ⟨d, rfl, h⟩
theorem ret_cel {k : Nat} {c : Cell} (hn : n ≤ k) (hk : M[k]? = some c) (lv : c.opn = true) (h : rt true c.toD M) : RetR n rt (.cel k) M := .inr ⟨k, c, rfl, hn, hk, lv, h⟩
theorem po0 {P0 : Bool → D → Mem → Prop} {fr : Bool} {d : D} (h : P0 fr d []) : (PoOf 0 P0).rt fr d M := ⟨by simpa using h, by simp⟩
theorem po1 {P0 : Bool → D → Mem → Prop} {fr : Bool} {d : D} {c : Cell} (h : P0 fr d [c]) (lv : c.live = true) : (PoOf 1 P0).rt fr d (c :: M) := ⟨by simpa using h, by simpa using lv⟩
theorem po2 {P0 : Bool → D → Mem → Prop} {fr : Bool} {d : D} {c c' : Cell} (h : P0 fr d [c, c']) (lv : c.live = true) (lv' : c'.live = true) : (PoOf 2 P0).rt fr d (c :: c' :: M) := ⟨by simpa using h, by simpa using ⟨lv, lv'⟩⟩
theorem pn0 {P0 : Bool → D → Mem → Prop} (h : P0 false .non []) : (PoOf 0 P0).nx (env, M) := ⟨by simpa using h, by simp⟩
theorem pn1 {P0 : Bool → D → Mem → Prop} {c : Cell} (h : P0 false .non [c]) (lv : c.live = true) : (PoOf 1 P0).nx (env, c :: M) := ⟨by simpa using h, by simpa using lv⟩
/-! ### a def, a method, a property, a class, from the facts of the top -/
structure FunX (K : PySem.W.Frag) (x qual : Str) (st : Stmt) (f : Addr) : Prop where
  ex : ∃ fd, Fun K x qual st f fd
def BindOk (x qual : Str) (st : Stmt) (ps : List Str) : Prop := ∀ (kV doc pm : Value) (an : Option Addr) (cdv ct : Value) (us : List Value), us.length = ps.length → bindArgs (PySem.W.fnOf x qual (defArgs st) (defBody st) (defScope st) .none kV doc pm an cdv ct) ⟨us, []⟩ = pure (ps.zip us)
variable {Pg : Program} {w : World} {mg : Str → Option Value} {base : Heap} {qual : Str} {st : Stmt} {f g : Addr} {N ps : List Str}
/-- the body of a def, in its context -/
abbrev BodyOk (Pg : Program) (w : World) (K : PySem.W.Frag) (mg : Str → Option Value) (base : Heap) (k : Nat) (N ps : List Str) (qual : Str) (st : Stmt) (f : Addr) (F : Ct) : Prop :=
  ∀ cdv A outer s H E, Room k (A.deeper (envOfC qual (defScope st) s.heap.objs.size f cdv)) → ∀ args M P0, F args M P0 →
      SDs M.length (cxOf CX0 Pg w K mg base N qual (defScope st) f cdv A outer s H E).nox (args ++ List.replicate (N.length - ps.length) .un, M) (defBody st) (PoOf M.length P0)
theorem fnG_of (fx : FunX K x qual st f) (hm : mg x = some (.ref f)) (S : FnScope N ps (defScope st)) (hb : BindOk x qual st ps) (hl : ∀ args M P, F args M P → args.length = ps.length) (body : BodyOk Pg w K mg base k N ps qual st f F) : FnG Pg w K mg base (k + 1) x F := by
  obtain ⟨fd, Fn⟩ := fx.ex
  exact ⟨f, fd, ps, fn_okD Fn S hl body, hm, Fn.kp, Fn.binds hb⟩
theorem methG_of (fx : FunX K x qual st f) (cl : Cls K C) (hm : Meth K C x f) (S : FnScope N ps (defScope st)) (hb : BindOk x qual st ps) (hl : ∀ args M P, F args M P → args.length = ps.length) (body : BodyOk Pg w K mg base k N ps qual st f F) : MethG Pg w K mg base (k + 1) C x F := by
  obtain ⟨fd, Fn⟩ := fx.ex
  exact ⟨⟨f, fd, ps, fn_okD Fn S hl body, hm, Fn.binds hb⟩, cl⟩
theorem propG_of (fx : FunX K x qual st f) (cl : Cls K C) (hm : PropOf K C x g f) (S : FnScope N ps (defScope st)) (hb : BindOk x qual st ps) (hl : ∀ args M P, F args M P → args.length = ps.length) (body : BodyOk Pg w K mg base k N ps qual st f F) : PropG Pg w K mg base (k + 1) C x F := by
  obtain ⟨fd, Fn⟩ := fx.ex
  exact ⟨⟨g, f, fd, ps, fn_okD Fn S hl body, hm, Fn.binds hb⟩, cl⟩
theorem makeG_of {cn : Str} (fx : FunX K x qual st f) (hc : mg cn = some (.ref C)) (hm : Mk K C f) (S : FnScope N ps (defScope st)) (hb : BindOk x qual st ps) (hl : ∀ args M P, F args M P → args.length = ps.length) (body : BodyOk Pg w K mg base k N ps qual st f F) : MakeG Pg w K mg base (k + 1) cn C F := by
  obtain ⟨fd, Fn⟩ := fx.ex
  exact ⟨f, fd, ps, fn_okD Fn S hl body, hm, hc, Fn.binds hb⟩
end
end Dl
set_option Elab.async false
set_option linter.all false
set_option maxRecDepth 100000
set_option maxHeartbeats 2000000
/-! Dl part 10: comprehensions of two clauses; more rules. -/
namespace Dl
open PySem L2 PyProof.Rows
section
variable {K : PySem.W.Frag} {B : Bs} {as : List Addr} {σ : L2.St} {H H' : Hp}
variable {X : Cx} {n : Nat} {env : EnvD} {M : Mem} {c : Conf} {P : PP} {e a b o : Expr} {es : List Expr} {pos apos p : Pos} {k : Nat} {x m : Str} {F : Ct} {C : Addr} {nx : Conf → Prop} {rt : Bool → D → Mem → Prop} {bk ct : Conf → Prop} {scope : Scope}
/-- what the inner clause asks; M stays -/
def Lc2In (n : Nat) (X : Cx) (scope : Scope) (t1 : Tg) (vs1 : List Nat) (env' : EnvD) (elt : Expr) (ifs1 : List Expr) (M1 : Mem) (acc : List D) (fin : List D → Prop) (items : List D) (S : Mem → Prop) (M3 : Mem) : Prop :=
  M3 = M1 ++ [.lst acc] ∧ ∃ I : Nat → List D → Prop, I 0 acc ∧
    (∀ j acc d, items[j]? = some d → I j acc → S (M1 ++ [.lst acc]) ∧ ∃ env'', t1.setE d (wipeE env' vs1) = some env'' ∧
      TsDu n X scope (env'', M1 ++ [.lst acc]) ifs1 fun b M5 => M5 = M1 ++ [.lst acc] ∧ (b = true → EDu n X scope (env'', M1 ++ [.lst acc]) elt fun r M6 => ∃ d', r = .dat d' ∧ M6 = M1 ++ [.lst acc] ∧ acc.length < sizeLine ∧ I (j + 1) (acc ++ [d'])) ∧ (b = false → I (j + 1) acc)) ∧
    (∀ acc, I items.length acc → S (M1 ++ [.lst acc]) ∧ fin acc)
def Lc2Body (n : Nat) (X : Cx) (scope : Scope) (t t1 : Tg) (vs vs1 : List Nat) (env : EnvD) (elt tg1 iter1 : Expr) (ifs1 : List Expr) (P : D → Mem → Prop) (items : List D) (S : Mem → Prop) (M1 : Mem) : Prop :=
  ∃ I : Nat → List D → Prop, I 0 [] ∧
    (∀ i acc d, items[i]? = some d → I i acc → S (M1 ++ [.lst acc]) ∧ ∃ env', t.setE d (wipeE env vs) = some env' ∧
      ∀ s H C cl fp, ID n (Cx.bk X scope s H C cl fp) (env', M1 ++ [.lst acc]) tg1 iter1 (Lc2In n X scope t1 vs1 env' elt ifs1 M1 acc (I (i + 1)))) ∧
    (∀ acc, I items.length acc → S (M1 ++ [.lst acc]) ∧ P (.lst acc) M1)
def wpIu (X : Cx) (scope : Scope) (tg iter : Expr) : TI := fun σ H R => ∀ s H0 C cl fp, wpI (Cx.bk X scope s H0 C cl fp) tg iter σ H R
theorem wpTs_nil {X : Cx} {σ : L2.St} {H : Hp} {Q : Bool → Hp → Prop} (h : Q true H) : wpTs X [] σ H Q := wpTs_of pts_nil h
theorem lc2_run {elt tg iter tg1 iter1 : Expr} {ifs1 : List Expr} {t t1 : Tg} {vs vs1 : List Nat} {P : D → Mem → Prop} (hsl : ∀ i ∈ t.slots, i ∈ vs) (hsl1 : ∀ i ∈ t1.slots, i ∈ vs1) (h : ID n X (env, M) tg iter (Lc2Body n X scope t t1 vs vs1 env elt tg1 iter1 ifs1 P))
    (hn : B.A0.length = n) (Cf : CF X.K B as (env, M) σ H) {Q : VK} (q : ∀ d p M' as' H', P d M' → CG X.K B as as' (env, M') σ H' → DV X.K (Ne B as' M') H' d (.ref p) → CF X.K B (as' ++ [p]) (env, M' ++ [cellOf d]) σ H' → Q (.ref p) H') :
    tLc2 (wpI X tg iter) (t.g X.K) (fun σ H Q => ∀ s H0 C cl fp, wpTs (Cx.bk X scope s H0 C cl fp) [] σ H Q) (wpIu X scope tg1 iter1) (t1.g X.K) (fun σ H Q => ∀ s H0 C cl fp, wpTs (Cx.bk X scope s H0 C cl fp) ifs1 σ H Q) (fun σ H Q => ∀ s H0 C cl fp, wpE (Cx.bk X scope s H0 C cl fp) elt σ H Q) vs vs1 σ H Q := by
  refine h B as σ H hn Cf _ fun items S G M1 as1 H1 J ⟨I, i0, ist, iend⟩ C1 wk D hD => ?_
  obtain ⟨a1, a2, a3⟩ := dv_new_lst (vs := []) (ds := []) C1.cf hD .nil
  refine ⟨fun i m H => i ≤ items.length ∧ m = items.length - i ∧ ∃ acc, I i acc ∧ CF X.K (B.gs G) (as1 ++ [D]) (env, M1 ++ [.lst acc]) σ H, ⟨_, Nat.zero_le _, rfl, [], i0, a3⟩, fun i m H2 ⟨hi, hm, acc, i2, C2⟩ => ?_⟩
  have CG2 : CG X.K (B.gs G) as1 (as1 ++ [D]) (env, M1 ++ [.lst acc]) σ H2 := ⟨List.prefix_append _ _, C2⟩
  have l2 : as1.length = M1.length := by
    have := C2.len
    simp at this
    exact this
  by_cases hlt : i < items.length
  · obtain ⟨d, hd⟩ : ∃ d, items[i]? = some d := ⟨_, List.getElem?_eq_getElem hlt⟩
    obtain ⟨s2, env', e', ht⟩ := ist i acc d hd i2
    obtain ⟨go, yl⟩ := (wk.ok _ _ σ H2 CG2 s2 i).2 d hd
    refine .inr ⟨go, fun H' => ∃ acc, I (i + 1) acc ∧ CF X.K (B.gs G) (as1 ++ [D]) (env, M1 ++ [.lst acc]) σ H', fun H' ⟨acc', ic, Cc⟩ => ⟨items.length - (i + 1), by omega, hlt, rfl, acc', ic, Cc⟩, fun x H3 hy => ?_⟩
    obtain ⟨gr, dv⟩ := yl x H3 hy
    have C3 := C2.grow gr
    obtain ⟨σ4, h1, h2, hw⟩ := Tg.run (C3.keep.wipe vs) dv e'
    refine h1 _ ⟨(hw vs hsl).trans (wipe_wipe vs fun _ z => z), fun s H0 C cl fp => ?_⟩
    refine wpTs_nil ?_
    refine iteT ?_
    intro s H0 C cl fp
    refine ht s H0 C cl fp ((B.gs G).gs (gho env σ)) (as1 ++ [D]) σ4 H3 hn h2 _ fun items1 S1 G1 M3 as3 H4 J1 ⟨eM3, I1, i10, ist1, iend1⟩ C4 wk1 => ?_
    subst eM3
    have e3 : as3 = as1 ++ [D] := by
      have l1 : as3.length = M1.length + 1 := by simpa using C4.cf.len
      exact (C4.px.eq_of_length (by simp; omega)).symm
    subst e3
    refine ⟨fun j k H => j ≤ items1.length ∧ k = items1.length - j ∧ ∃ acc, I1 j acc ∧ CF X.K (((B.gs G).gs (gho env σ)).gs G1) (as1 ++ [D]) (env', M1 ++ [.lst acc]) σ4 H, ⟨_, Nat.zero_le _, rfl, acc, i10, C4.cf⟩, fun j k H5 ⟨hj, hk, acc5, i5, C5⟩ => ?_⟩
    have CG5 : CG X.K (((B.gs G).gs (gho env σ)).gs G1) (as1 ++ [D]) (as1 ++ [D]) (env', M1 ++ [.lst acc5]) σ4 H5 := C5.g
    by_cases hlt1 : j < items1.length
    · obtain ⟨d1, hd1⟩ : ∃ d, items1[j]? = some d := ⟨_, List.getElem?_eq_getElem hlt1⟩
      obtain ⟨s5, env'', e'', ht1⟩ := ist1 j acc5 d1 hd1 i5
      obtain ⟨go1, yl1⟩ := (wk1.ok _ _ σ4 H5 CG5 s5 j).2 d1 hd1
      refine .inr ⟨go1, fun H' => ∃ acc, I1 (j + 1) acc ∧ CF X.K (((B.gs G).gs (gho env σ)).gs G1) (as1 ++ [D]) (env', M1 ++ [.lst acc]) σ4 H', fun H' ⟨acc', ic, Cc⟩ => ⟨items1.length - (j + 1), by omega, hlt1, rfl, acc', ic, Cc⟩, fun x1 H6 hy1 => ?_⟩
      obtain ⟨gr1, dv1⟩ := yl1 x1 H6 hy1
      have C6 := C5.grow gr1
      obtain ⟨σ6, g1, g2, gw⟩ := Tg.run (C6.keep.wipe vs1) dv1 e''
      refine g1 _ ⟨(gw vs1 hsl1).trans (wipe_wipe vs1 fun _ z => z), fun s H0 C cl fp => ?_⟩
      refine ht1 s H0 C cl fp ((((B.gs G).gs (gho env σ)).gs G1).gs (gho env' σ4)) (as1 ++ [D]) σ6 H6 hn g2 _ fun b M7 as7 H7 ⟨eM7, htr, hfa⟩ C7 => ?_
      subst eM7
      have fin : ∀ {as4 : List Addr} {H5 : Hp} {y : Cell}, CG X.K ((((B.gs G).gs (gho env σ)).gs G1).gs (gho env' σ4)) (as1 ++ [D]) as4 (env'', M1 ++ [y]) σ6 H5 → as4 = as1 ++ [D] := fun {as4 H5 acc'} C5 => by
        have l1 : as4.length = M1.length + 1 := by simpa using C5.cf.len
        exact (C5.px.eq_of_length (by simp; omega)).symm
      have e7 := fin C7
      subst e7
      cases b with
      | false =>
        refine iteF ⟨acc5, hfa rfl, C6.back C7.cf⟩
      | true =>
        refine iteT fun s H0 C cl fp => ?_
        refine htr rfl s H0 C cl fp ((((B.gs G).gs (gho env σ)).gs G1).gs (gho env' σ4)) (as1 ++ [D]) σ6 H7 hn C7.cf _ fun r y M8 as8 H8 ⟨d', er, eM, hz, i8⟩ C8 o8 => ?_
        subst er
        subst eM
        have e8 := fin C8
        subst e8
        have C9 := C6.back C8.cf
        have eD : (as1 ++ [D])[M1.length]? = some D := by rw [← l2]; exact get_last _ _
        have eM : (M1 ++ [Cell.lst acc5])[M1.length]? = some (.lst acc5) := get_last _ _
        obtain ⟨us, e6, w6⟩ := C9.cells M1.length D _ eD eM
        refine ⟨us, e6, by rw [← w6.length]; exact hz, acc5 ++ [d'], i8, ?_⟩
        have CA := C9.put (y := .lst (acc5 ++ [d'])) (o := .lst (us ++ [y])) eD eM rfl rfl fun kp => ⟨us ++ [y], upd_same, (DVs.kp kp _ _ w6).append (.one (DV.kp kp _ _ o8))⟩
        rw [set_last] at CA
        exact CA
    · have hj' : j = items1.length := by omega
      subst hj'
      obtain ⟨s5, q5⟩ := iend1 acc5 i5
      exact .inl ⟨(wk1.ok _ _ σ4 H5 CG5 s5 _).1 rfl, acc5, q5, C3.back (CF.popG C5)⟩
  · have hi' : i = items.length := by omega
    subst hi'
    obtain ⟨s2, pq⟩ := iend acc i2
    refine .inl ⟨(wk.ok _ _ σ H2 CG2 s2 _).1 rfl, ?_⟩
    have C2' := C2.popG
    have C8 := CF.drop C1.cf.popG C2'
    refine q _ D M1 as1 H2 pq ⟨C1.px, C8⟩ ?_ C2'
    have eD : (as1 ++ [D])[M1.length]? = some D := by rw [← l2]; exact get_last _ _
    have eM : (M1 ++ [Cell.lst acc])[M1.length]? = some (.lst acc) := get_last _ _
    obtain ⟨us, e6, w6⟩ := C2'.cells M1.length D _ eD eM
    have ne : ∀ a, Ne B as1 M1 a → Ne B (as1 ++ [D]) (M1 ++ [.lst acc]) a := fun a z => by
      rcases z with z | ⟨k, x, e1, e2, lv⟩
      · exact .inl z
      · refine .inr ⟨k, x, ?_, ?_, lv⟩
        · rw [List.getElem?_append_left (List.getElem?_eq_some_iff.mp e1).1]
          exact e1
        · rw [List.getElem?_append_left (List.getElem?_eq_some_iff.mp e2).1]
          exact e2
    refine ⟨D, us, rfl, fun z => ?_, e6, w6.mono ne⟩
    rcases z with z | ⟨k, x, e1, e2, lv⟩
    · have : H1 D ≠ none := C1.cf.n0 D z
      exact this hD
    · exact C1.cf.a0 D (List.mem_of_getElem? e1) hD
theorem en_lc2 {elt tg iter tg1 iter1 : Expr} {ifs1 : List Expr} {t t1 : Tg} {own : List (Str × Nat)} (vs1 : List Nat) {P : D → Mem → Prop} (hN : X.N.Nodup) (ok : BlkOk X.N X.env.scope scope own)
    (ht : ∀ s H C cl fp, PG (Cx.bk X scope s H C cl fp) tg (t.g X.K)) (ht1 : ∀ s H C cl fp, PG (Cx.bk X scope s H C cl fp) tg1 (t1.g X.K)) (h : ID n X (env, M) tg iter (Lc2Body n X scope t t1 (own.map (·.2)) vs1 env elt tg1 iter1 ifs1 P)) (hsl : ∀ i ∈ t.slots, i ∈ own.map (·.2) := by decide) (hsl1 : ∀ i ∈ t1.slots, i ∈ vs1 := by decide) (hv : ∀ i ∈ vs1, i ∈ own.map (·.2) := by decide)
    (hc : X.calm = true := by rfl) (hs : ∀ x, foldedSetIterable iter X.env x = pure x := by exact fun _ => rfl) (hs1 : ∀ env x, foldedSetIterable iter1 env x = pure x := by exact fun _ _ => rfl) : EN n X (env, M) (.ListComp elt [⟨tg, iter, [], 0⟩, ⟨tg1, iter1, ifs1, 0⟩] scope pos) P := fun B as σ H hn C Q q =>
  wpE_of (pe_lc2 hc hN wpI_ok ok hv ht (fun s H C cl fp => ⟨fun pins s' σ' H' Q' I' h' => h' s H C cl fp pins s' I'⟩) (fun s H C cl fp => ⟨fun pins s' σ' H' Q' I' h' => h' s H C cl fp pins s' I'⟩) ht1 (fun s H C cl fp => ⟨fun pins s' σ' H' Q' I' h' => h' s H C cl fp pins s' I'⟩) (fun s H C cl fp => ⟨fun pins s' σ' H' Q' I' h' => h' s H C cl fp pins s' I'⟩) hs hs1) (lc2_run hsl hsl1 h hn C q)
/-! ### C(), an instance whose one field is a new list -/
def spSpn (C : Addr) (f : Str) : Sp := fun vs H Q _ => ∃ y dx, vs = [.ref y] ∧ H y = some (.ins C dx []) ∧ ∀ a, H a = none → Q .non (upd (upd H a (.lst [])) y (.ins C dx [(f, .ref a)]))
structure SpnG (P : Program) (w : World) (K : PySem.W.Frag) (mg : Str → Option Value) (base : Heap) (k : Nat) (x : Str) (C : Addr) (f : Str) : Prop where
  ex : ∃ g fd ps, FnOk P w K mg base CX0 k g fd ps (spSpn C f) ∧ Mk K C g ∧ mg x = some (.ref C) ∧ Binds K fd ps []
theorem ed_mkspn {f : Str} (G : SpnG X.prog X.w X.K X.mg X.base k x C f) (hr : Room (k + 1) X.A) (h : P (.spn C f M.length) (M ++ [.lst []]))
    (hg : Gl X x := by rfl) (hdb : (x == ("__debug__" : Str)) = false := by decide) : ED n X (env, M) (.Call (.Name x p) [] [] pos) P := by
  obtain ⟨g, fd, ps, G, mk, hm, hb⟩ := G.ex
  intro B as σ H hn Cc Q q
  refine wpE_of (pe_make0 mk G hr hg hm hb .nil pass0 hdb (E := fun _ _ _ => False)) ?_
  intro y dx hy hdx hne
  refine ⟨y, dx, rfl, upd_same, fun a ha => ⟨rfl, ?_⟩⟩
  have hay : a ≠ y := fun e => by
    subst e
    rw [upd_same] at ha
    cases ha
  rw [upd_ne hay] at ha
  have had : a ≠ dx := fun e => by
    subst e
    rw [upd_same] at ha
    cases ha
  rw [upd_ne had] at ha
  have g1 : ∀ b u, H b = some u → (upd (upd (upd (upd H dx (.own y)) y (.ins C dx [])) a (.lst [])) y (.ins C dx [(f, .ref a)])) b = some u := fun b u e => by
    rw [upd_ne (ne_of_none e hy), upd_ne (ne_of_none e ha), upd_ne (ne_of_none e hy), upd_ne (ne_of_none e hdx)]
    exact e
  have ea : (upd (upd (upd (upd H dx (.own y)) y (.ins C dx [])) a (.lst [])) y (.ins C dx [(f, .ref a)])) a = some (.lst []) := by
    rw [upd_ne hay, upd_same]
  have C3 := Cc.newG (y := .lst []) g1 ha ⟨[], ea, .nil⟩ rfl (by rw [ea]; exact fun z => by cases z)
  refine q (.spn C f M.length) _ _ (as ++ [a]) _ h ⟨List.prefix_append _ _, C3⟩ ⟨y, dx, a, rfl, fun z => ?_, upd_same, ?_⟩
  · rcases z with z | ⟨j, c, e1, e2, lv⟩
    · exact Cc.n0 y z hy
    · have := List.mem_of_getElem? e1
      rcases List.mem_append.mp this with z | z
      · exact Cc.a0 y z hy
      · exact hay (List.mem_singleton.mp z).symm
  · have hl : as.length = M.length := Cc.len
    rw [← hl]
    exact get_last _ _
variable {Pg : Program} {w : World} {mg : Str → Option Value} {base : Heap} {qual : Str} {st : Stmt} {f g : Addr} {N ps : List Str}
theorem spnG_of {cn fl : Str} {pa pb pc pd : Pos} (fx : FunX K "__init__" qual st f) (cl : Cls K C) (na : NoAttr K C fl) (hc : mg cn = some (.ref C)) (hm : Mk K C f) (S : FnScope ["self"] ["self"] (defScope st)) (hb : BindOk "__init__" qual st ["self"])
    (body : defBody st = [.Assign [.Attribute (.Name "self" pa) fl pb] (.List [] pc) pd]) (hsc : (defScope st).names.lookup ("self" : Str) = some NameKind.local := by rfl) : SpnG Pg w K mg base (k + 1) cn C fl := by
  obtain ⟨fd, Fn⟩ := fx.ex
  refine ⟨f, fd, ["self"], ?_, hm, hc, Fn.binds hb⟩
  refine Fn.ok S (fun vs H Q E ⟨y, dx, e, _⟩ => by rw [e]; rfl) (fun cdv A outer s H vs Q E hr ⟨y, dx, e, hy, q⟩ => ⟨_, wpSs_ok, ?_⟩)
  subst e
  rw [body]
  refine wpSs_of (pss_cons (ps_fld (pe_var (i := 0) rfl (Or.inl hsc) (by decide) (by decide)) (pe_lst pa_nil) rfl) pss_nil) ?_
  refine ⟨Nat.zero_le _, fun a ha => ?_⟩
  have hay : a ≠ y := fun e => by
    subst e
    rw [hy] at ha
    cases ha
  refine ⟨.ref y, rfl, y, C, dx, [], rfl, by rw [upd_ne (Ne.symm hay)]; exact hy, cl, na, by decide, ?_⟩
  exact q a ha
end
end Dl
set_option Elab.async false
set_option linter.all false
set_option maxRecDepth 100000
set_option maxHeartbeats 2000000
/-! Dl part 11: y = [.. two clauses], y = {..} on one row; plain forms. -/
namespace Dl
open PySem L2 PyProof.Rows
section
variable {K : PySem.W.Frag} {B : Bs} {as : List Addr} {σ : L2.St} {H H' : Hp}
variable {X : Cx} {n : Nat} {env : EnvD} {M : Mem} {c : Conf} {P : PP} {e a b o : Expr} {es : List Expr} {pos apos p : Pos} {k : Nat} {x m : Str} {F : Ct} {C : Addr} {nx : Conf → Prop} {rt : Bool → D → Mem → Prop} {bk ct : Conf → Prop} {scope : Scope}
theorem ps_setDc {i : Nat} {y : Str} {py : Pos} {kx vx tg iter : Expr} {ifs : List Expr} {own : List (Str × Nat)} {pos spos : Pos} {wi : TI} {g : TG} {tt : TT} {tk tv : TE} (hc : X.calm = true) (hN : X.N.Nodup) (hy : X.N[i]? = some y) (hyl : X.env.scope.names.lookup y = some .local)
    (hsw : swapsWith (.DictComp kx vx [⟨tg, iter, ifs, 0⟩] scope pos) (some (.Name y py)) spos.line X.env = pure true) (hi : PI X tg iter wi) (ok : BlkOk X.N X.env.scope scope own)
    (hg : ∀ (s : Shared) (H : Hp) (C : Addr) (cl : List (Str × Addr)) (fp : List Addr), PG (X.blk s H scope (compEnvC scope cl C X.env) fp) tg g) (ht : ∀ (s : Shared) (H : Hp) (C : Addr) (cl : List (Str × Addr)) (fp : List Addr), PTs (X.blk s H scope (compEnvC scope cl C X.env) fp) ifs tt)
    (hk : ∀ (s : Shared) (H : Hp) (C : Addr) (cl : List (Str × Addr)) (fp : List Addr), PE (X.blk s H scope (compEnvC scope cl C X.env) fp) kx tk)
    (he : ∀ (s : Shared) (H : Hp) (C : Addr) (cl : List (Str × Addr)) (fp : List Addr), PE (X.blk s H scope (compEnvC scope cl C X.env) fp) vx tv) (hs : ∀ x, foldedSetIterable iter X.env x = pure x) :
    PS X (.Assign [.Name y py] (.DictComp kx vx [⟨tg, iter, ifs, 0⟩] scope pos) spos) (tAsg (tDc wi g tt tk tv (own.map (·.2))) (gName i)) := by
  refine ⟨fun pins s σ H D I h => ?_⟩
  rw [exec_Assign_Name_used _ _ _ _ hsw]
  refine wpAny_bind (wpAny_standAt (wpAny_bind ?_))
  show wpAny _ X.A (do let _ ← comprehension (.DictComp kx vx [⟨tg, iter, ifs, 0⟩] scope pos) scope X.env (firstIterPos [⟨tg, iter, ifs, 0⟩] pos) newDict false (eval iter X.env) (some (assign (.Name y py) X.env))) _ _ s
  have h : tDc wi g tt tk tv (own.map (·.2)) σ H (fun x H1 => gName i x σ H1 D.nx) := h
  refine wpAny_bind (thn (dc_core (Qf := fun _ s' => SP X pins D .next s') hc hN I hi ok hg ht hk he hs h fun L C s' m H' I' q hn f => ?_) fun _ s' hq => wpAny_pure (wpAny_pure hq))
  show wpAny _ _ (assign (.Name y py) X.env (.ref L)) _ _ _
  refine wpAny_assign_Name (store_ok2 (v := V.ref L) I' hN hy (.inl hyl) rfl (fun s2 I2 ⟨a, sb, ha⟩ => ?_) (.inr hyl))
  obtain ⟨f0, f1, f2, f3, f4, f5⟩ := f
  have haC : C ≠ a := by
    rcases ha with z | z
    · rw [z]; exact f1
    · exact fun e => f4 y a z e.symm
  refine ⟨m, hn.sameBut sb haC, fun h3 sb3 => ?_⟩
  exact ⟨_, H', I2.turned (t' := s2.toks) (fun b o hb e => (sb3.2 b hb).trans e) f0 f1 f3 f4 f5, q⟩
/-- y = {..} on one row, as data -/
theorem sd_setDc {i : Nat} {y : Str} {py : Pos} {kx vx tg iter : Expr} {ifs : List Expr} {t : Tg} {own : List (Str × Nat)} {spos : Pos} (hN : X.N.Nodup) (ok : BlkOk X.N X.env.scope scope own)
    (ht : ∀ s H C cl fp, PG (Cx.bk X scope s H C cl fp) tg (t.g X.K)) (h : DcD n X scope t (own.map (·.2)) env M kx vx tg iter ifs fun d M' => nx (env.set i (.dat d), M'))
    (hy : X.N[i]? = some y := by rfl) (hyl : X.env.scope.names.lookup y = some .local := by rfl)
    (hsw : swapsWith (.DictComp kx vx [⟨tg, iter, ifs, 0⟩] scope pos) (some (.Name y py)) spos.line X.env = pure true := by exact sw_true rfl rfl rfl (by decide +kernel)) (hsl : ∀ i ∈ t.slots, i ∈ own.map (·.2) := by decide)
    (hc : X.calm = true := by rfl) (hs : ∀ x, foldedSetIterable iter X.env x = pure x := by exact fun _ => rfl) : SD n X (env, M) (.Assign [.Name y py] (.DictComp kx vx [⟨tg, iter, ifs, 0⟩] scope pos) spos) ⟨nx, rt, bk, ct⟩ := fun B as σ H hn C Dd w =>
  wpS_of (ps_setDc hc hN hy hyl hsw wpI_ok ok ht (fun s H C cl fp => ⟨fun pins s' σ' H' Q' I' h' => h' s H C cl fp pins s' I'⟩) (fun s H C cl fp => ⟨fun pins s' σ' H' Q' I' h' => h' s H C cl fp pins s' I'⟩) (fun s H C cl fp => ⟨fun pins s' σ' H' Q' I' h' => h' s H C cl fp pins s' I'⟩) hs) (dc_run hsl h hn C fun d p M' as' H' hp C' dv C2 => w.nx _ as' _ H' hp ⟨C'.px, C'.cf.setv (e := .dat d) dv⟩)
theorem sd_setLc2 {i : Nat} {y : Str} {py : Pos} {elt tg iter tg1 iter1 : Expr} {ifs1 : List Expr} {t t1 : Tg} {own : List (Str × Nat)} {spos : Pos} (vs1 : List Nat) (hN : X.N.Nodup) (ok : BlkOk X.N X.env.scope scope own)
    (ht : ∀ s H C cl fp, PG (Cx.bk X scope s H C cl fp) tg (t.g X.K)) (ht1 : ∀ s H C cl fp, PG (Cx.bk X scope s H C cl fp) tg1 (t1.g X.K)) (h : ID n X (env, M) tg iter (Lc2Body n X scope t t1 (own.map (·.2)) vs1 env elt tg1 iter1 ifs1 fun d M' => nx (env.set i (.dat d), M')))
    (hy : X.N[i]? = some y := by rfl) (hyl : X.env.scope.names.lookup y = some .local := by rfl)
    (hsw : swapsWith (.ListComp elt [⟨tg, iter, [], 0⟩, ⟨tg1, iter1, ifs1, 0⟩] scope pos) (some (.Name y py)) spos.line X.env = pure true := by exact sw_true rfl rfl rfl (by decide +kernel)) (hsl : ∀ i ∈ t.slots, i ∈ own.map (·.2) := by decide) (hsl1 : ∀ i ∈ t1.slots, i ∈ vs1 := by decide) (hv : ∀ i ∈ vs1, i ∈ own.map (·.2) := by decide)
    (hc : X.calm = true := by rfl) (hs : ∀ x, foldedSetIterable iter X.env x = pure x := by exact fun _ => rfl) (hs1 : ∀ env x, foldedSetIterable iter1 env x = pure x := by exact fun _ _ => rfl) : SD n X (env, M) (.Assign [.Name y py] (.ListComp elt [⟨tg, iter, [], 0⟩, ⟨tg1, iter1, ifs1, 0⟩] scope pos) spos) ⟨nx, rt, bk, ct⟩ := fun B as σ H hn C Dd w =>
  wpS_of (ps_setLc2 hc hN hy hyl hsw wpI_ok ok hv ht (fun s H C cl fp => ⟨fun pins s' σ' H' Q' I' h' => h' s H C cl fp pins s' I'⟩) (fun s H C cl fp => ⟨fun pins s' σ' H' Q' I' h' => h' s H C cl fp pins s' I'⟩) ht1 (fun s H C cl fp => ⟨fun pins s' σ' H' Q' I' h' => h' s H C cl fp pins s' I'⟩) (fun s H C cl fp => ⟨fun pins s' σ' H' Q' I' h' => h' s H C cl fp pins s' I'⟩) hs hs1) (lc2_run hsl hsl1 h hn C fun d p M' as' H' hp C' dv C2 => w.nx _ as' _ H' hp ⟨C'.px, C'.cf.setv (e := .dat d) dv⟩)
theorem map_get' {α β : Type} {f : α → β} {xs : List α} {i : Nat} {d : β} (h : (xs.map f)[i]? = some d) : ∃ x, xs[i]? = some x ∧ d = f x := by
  rw [List.getElem?_map] at h
  cases e : xs[i]? with
  | none =>
    rw [e] at h
    cases h
  | some x =>
    rw [e] at h
    exact ⟨x, rfl, (Option.some.inj h).symm⟩
theorem take_snoc' {α : Type} {xs : List α} {i : Nat} {x : α} (h : xs[i]? = some x) : xs.take (i + 1) = xs.take i ++ [x] := by
  rw [List.take_succ, h]
  simp
theorem flat_le {α β : Type} {f : α → List β} {xs : List α} {i : Nat} {x : α} (h : xs[i]? = some x) : ((xs.take i).flatMap f).length + (f x).length ≤ (xs.flatMap f).length := by
  have e : xs = xs.take i ++ [x] ++ xs.drop (i + 1) := by
    rw [← take_snoc' h, List.take_append_drop]
  have key : (xs.flatMap f).length = (((xs.take i ++ [x] ++ xs.drop (i + 1))).flatMap f).length := by rw [← e]
  rw [key]
  simp only [List.flatMap_append, List.length_append, List.flatMap_cons, List.flatMap_nil, List.append_nil]
  omega
/-- the inner clause, plain: items ys -/
theorem lc2in_map {β : Type} {items : List D} {S : Mem → Prop} {M1 M3 : Mem} {t1 : Tg} {vs1 : List Nat} {env' : EnvD} {elt : Expr} {fin : List D → Prop} {acc0 : List D} (ys : List β) (enc1 : β → D) (g : β → D) (hi : items = ys.map enc1) (hM : M3 = M1 ++ [.lst acc0]) (hl : acc0.length + ys.length ≤ sizeLine)
    (el : ∀ y ∈ ys, ∀ acc, ∃ env'', t1.setE (enc1 y) (wipeE env' vs1) = some env'' ∧ EDu n X scope (env'', M1 ++ [.lst acc]) elt fun r M6 => r = .dat (g y) ∧ M6 = M1 ++ [.lst acc])
    (hS : ∀ acc, S (M1 ++ [.lst acc])) (hf : fin (acc0 ++ ys.map g)) : Lc2In n X scope t1 vs1 env' elt [] M1 acc0 fin items S M3 := by
  subst hi
  refine ⟨hM, fun j acc => acc = acc0 ++ (ys.take j).map g, by simp, fun j acc d hd e => ?_, fun acc e => ⟨hS _, ?_⟩⟩
  · obtain ⟨y, hy, rfl⟩ := map_get' hd
    obtain ⟨env'', h1, h2⟩ := el y (List.mem_of_getElem? hy) acc
    refine ⟨hS _, env'', h1, tsu_nil ⟨rfl, fun _ s H C cl fp => ed_imp (h2 s H C cl fp) fun r M6 ⟨e1, e2⟩ => ⟨_, e1, e2, ?_, ?_⟩, fun z => by cases z⟩⟩
    · have hj := (List.getElem?_eq_some_iff.mp hy).1
      rw [e, List.length_append, List.length_map, List.length_take]
      omega
    · show _ = acc0 ++ (ys.take (j + 1)).map g
      rw [e, take_snoc' hy]
      simp
  · have e : acc = acc0 ++ (ys.take (ys.map enc1).length).map g := e
    rw [List.length_map, List.take_length] at e
    rw [e]
    exact hf
/-- the whole, plain -/
theorem lc2_plain {α : Type} {items : List D} {S : Mem → Prop} {M1 : Mem} {t t1 : Tg} {vs vs1 : List Nat} {elt tg1 iter1 : Expr} {ifs1 : List Expr} {P : D → Mem → Prop} (xs : List α) (enc : α → D) (f : α → List D) (hi : items = xs.map enc) (hl : (xs.flatMap f).length ≤ sizeLine)
    (el : ∀ x ∈ xs, ∀ acc, acc.length + (f x).length ≤ sizeLine → ∃ env', t.setE (enc x) (wipeE env vs) = some env' ∧ ∀ fin : List D → Prop, fin (acc ++ f x) → ∀ s H C cl fp, ID n (Cx.bk X scope s H C cl fp) (env', M1 ++ [.lst acc]) tg1 iter1 (Lc2In n X scope t1 vs1 env' elt ifs1 M1 acc fin))
    (hS : ∀ acc, S (M1 ++ [.lst acc])) (hP : P (.lst (xs.flatMap f)) M1) : Lc2Body n X scope t t1 vs vs1 env elt tg1 iter1 ifs1 P items S M1 := by
  subst hi
  refine ⟨fun i acc => acc = (xs.take i).flatMap f, rfl, fun i acc d hd e => ?_, fun acc e => ⟨hS _, ?_⟩⟩
  · obtain ⟨y, hy, rfl⟩ := map_get' hd
    have := flat_le (f := f) hy
    obtain ⟨env', h1, h2⟩ := el y (List.mem_of_getElem? hy) acc (by rw [e]; omega)
    refine ⟨hS _, env', h1, h2 _ ?_⟩
    show _ = (xs.take (i + 1)).flatMap f
    rw [e, take_snoc' hy]
    simp
  · have e : acc = (xs.take (xs.map enc).length).flatMap f := e
    rw [List.length_map, List.take_length] at e
    rw [e]
    exact hP
theorem putKey_new {ks : List Key} {k : Key} (h : k ∉ ks) : putKey ks k = ks ++ [k] := by
  unfold putKey
  rw [if_neg]
  intro z
  obtain ⟨k', h1, h2⟩ := List.any_eq_true.mp z
  exact h (of_decide_eq_true h2 ▸ h1)
theorem putVal_new {ks : List Key} {ds : List D} {k : Key} {d : D} (h : k ∉ ks) : putVal ks ds k d = ds ++ [d] := by
  unfold putVal
  rw [if_neg]
  intro z
  obtain ⟨k', h1, h2⟩ := List.any_eq_true.mp z
  exact h (of_decide_eq_true h2 ▸ h1)
/-- {k: v for ..}, the keys apart -/
theorem dcd_map {α : Type} {items : List D} {S : Mem → Prop} {M1 : Mem} {t : Tg} {vs : List Nat} {kx vx : Expr} {P : D → Mem → Prop} (xs : List α) (enc : α → D) (kf : α → Key) (vf : α → D) (hi : items = xs.map enc) (hl : xs.length ≤ sizeLine) (nd : (xs.map kf).Nodup)
    (el : ∀ x ∈ xs, ∀ ks ds, ∃ env', t.setE (enc x) (wipeE env vs) = some env' ∧ EDu n X scope (env', M1 ++ [.dic ks ds]) kx fun rk M4 => rk = .dat (keyD (kf x)) ∧ M4 = M1 ++ [.dic ks ds] ∧ EDu n X scope (env', M4) vx fun r M5 => r = .dat (vf x) ∧ M5 = M1 ++ [.dic ks ds])
    (hS : ∀ ks ds, S (M1 ++ [.dic ks ds])) (hP : P (.dic (xs.map kf) (xs.map vf)) M1) : DcBody n X scope t vs env kx vx [] P items S M1 := by
  subst hi
  refine ⟨fun i M2 ks ds => M2 = M1 ∧ ks = (xs.take i).map kf ∧ ds = (xs.take i).map vf, ⟨rfl, rfl, rfl⟩, fun i M2 ks ds d hd ⟨e0, e1, e2⟩ => ?_, fun M2 ks ds ⟨e0, e1, e2⟩ => ?_⟩
  · subst e0
    obtain ⟨x, hx, rfl⟩ := map_get' hd
    have hi := (List.getElem?_eq_some_iff.mp hx).1
    obtain ⟨env', h1, h2⟩ := el x (List.mem_of_getElem? hx) ks ds
    refine ⟨hS _ _, env', h1, tsu_nil ⟨fun _ s H C cl fp => ed_imp (h2 s H C cl fp) fun rk M4 ⟨e3, e4, h3⟩ s H C cl fp => ed_imp (h3 s H C cl fp) fun r M5 ⟨e5, e6⟩ => ?_, fun z => by cases z⟩⟩
    subst e3
    have nin : kf x ∉ ks := by
      rw [e1]
      intro z
      have := nd
      rw [show xs.map kf = (xs.take (i + 1)).map kf ++ (xs.drop (i + 1)).map kf by rw [← List.map_append, List.take_append_drop], take_snoc' hx] at this
      simp only [List.map_append, List.map_cons, List.map_nil] at this
      exact (List.nodup_append.mp (List.nodup_append.mp this).1).2.2 _ z _ (List.mem_singleton.mpr rfl) rfl
    refine ⟨kf x, vf x, M2, ?_, e5, e6, rfl, ?_, rfl, ?_, ?_⟩
    · rfl
    · rw [e2, List.length_map, List.length_take]
      omega
    · rw [putKey_new nin, e1, take_snoc' hx]
      simp
    · rw [putVal_new nin, e2, take_snoc' hx]
      simp
  · subst e0
    subst e1
    subst e2
    refine ⟨hS _ _, ?_⟩
    rw [List.length_map, List.take_length]
    exact hP
theorem valD_map {α : Type} {xs : List α} {kf : α → Key} {vf : α → D} {x : α} (nd : (xs.map kf).Nodup) (hx : x ∈ xs) : valD (xs.map kf) (xs.map vf) (kf x) = some (vf x) := by
  induction xs with
  | nil => cases hx
  | cons y ys ih =>
    simp only [List.map_cons, valD]
    rw [List.map_cons, List.nodup_cons] at nd
    rcases List.mem_cons.mp hx with e | e
    · subst e
      rw [if_pos rfl]
    · have hne : kf y ≠ kf x := fun z => nd.1 (by rw [z]; exact List.mem_map_of_mem e)
      rw [if_neg hne]
      exact ih nd.2 e
/-- a module's constant -/
def GlobD (K : PySem.W.Frag) (mg : Str → Option Value) (x : Str) (d : D) : Prop := ∃ v u, mg x = some u ∧ RelV v u ∧ ∀ N H, DV K N H d v
theorem ed_gl {x : Str} {d : D} (h : GlobD X.K X.mg x d) (p : P (.dat d) M) (hg : Gl X x := by rfl) (hdb : (x == ("__debug__" : Str)) = false := by decide) : ED n X (env, M) (.Name x pos) P := by
  obtain ⟨v, u, h1, h2, h3⟩ := h
  exact ed_glob h1 h2 h3 p hg hdb
end
end Dl
set_option Elab.async false
set_option linter.all false
set_option maxRecDepth 100000
set_option maxHeartbeats 2000000
/-! Dl part 12: what may be asked for ==, and what comes of it. -/
namespace Dl
open PySem L2 PyProof.Rows
theorem toPys_map (ds : List D) : toPys ds = ds.map toPy := by
  induction ds with
  | nil => rfl
  | cons d ds ih => rw [toPys, ih]; rfl
/-- data for ==, at most k deep -/
structure OkN (k : Nat) (d : D) : Prop where
  p : pure0 d = true
  l : (toPy d).canLay0 = true
  n : (toPy d).depth ≤ k
theorem OkN.mono {j k : Nat} {d : D} (h : OkN j d) (l : j ≤ k) : OkN k d := ⟨h.p, h.l, Nat.le_trans h.n l⟩
theorem OkN.ok {k : Nat} {d : D} (h : OkN k d) (l : k ≤ 64 := by decide) : okD d = true := by
  unfold okD SeqAt.shaped
  rw [h.p, h.l]
  simp
  exact Nat.le_trans h.n l
theorem okN_int {i : Int} : OkN 0 (.int i) := ⟨rfl, rfl, Nat.le_refl _⟩
theorem okN_bl {i : Bool} : OkN 0 (.bl i) := ⟨rfl, rfl, Nat.le_refl _⟩
theorem okN_non : OkN 0 .non := ⟨rfl, rfl, Nat.le_refl _⟩
theorem pures_all {ds : List D} (h : ∀ d ∈ ds, pure0 d = true) : pures ds = true := by
  induction ds with
  | nil => rfl
  | cons d ds ih =>
    rw [pures, h d List.mem_cons_self, ih fun e he => h e (List.mem_cons_of_mem _ he)]
    rfl
theorem lays_all {ds : List PyData} (h : ∀ d ∈ ds, d.canLay0 = true) : PyData.canLayAll0 ds = true := by
  induction ds with
  | nil => rfl
  | cons d ds ih =>
    rw [PyData.canLayAll0, h d List.mem_cons_self, ih fun e he => h e (List.mem_cons_of_mem _ he)]
    rfl
theorem depths_all {k : Nat} {ds : List PyData} (h : ∀ d ∈ ds, d.depth ≤ k) : PyData.depthAll ds ≤ k := by
  induction ds with
  | nil => exact Nat.zero_le _
  | cons d ds ih =>
    have h1 := h d List.mem_cons_self
    have h2 := ih fun e he => h e (List.mem_cons_of_mem _ he)
    rw [PyData.depthAll]
    omega
theorem okN_lst {k : Nat} {ds : List D} (h : ∀ d ∈ ds, OkN k d) : OkN (k + 1) (.lst ds) := by
  refine ⟨pures_all fun d hd => (h d hd).p, ?_, ?_⟩
  · show (PyData.list (toPys ds)).canLay0 = true
    rw [PyData.canLay0, toPys_map]
    exact lays_all fun x hx => by
      obtain ⟨d, hd, rfl⟩ := List.mem_map.mp hx
      exact (h d hd).l
  · show (PyData.list (toPys ds)).depth ≤ _
    rw [PyData.depth, toPys_map]
    have := depths_all (k := k) (ds := ds.map toPy) fun x hx => by
      obtain ⟨d, hd, rfl⟩ := List.mem_map.mp hx
      exact (h d hd).n
    omega
theorem okN_tup {k : Nat} {ds : List D} (h : ∀ d ∈ ds, OkN k d) : OkN (k + 1) (.tup ds) := by
  refine ⟨pures_all fun d hd => (h d hd).p, ?_, ?_⟩
  · show (PyData.tuple (toPys ds)).canLay0 = true
    rw [PyData.canLay0, toPys_map]
    exact lays_all fun x hx => by
      obtain ⟨d, hd, rfl⟩ := List.mem_map.mp hx
      exact (h d hd).l
  · show (PyData.tuple (toPys ds)).depth ≤ _
    rw [PyData.depth, toPys_map]
    have := depths_all (k := k) (ds := ds.map toPy) fun x hx => by
      obtain ⟨d, hd, rfl⟩ := List.mem_map.mp hx
      exact (h d hd).n
    omega
theorem okN_map {α : Type} {k : Nat} {f : α → D} {xs : List α} (h : ∀ x ∈ xs, OkN k (f x)) : OkN (k + 1) (.lst (xs.map f)) := okN_lst fun d hd => by
  obtain ⟨x, hx, rfl⟩ := List.mem_map.mp hd
  exact h x hx
theorem eqD_int' {i j : Int} : eqD (.int i) (.int j) = decide (i = j) := by
  rw [eqD_int]
  rfl
theorem eqD_map {α : Type} [DecidableEq α] {f : α → D} (h : ∀ a b, eqD (f a) (f b) = decide (a = b)) : ∀ xs ys : List α, eqD (.lst (xs.map f)) (.lst (ys.map f)) = decide (xs = ys) := by
  intro xs ys
  unfold eqD
  show PyData.eqv (.list (toPys (xs.map f))) (.list (toPys (ys.map f))) = _
  rw [PyData.eqv]
  induction xs generalizing ys with
  | nil =>
    cases ys with
    | nil => rfl
    | cons y ys => rfl
  | cons x xs ih =>
    cases ys with
    | nil => rfl
    | cons y ys =>
      simp only [List.map_cons, toPys, PyData.eqvAll]
      rw [ih ys, show PyData.eqv (toPy (f x)) (toPy (f y)) = decide (x = y) from h x y]
      by_cases e1 : x = y <;> by_cases e2 : xs = ys <;> simp [e1, e2]
section
variable {K : PySem.W.Frag} {B : Bs} {as : List Addr} {σ : L2.St} {H H' : Hp}
variable {X : Cx} {n : Nat} {env : EnvD} {M : Mem} {c : Conf} {e a b o : Expr} {es : List Expr} {pos apos p : Pos}
theorem td_chain {P : Bool → Mem → Prop} {c : Expr} {op op' : CmpOp} {g g' : Int → Int → Bool} (ho : OpR X (compareOp op) (rI0 fun i j => .bl (g i j))) (ho' : OpR X (compareOp op') (rI0 fun i j => .bl (g' i j)))
    (h : ED n X (env, M) a fun r1 M1 => ED n X (env, M1) b fun r2 M2 => ∃ i j, rdD M2 r1 = some (.int i) ∧ rdD M2 r2 = some (.int j) ∧ (g i j = true → ED n X (env, M2) c fun r3 M3 => ∃ k, rdD M3 r3 = some (.int k) ∧ P (g' j k) M3) ∧ (g i j = false → P false M2))
    (hm : lastMarks [op, op'] [b, c] = false := by with_unfolding_all rfl) : TD n X (env, M) (.Compare a [op, op'] [b, c] pos) P := fun B as σ H hn C Q q =>
  wpT_of (pt_chain ho ho' wpE_ok wpE_ok wpE_ok hm) (by
    refine h B as σ H hn C _ fun r1 v1 M1 as1 H1 h1 C1 o1 => ?_
    refine h1 (B.add (r1, v1)) as1 σ H1 hn (C1.cf.add o1) _ fun r2 v2 M2 as2 H2 ⟨i, j, e1, e2, ht, hf⟩ C2 o2 => ?_
    have d1 : v1 = .int i := rd_dv C2.cf C2.cf.top e1 trivial
    have d2 : v2 = .int j := rd_dv C2.cf o2 e2 trivial
    refine ⟨i, j, d1, d2, g i j, rfl, ?_⟩
    cases hg : g i j with
    | true =>
      refine iteT ?_
      refine ht hg B as2 σ H2 hn C2.cf.pop _ fun r3 v3 M3 as3 H3 ⟨k, e3, p⟩ C3 o3 => ?_
      have d3 : v3 = .int k := rd_dv C3.cf o3 e3 trivial
      exact ⟨j, k, d2, d3, _, rfl, q _ M3 _ H3 p ((C1.tr C2.pop).tr C3)⟩
    | false => exact iteF ⟨_, rfl, q _ M2 _ H2 (hf hg) (C1.tr C2.pop)⟩)
theorem sd_pars {nx : Conf → Prop} {rt : Bool → D → Mem → Prop} {bk ct : Conf → Prop} {i j l : Nat} {x y z : Str} {c3 : Expr} {px py pz pt : Pos} {kt k2 pt2} (h : AD n X (env, M) [a, b, c3] fun rs M' => ∃ r1 r2 r3, rs = [r1, r2, r3] ∧ nx (((env.set i r1).set j r2).set l r3, M')) (hN : X.N.Nodup) (hi : X.N[i]? = some x := by rfl) (hj : X.N[j]? = some y := by rfl) (hl : X.N[l]? = some z := by rfl) (hij : i ≠ j := by decide) (hil : i ≠ l := by decide) (hjl : j ≠ l := by decide)
    (hx : X.env.scope.names.lookup x = some .local := by rfl) (hy : X.env.scope.names.lookup y = some .local := by rfl) (hz : X.env.scope.names.lookup z = some .local := by rfl)
    (hw : swappedStores [.Tuple [.Name x px, .Name y py, .Name z pz] kt pt] (.Tuple [a, b, c3] k2 pt2) X.env = pure (some [x, y, z]) := by rfl)
    (hs : swapsWithSole [.Tuple [.Name x px, .Name y py, .Name z pz] kt pt] (.Tuple [a, b, c3] k2 pt2) pos.line X.env = pure false := by rfl) (hc : X.calm = true := by rfl) :
    SD n X (env, M) (.Assign [.Tuple [.Name x px, .Name y py, .Name z pz] kt pt] (.Tuple [a, b, c3] k2 pt2) pos) ⟨nx, rt, bk, ct⟩ :=
  sd_par3 h hN hi hj hl hij hil hjl fun t ht => ps_par3 hc hN hi hj hl hij hil hjl hx hy hz ht hw hs
end
end Dl
set_option Elab.async false
set_option linter.all false
set_option maxRecDepth 100000
set_option maxHeartbeats 2000000
/-! Dl part 13: literal data, list.count. -/
namespace Dl
open PySem L2 PyProof.Rows
def litD : Nat → Expr → Option D
  | 0, _ => none
  | _ + 1, .Constant (.int i) _ _ => some (.int i)
  | _ + 1, .Constant (.str x) _ _ => some (.str x)
  | _ + 1, .UnaryOp .USub (.Constant (.int i) _ _) _ => some (.int (-i))
  | k + 1, .Tuple es _ _ => if es.length ≤ 1000 then (es.mapM (litD k)).map .tup else none
  | k + 1, .List es _ => if es.length ≤ 1000 then (es.mapM (litD k)).map .lst else none
  | _ + 1, _ => none
section
variable {K : PySem.W.Frag} {B : Bs} {as : List Addr} {σ : L2.St} {H H' : Hp}
variable {X : Cx} {n : Nat} {env : EnvD} {M : Mem} {c : Conf} {P : PP} {e a b o : Expr} {es : List Expr} {pos apos p : Pos}
theorem lit_plain : ∀ (k : Nat) (e : Expr) (d : D), litD k e = some d → ∀ (es : List Expr) (env : Env), starEach (e :: es) env = (false, eval e env) :: starEach es env := by
  intro k e d h es env
  cases k with
  | zero => cases h
  | succ k =>
    cases e <;> first | rfl | (exfalso; simp [litD] at h)
theorem litM_len {k : Nat} : ∀ {es : List Expr} {ds : List D}, es.mapM (litD k) = some ds → ds.length = es.length
  | [], ds, h => by
    have : ds = [] := by simpa using h.symm
    rw [this]
    rfl
  | e :: es, ds, h => by
    rw [List.mapM_cons] at h
    cases h1 : litD k e with
    | none => rw [h1] at h; cases h
    | some d =>
      cases h2 : es.mapM (litD k) with
      | none => rw [h1, h2] at h; cases h
      | some r =>
        rw [h1, h2] at h
        have : ds = d :: r := by simpa using h.symm
        rw [this, List.length_cons, List.length_cons, litM_len h2]
theorem ad_litM {k : Nat} (ih : ∀ (e : Expr) (d : D), litD k e = some d → ∀ (P : PP), P (.dat d) M → ED n X (env, M) e P) : ∀ (es : List Expr) (ds : List D), es.mapM (litD k) = some ds → ∀ (P : List EI → Mem → Prop), P (ds.map EI.dat) M → AD n X (env, M) es P
  | [], ds, h, P, p => by
    have : ds = [] := by simpa using h.symm
    subst this
    exact ad_nil p
  | e :: es, ds, h, P, p => by
    rw [List.mapM_cons] at h
    cases h1 : litD k e with
    | none => rw [h1] at h; cases h
    | some d =>
      cases h2 : es.mapM (litD k) with
      | none => rw [h1, h2] at h; cases h
      | some r =>
        rw [h1, h2] at h
        have : ds = d :: r := by simpa using h.symm
        subst this
        refine ad_cons (ih e d h1 _ (ad_litM ih es r h2 _ p)) (lit_plain k e d h1 es X.env)
theorem ed_lit : ∀ (k : Nat) {e : Expr} {d : D}, litD k e = some d → ∀ {P : PP}, P (.dat d) M → ED n X (env, M) e P := by
  intro k
  induction k with
  | zero => intro e d h; cases h
  | succ k ih =>
    intro e d h P p
    cases e with
    | Constant c j pos =>
      cases c with
      | int i =>
        cases h
        exact ed_int p
      | str x =>
        cases h
        exact ed_str p
      | _ => simp [litD] at h
    | UnaryOp op e pos =>
      cases op with
      | USub =>
        cases e with
        | Constant c j pos2 =>
          cases c with
          | int i =>
            cases h
            exact ed_neg (ed_int ⟨_, rfl, p⟩)
          | _ => simp [litD] at h
        | _ => simp [litD] at h
      | _ => simp [litD] at h
    | Tuple es j pos =>
      rw [litD] at h
      by_cases hl : es.length ≤ 1000
      · rw [if_pos hl] at h
        cases h2 : es.mapM (litD k) with
        | none => rw [h2] at h; cases h
        | some r =>
          rw [h2] at h
          cases h
          exact ed_tup (ad_litM (fun e d h P p => ih h p) es r h2 _ ⟨r, rfl, Nat.le_trans (by rw [litM_len h2]; exact hl) (by decide), p⟩)
      · rw [if_neg hl] at h
        cases h
    | List es pos =>
      rw [litD] at h
      by_cases hl : es.length ≤ 1000
      · rw [if_pos hl] at h
        cases h2 : es.mapM (litD k) with
        | none => rw [h2] at h; cases h
        | some r =>
          rw [h2] at h
          cases h
          exact ed_lst (ad_litM (fun e d h P p => ih h p) es r h2 _ ⟨r, rfl, Nat.le_trans (by rw [litM_len h2]; exact hl) (by decide), p⟩)
      · rw [if_neg hl] at h
        cases h
    | _ => simp [litD] at h
/-- xs.count(k), ints -/
theorem ed_count (h : ED n X (env, M) o fun r0 M0 => ∃ ns : List Int, rdD M0 r0 = some (.lst (ns.map .int)) ∧ ED n X (env, M0) a fun r1 M1 => ∃ k, rdD M1 r0 = some (.lst (ns.map .int)) ∧ rdD M1 r1 = some (.int k) ∧ P (.dat (.int (ns.count k : Nat))) M1)
    (hbase : attributeBase o "count" X.env (eval o X.env) = eval o X.env := by rfl) (hline : (apos.endLine == pos.line) = true := by rfl) (he : starEach (a :: []) X.env = (false, eval a X.env) :: starEach [] X.env := by rfl)
    (hfew : ((backTo pos (starEach (a :: []) X.env)).all (fun x => !x.1) && (backToKw pos (keywordEach [] X.env)).all (fun x => x.1.isSome) && decide ((a :: []).length + ([] : List Keyword).length + (if ([] : List Keyword).isEmpty then 0 else 1) < 30)) = true := by rfl) (hplain : (backTo pos (starEach [] X.env)).any (·.1) = false := by rfl) :
    ED n X (env, M) (.Call (.Attribute o "count" apos) [a] [] pos) P :=
  ed_lift (pe_bm PySem.F.plainAttrs_list PySem.F.slot_list_count PySem.F.type_list_count mt_lcount wpE_ok (pa_cons wpE_ok pa_nil he) hbase hfew hline he hplain) fun B as σ H hn C Q q => by
    refine h B as σ H hn C _ fun r0 v0 M0 as0 H0 ⟨ns, e0, h1⟩ C0 o0 => ?_
    obtain ⟨y0, rfl, e1⟩ := rd_ints C0.cf o0 e0
    refine ⟨tyV_lst rfl e1, ?_⟩
    refine h1 (B.add (r0, .ref y0)) as0 σ H0 hn (C0.cf.add o0) _ fun r1 v1 M1 as1 H1 ⟨k, e2, e3, p⟩ C1 o1 => ?_
    obtain ⟨y', ee, e4⟩ := rd_ints C1.cf C1.cf.top e2
    have ee : y0 = y' := by injection ee
    subst ee
    have d1 : v1 = .int k := rd_dv C1.cf o1 e3 trivial
    subst d1
    exact ⟨y0, ns, k, rfl, rfl, SqL.of e4, q _ _ M1 as1 H1 p (C0.tr C1.pop) rfl⟩
end
end Dl
set_option Elab.async false
set_option linter.all false
set_option maxRecDepth 100000
set_option maxHeartbeats 2000000
/-! Zn: zip of any number of lists, star call, list(..) of it. -/
namespace Zn
open PySem
/-- an iterator, its source, the items, whether the source is a tuple -/
abbrev Pz := Addr × Addr × Array Value × Bool
def IsIt (h : Heap) (k : Nat) (p : Pz) : Prop := match p.2.2.2 with
  | true => h.IsTupleIter p.1 p.2.1 k
  | false => h.IsListIter p.1 p.2.1 k
def IsSrc (h : Heap) (a : Addr) (items : Array Value) (t : Bool) : Prop := match t with
  | true => h.IsTuple a items
  | false => h.IsList a items
structure At (h : Heap) (k : Nat) (p : Pz) : Prop where
  it : IsIt h k p
  ls : IsSrc h p.2.1 p.2.2.1 p.2.2.2
abbrev IsTupN (h : Heap) (T : Addr) (us : List Value) : Prop := h.get? T = some { cls := .type "tuple", data := .seq us.toArray }
def its (ps : List Pz) : List Value := ps.map fun p => .ref p.1
def vals (k : Nat) (ps : List Pz) : List Value := ps.map fun p => p.2.2.1.getD k .none
structure Apart (z TI TO : Addr) (ps : List Pz) : Prop where
  nd : (ps.map (·.1)).Nodup
  it : ∀ p ∈ ps, p.1 ≠ z ∧ p.1 ≠ TI ∧ p.1 ≠ TO
  li : ∀ p ∈ ps, ∀ q ∈ ps, p.2.1 ≠ q.1
  lz : ∀ p ∈ ps, p.2.1 ≠ z ∧ p.2.1 ≠ TO
  TIz : TI ≠ z
  TOz : TO ≠ z
  TITO : TI ≠ TO
section
variable {prog : Program} {w : World} {A : Around} {E : Value → Shared → Prop} {s : Shared}
theorem IsSrc.at {h h' : Heap} {a : Addr} {v : Array Value} {t : Bool} (x : IsSrc h a v t) (e : ∀ o, h.get? a = some o → h'.get? a = some o) : IsSrc h' a v t := by
  cases t
  · exact Heap.IsList.at x e
  · exact Heap.IsTuple.at x e
theorem IsSrc.alive {h : Heap} {a : Addr} {v : Array Value} {t : Bool} (x : IsSrc h a v t) : ∃ o, h.get? a = some o := by
  cases t
  · obtain ⟨o, e, _⟩ : h.IsList a v := x
    exact ⟨o, e⟩
  · obtain ⟨o, e, _⟩ : h.IsTuple a v := x
    exact ⟨o, e⟩
theorem IsIt.at {h h' : Heap} {k : Nat} {p : Pz} (x : IsIt h k p) (e : ∀ o, h.get? p.1 = some o → h'.get? p.1 = some o) : IsIt h' k p := by
  obtain ⟨i, l, v, t⟩ := p
  cases t
  · exact Heap.IsListIter.at (h := h) (h' := h') x e
  · exact Heap.IsTupleIter.at (h := h) (h' := h') x e
theorem IsIt.alive {h : Heap} {k : Nat} {p : Pz} (x : IsIt h k p) : ∃ o, h.get? p.1 = some o ∧ ∀ c, o.data ≠ .cell c := by
  obtain ⟨i, l, v, t⟩ := p
  cases t
  · obtain ⟨o, e, _, d⟩ : h.IsListIter i l k := x
    exact ⟨o, e, fun c q => by rw [d] at q; cases q⟩
  · obtain ⟨o, e, _, d⟩ : h.IsTupleIter i l k := x
    exact ⟨o, e, fun c q => by rw [d] at q; cases q⟩
theorem At.at {h h' : Heap} {k : Nat} {p : Pz} (a : At h k p) (e1 : ∀ o, h.get? p.1 = some o → h'.get? p.1 = some o) (e2 : ∀ o, h.get? p.2.1 = some o → h'.get? p.2.1 = some o) : At h' k p := ⟨a.it.at e1, a.ls.at e2⟩
theorem At.ext {h h' : Heap} {k : Nat} {p : Pz} {c : Addr} (a : At h k p) (e : Heap.ExtBut c h h') (h1 : p.1 ≠ c) (h2 : p.2.1 ≠ c) : At h' k p := a.at (fun o z => e _ _ h1 z) fun o z => e _ _ h2 z
theorem At.next {k : Nat} {p : Pz} {Q : Value → Shared → Prop} (a : At s.heap k p) (hne : p.2.1 ≠ p.1) (hx : k < p.2.2.1.size) (hQ : ∀ h', At h' (k + 1) p → Heap.SameBut p.1 s.heap h' → Q p.2.2.1[k] { s with heap := h' }) :
    wpAny (model prog w) A (Builtin.SmallTypes.nextOf (.ref p.1)) Q E s := by
  obtain ⟨i, l, v, t⟩ := p
  have hg := Array.getElem?_eq_getElem hx
  cases t
  · exact wpAny_nextOf_list_item (it := i) (l := l) a.it a.ls hg fun h' b sb => hQ h' ⟨b, a.ls.at fun o e => sb.extBut _ _ hne e⟩ sb
  · exact RZ.nextOf_tuple_item (it := i) (l := l) a.it a.ls hg fun h' b sb => hQ h' ⟨b, a.ls.at fun o e => sb.extBut _ _ hne e⟩ sb
theorem At.fin {k : Nat} {p : Pz} {Q : Value → Shared → Prop} (hh : A.handled = none) (a : At s.heap k p) (hx : p.2.2.1.size ≤ k) (hE : ∀ h' e, Heap.ExtBut p.1 s.heap h' → (∃ o, h'.get? e = some o ∧ o.cls = .type "StopIteration") → E (.ref e) { s with heap := h' }) :
    wpAny (model prog w) A (Builtin.SmallTypes.nextOf (.ref p.1)) Q E s := by
  obtain ⟨i, l, v, t⟩ := p
  have hg := Array.getElem?_eq_none hx
  cases t
  · exact wpAny_nextOf_list_end (it := i) (l := l) hh a.it a.ls hg hE
  · exact RZ.nextOf_tuple_end (it := i) (l := l) hh a.it a.ls hg hE
theorem next_held {z TI TO T : Addr} {f : Bool} {oT : Obj} {k : Nat} {ps : List Pz} {Q : Value → Shared → Prop} (D : Apart z TI TO ps) (hne : ps ≠ []) (hn : ps.length ≤ 1000)
    (hz : IsZipHeld s.heap z TI TO T f) (hT : s.heap.get? T = some oT) (hTI : IsTupN s.heap TI (its ps))
    (ha : ∀ p ∈ ps, At s.heap k p) (hx : ∀ p ∈ ps, k < p.2.2.1.size)
    (hQ : ∀ h', IsZipHeld h' z TI TO T true → (∀ p ∈ ps, At h' (k + 1) p) → IsTupN h' s.heap.objs.size (vals k ps) → h'.objs.size = s.heap.objs.size + 1 →
      (∀ c o, c ≠ z → (∀ p ∈ ps, c ≠ p.1) → s.heap.get? c = some o → h'.get? c = some o) → Q (.ref s.heap.objs.size) { s with heap := h' }) :
    wpAny (model prog w) A (Builtin.«zip.__next__» ⟨[.ref z], []⟩) (fun fin s' => ∃ v, fin = .done (.ret v) ∧ Q v s') E s := by
  show wpAny _ _ (field (.ref z) 2 >>= _) _ _ _
  refine wpAny_bind (wpAny_field hz rfl (x := .bool false) rfl ?_)
  show wpAny _ _ (field (.ref z) 3 >>= _) _ _ _
  refine wpAny_bind (wpAny_field hz rfl (x := .ref TI) rfl ?_)
  refine wpAny_bind (wpAny_seqItems hTI rfl ?_)
  have he : (its ps).toArray.isEmpty = false := by
    cases ps with
    | nil => exact absurd rfl hne
    | cons p ps => simp [its]
  simp only [he]
  show wpAny _ _ (Builtin.SmallTypes.ownedTupleIsFree (.ref z) >>= _) _ _ _
  refine wpAny_bind (wpAny_tupleHeld_zip hz hT fun h₁ hz₁ hs₁ => ?_)
  simp only [Bool.false_eq_true, if_false]
  refine wpAny_bind ?_
  rw [← Array.forIn_toList]
  refine wpAny_forIn_list _ (fun rest b s' => ∃ pre suf, ps = pre ++ suf ∧ rest = its suf ∧ b = (none, (vals k pre).toArray) ∧ ∃ h', s' = { s with heap := h' } ∧ h'.objs.size = s.heap.objs.size ∧ IsZipHeld h' z TI TO T true ∧ (∀ p ∈ pre, At h' (k + 1) p) ∧ (∀ p ∈ suf, At h' k p) ∧
    ∀ c o, c ≠ z → (∀ p ∈ ps, c ≠ p.1) → s.heap.get? c = some o → h'.get? c = some o) _ (fun x rest b s' hI => ?_) (fun b s' hI => ?_) _ _ ⟨[], ps, rfl, by simp, rfl, h₁, rfl, hs₁.1, hz₁, (fun p hp => nomatch hp), fun p hp => (ha p hp).ext hs₁.extBut (D.it p hp).1 (D.lz p hp).1, fun c o c1 _ e => hs₁.extBut _ _ c1 e⟩
  · obtain ⟨pre, suf, e1, e2, e3, h', e4, hsz, hz', hp1, hp2, hk⟩ := hI
    cases suf with
    | nil => cases e2
    | cons p suf =>
      have ex : x = .ref p.1 := (List.cons.inj e2).1
      have er : rest = its suf := (List.cons.inj e2).2
      subst ex
      subst e3
      subst e4
      have hpm : p ∈ ps := by rw [e1]; simp
      have ap := hp2 p List.mem_cons_self
      have hxp := hx p hpm
      refine wpAny_bind (wpAny_holding ?_)
      show wpAny _ _ (Builtin.SmallTypes.nextOf (.ref p.1) >>= _) _ _ _
      refine wpAny_bind (At.next (s := { s with heap := h' }) ap (D.li p hpm p hpm) hxp fun h₂ a₂ hs₂ => wpAny_pure ?_)
      refine wpAny_pure ⟨pre ++ [p], suf, by rw [e1]; simp, er, ?_, h₂, rfl, by rw [hs₂.1, hsz], hs₂.extBut _ _ (D.it p hpm).1.symm hz', fun q hq => ?_, fun q hq => ?_, fun c o c1 c2 e => hs₂.extBut _ _ (c2 p hpm) (hk c o c1 c2 e)⟩
      · simp [vals, List.getD_eq_getElem?_getD, hxp]
      · rcases List.mem_append.mp hq with hq | hq
        · have hqm : q ∈ ps := by rw [e1]; exact List.mem_append_left _ hq
          have hne : q.1 ≠ p.1 := by
            have nd := D.nd
            rw [e1, List.map_append, List.map_cons] at nd
            exact fun z => (List.nodup_append.mp nd).2.2 _ (List.mem_map_of_mem hq) _ List.mem_cons_self z
          exact (hp1 q hq).ext hs₂.extBut hne (D.li q hqm p hpm)
        · have : q = p := List.mem_singleton.mp hq
          subst this
          exact a₂
      · have hqm : q ∈ ps := by rw [e1]; exact List.mem_append_right _ (List.mem_cons_of_mem _ hq)
        have hne : q.1 ≠ p.1 := by
          have nd := D.nd
          rw [e1, List.map_append, List.map_cons] at nd
          have := (List.nodup_cons.mp (List.nodup_append.mp nd).2.1).1
          exact fun z => this (z ▸ List.mem_map_of_mem hq)
        exact (hp2 q (List.mem_cons_of_mem _ hq)).ext hs₂.extBut hne (D.li q hqm p hpm)
  · obtain ⟨pre, suf, e1, e2, e3, h', e4, hsz, hz', hp1, hp2, hk⟩ := hI
    have hs0 : suf = [] := by
      cases suf with
      | nil => rfl
      | cons p suf => cases e2
    subst hs0
    rw [List.append_nil] at e1
    subst e1
    subst e3
    subst e4
    show wpAny _ _ (newTuple (vals k ps).toArray.toList >>= _) _ _ _
    rw [List.toList_toArray] at *
    refine wpAny_bind (wpAny_newTuple ?_ (by rw [vals, List.length_map]; exact Nat.le_trans hn (by decide)))
    refine wpAny_pure ⟨_, rfl, ?_⟩
    show Q (.ref h'.objs.size) _
    have hp : IsTupN (h'.push { cls := .type "tuple", data := .seq (vals k ps).toArray }) h'.objs.size (vals k ps) := Heap.get?_push_size _ rfl
    have hz4 : (h'.push { cls := .type "tuple", data := .seq (vals k ps).toArray }).objs.size = h'.objs.size + 1 := Heap.size_push ..
    rw [hsz] at hp hz4 ⊢
    exact hQ _ (Heap.get?_push_of_some _ hz') (fun p q => (hp1 p q).at (fun o e => Heap.get?_push_of_some _ e) fun o e => Heap.get?_push_of_some _ e) hp hz4 fun c o c1 c2 e => Heap.get?_push_of_some _ (hk c o c1 c2 e)
theorem upd_tupN {T : Addr} {us : List Value} {x : Value} {k : Nat} {Q : Unit → Shared → Prop} (hT : IsTupN s.heap T us) (hn : us.length ≤ 1000)
    (h : ∀ h', IsTupN h' T (us.set k x) → Heap.SameBut T s.heap h' → Q () { s with heap := h' }) :
    wpAny (model prog w) A (updateSeq T (·.setIfInBounds k x)) Q E s := by
  refine wpAny_updateSeq hT rfl (h _ ?_ (Heap.SameBut.update ..)) ?_ ?_
  · show Heap.get? _ _ = _
    rw [Heap.get?_update_self _ hT rfl]
    simp [Obj.mapSeq]
  · rw [List.size_toArray]
    exact Nat.le_trans hn (by decide)
  · simp
    exact Nat.le_trans hn (by decide)
theorem next_first {z TI TO : Addr} {k : Nat} {ps : List Pz} {us : List Value} {Q : Value → Shared → Prop} (D : Apart z TI TO ps) (hne : ps ≠ []) (hn : ps.length ≤ 1000)
    (hz : IsZip s.heap z TI TO .none) (hTI : IsTupN s.heap TI (its ps)) (hTO : IsTupN s.heap TO us) (hul : us.length = ps.length)
    (ha : ∀ p ∈ ps, At s.heap k p) (hx : ∀ p ∈ ps, k < p.2.2.1.size)
    (hQ : ∀ h', IsZip h' z TI TO (rawInt s.heap.objs.size) → IsTupN h' TO (vals k ps) → (∀ p ∈ ps, At h' (k + 1) p) → IsTupN h' s.heap.objs.size (vals k ps) → h'.objs.size = s.heap.objs.size + 1 →
      (∀ c o, c ≠ z → c ≠ TO → (∀ p ∈ ps, c ≠ p.1) → s.heap.get? c = some o → h'.get? c = some o) → Q (.ref s.heap.objs.size) { s with heap := h' }) :
    wpAny (model prog w) A (Builtin.«zip.__next__» ⟨[.ref z], []⟩) (fun fin s' => ∃ v, fin = .done (.ret v) ∧ Q v s') E s := by
  show wpAny _ _ (field (.ref z) 2 >>= _) _ _ _
  refine wpAny_bind (wpAny_field hz rfl (x := .bool false) rfl ?_)
  show wpAny _ _ (field (.ref z) 3 >>= _) _ _ _
  refine wpAny_bind (wpAny_field hz rfl (x := .ref TI) rfl ?_)
  refine wpAny_bind (wpAny_seqItems hTI rfl ?_)
  have he : (its ps).toArray.isEmpty = false := by
    cases ps with
    | nil => exact absurd rfl hne
    | cons p ps => simp [its]
  simp only [he]
  show wpAny _ _ (Builtin.SmallTypes.ownedTupleIsFree (.ref z) >>= _) _ _ _
  refine wpAny_bind ?_
  unfold Builtin.SmallTypes.ownedTupleIsFree
  refine wpAny_bind (wpAny_field hz rfl (x := .none) rfl (wpAny_pure ?_))
  simp only [if_true]
  refine wpAny_bind (wpAny_rule ?_)
  refine wpAny_bind (wpAny_field hz rfl (x := .ref TO) rfl ?_)
  refine wpAny_bind (wpAny_setField_rec hz (by simp) fun h₁ hz₁ hs₁ => ?_)
  replace hz₁ : IsZip h₁ z TI TO .ellipsis := hz₁
  refine wpAny_bind ?_
  refine wpAny_forIn_list _ (fun rest b s' => ∃ pre suf, ps = pre ++ suf ∧ rest = (its suf).zipIdx pre.length ∧ b = (none, ()) ∧ ∃ h', s' = { s with heap := h' } ∧ h'.objs.size = s.heap.objs.size ∧ IsZip h' z TI TO .ellipsis ∧ IsTupN h' TO (vals k pre ++ us.drop pre.length) ∧ (∀ p ∈ pre, At h' (k + 1) p) ∧ (∀ p ∈ suf, At h' k p) ∧
    ∀ c o, c ≠ z → c ≠ TO → (∀ p ∈ ps, c ≠ p.1) → s.heap.get? c = some o → h'.get? c = some o) _ (fun x rest b s' hI => ?_) (fun b s' hI => ?_) _ _ ⟨[], ps, rfl, rfl, rfl, h₁, rfl, hs₁.1, hz₁, hs₁.extBut _ _ D.TOz (by simpa [vals] using hTO), (fun p hp => nomatch hp), fun p hp => (ha p hp).ext hs₁.extBut (D.it p hp).1 (D.lz p hp).1, fun c o c1 _ _ e => hs₁.extBut _ _ c1 e⟩
  · obtain ⟨pre, suf, e1, e2, e3, h', e4, hsz, hz', hT', hp1, hp2, hk⟩ := hI
    cases suf with
    | nil => cases e2
    | cons p suf =>
      rw [its, List.map_cons, List.zipIdx_cons] at e2
      have ex : x = (.ref p.1, pre.length) := (List.cons.inj e2).1
      have er : rest = (its suf).zipIdx (pre.length + 1) := (List.cons.inj e2).2
      subst ex
      subst e3
      subst e4
      have hpm : p ∈ ps := by rw [e1]; simp
      have ap := hp2 p List.mem_cons_self
      have hxp := hx p hpm
      have hlen : pre.length < us.length := by rw [hul, e1]; simp
      have hTl : (vals k pre ++ us.drop pre.length).length ≤ 1000 := by
        rw [List.length_append, vals, List.length_map, List.length_drop]
        omega
      refine wpAny_bind (wpAny_onRaise ?_)
      show wpAny _ _ (Builtin.SmallTypes.nextOf (.ref p.1) >>= _) _ _ _
      refine wpAny_bind (At.next (s := { s with heap := h' }) ap (D.li p hpm p hpm) hxp fun h₂ a₂ hs₂ => wpAny_pure ?_)
      have hT₂ : IsTupN h₂ TO (vals k pre ++ us.drop pre.length) := hs₂.extBut _ _ (D.it p hpm).2.2.symm hT'
      refine wpAny_bind (wpAny_seqItems hT₂ rfl ?_)
      refine wpAny_bind (upd_tupN (s := { s with heap := h₂ }) hT₂ hTl fun h₃ hT₃ hs₃ => ?_)
      refine wpAny_bind (wpAny_letGo (wpAny_pure ?_))
      refine ⟨pre ++ [p], suf, by rw [e1]; simp, by rw [er]; simp, rfl, h₃, rfl, by rw [hs₃.1, hs₂.1, hsz], hs₃.extBut _ _ D.TOz.symm (hs₂.extBut _ _ (D.it p hpm).1.symm hz'), ?_, fun q hq => ?_, fun q hq => ?_, fun c o c1 c2 c3 e => hs₃.extBut _ _ c2 (hs₂.extBut _ _ (c3 p hpm) (hk c o c1 c2 c3 e))⟩
      · have e : (vals k pre ++ us.drop pre.length).set pre.length p.2.2.1[k] = vals k (pre ++ [p]) ++ us.drop (pre ++ [p]).length := by
          rw [List.set_append_right _ _ (by simp [vals])]
          simp [vals, List.getD_eq_getElem?_getD, hxp]
          rw [List.drop_eq_getElem_cons hlen, List.set_cons_zero]
        rw [← e]
        exact hT₃
      · rcases List.mem_append.mp hq with hq | hq
        · have hqm : q ∈ ps := by rw [e1]; exact List.mem_append_left _ hq
          have hne : q.1 ≠ p.1 := by
            have nd := D.nd
            rw [e1, List.map_append, List.map_cons] at nd
            exact fun z => (List.nodup_append.mp nd).2.2 _ (List.mem_map_of_mem hq) _ List.mem_cons_self z
          exact ((hp1 q hq).ext hs₂.extBut hne (D.li q hqm p hpm)).ext hs₃.extBut (D.it q hqm).2.2 (D.lz q hqm).2
        · have : q = p := List.mem_singleton.mp hq
          subst this
          exact a₂.ext hs₃.extBut (D.it q hpm).2.2 (D.lz q hpm).2
      · have hqm : q ∈ ps := by rw [e1]; exact List.mem_append_right _ (List.mem_cons_of_mem _ hq)
        have hne : q.1 ≠ p.1 := by
          have nd := D.nd
          rw [e1, List.map_append, List.map_cons] at nd
          have := (List.nodup_cons.mp (List.nodup_append.mp nd).2.1).1
          exact fun z => this (z ▸ List.mem_map_of_mem hq)
        exact ((hp2 q (List.mem_cons_of_mem _ hq)).ext hs₂.extBut hne (D.li q hqm p hpm)).ext hs₃.extBut (D.it q hqm).2.2 (D.lz q hqm).2
  · obtain ⟨pre, suf, e1, e2, e3, h₅, e4, hsz, hz₅, hT', hp1, hp2, hk⟩ := hI
    have hs0 : suf = [] := by
      cases suf with
      | nil => rfl
      | cons p suf => cases e2
    subst hs0
    rw [List.append_nil] at e1
    subst e1
    subst e3
    subst e4
    rw [← hul, List.drop_length, List.append_nil] at hT'
    show wpAny _ _ (seqItems? (Value.ref TO) >>= _) _ _ _
    refine wpAny_bind (wpAny_seqItems hT' rfl ?_)
    show wpAny _ _ (newTuple (vals k ps).toArray.toList >>= _) _ _ _
    rw [List.toList_toArray]
    refine wpAny_bind (wpAny_newTuple ?_ (by rw [vals, List.length_map]; exact Nat.le_trans hn (by decide)))
    have hzlt : z < h₅.objs.size := Heap.lt_size hz₅
    show wpAny _ _ (Builtin.SmallTypes.ownedTupleHandOut (.ref z) (.ref h₅.objs.size) >>= _) _ _ _
    refine wpAny_bind ?_
    unfold Builtin.SmallTypes.ownedTupleHandOut
    have hz₆ : IsZip (h₅.push { cls := .type "tuple", data := .seq (vals k ps).toArray }) z TI TO .ellipsis := Heap.get?_push_of_some _ hz₅
    refine wpAny_bind (wpAny_setField_rec hz₆ (by simp) fun h₇ hz₇ hs₇ => ?_)
    replace hz₇ : IsZip h₇ z TI TO (rawInt h₅.objs.size) := hz₇
    refine wpAny_setField_rec hz₇ (by simp) fun h₈ hz₈ hs₈ => ?_
    replace hz₈ : IsZip h₈ z TI TO (rawInt h₅.objs.size) := hz₈
    have up : ∀ c o, c ≠ z → h₅.get? c = some o → h₈.get? c = some o := fun c o c1 e => hs₈.extBut _ _ c1 (hs₇.extBut _ _ c1 (Heap.get?_push_of_some _ e))
    have hT₈ : IsTupN h₈ h₅.objs.size (vals k ps) := hs₈.extBut _ _ (Nat.ne_of_gt hzlt) (hs₇.extBut _ _ (Nat.ne_of_gt hzlt) (Heap.get?_push_size _ rfl))
    have hz8 : h₈.objs.size = h₅.objs.size + 1 := by rw [hs₈.1, hs₇.1, Heap.size_push]
    rw [hsz] at hz₈ hT₈ hz8
    refine wpAny_pure ⟨_, rfl, ?_⟩
    show Q (.ref h₅.objs.size) _
    rw [hsz]
    exact hQ h₈ hz₈ (up _ _ D.TOz hT') (fun p q => (hp1 p q).at (fun o e => up _ o (D.it p q).1 e) fun o e => up _ o (D.lz p q).1 e) hT₈ hz8 fun c o c1 c2 c3 e => up c o c1 (hk c o c1 c2 c3 e)
/-- at the end: the first list has no more -/
theorem next_end_held {z TI TO T : Addr} {f : Bool} {oT : Obj} {k : Nat} {p : Pz} {ps : List Pz} {Q : Fin → Shared → Prop} (hh : A.handled = none) (D : Apart z TI TO (p :: ps))
    (hz : IsZipHeld s.heap z TI TO T f) (hT : s.heap.get? T = some oT) (hTI : IsTupN s.heap TI (its (p :: ps)))
    (ha : At s.heap k p) (hx : p.2.2.1.size ≤ k)
    (hE : ∀ h' e, (∀ c o, c ≠ z → (∀ q ∈ p :: ps, c ≠ q.1) → s.heap.get? c = some o → h'.get? c = some o) → (∃ o, h'.get? e = some o ∧ o.cls = .type "StopIteration") → E (.ref e) { s with heap := h' }) :
    wpAny (model prog w) A (Builtin.«zip.__next__» ⟨[.ref z], []⟩) Q E s := by
  show wpAny _ _ (field (.ref z) 2 >>= _) _ _ _
  refine wpAny_bind (wpAny_field hz rfl (x := .bool false) rfl ?_)
  show wpAny _ _ (field (.ref z) 3 >>= _) _ _ _
  refine wpAny_bind (wpAny_field hz rfl (x := .ref TI) rfl ?_)
  refine wpAny_bind (wpAny_seqItems hTI rfl ?_)
  have he : (its (p :: ps)).toArray.isEmpty = false := by simp [its]
  simp only [he]
  show wpAny _ _ (Builtin.SmallTypes.ownedTupleIsFree (.ref z) >>= _) _ _ _
  refine wpAny_bind (wpAny_tupleHeld_zip hz hT fun h₁ hz₁ hs₁ => ?_)
  simp only [Bool.false_eq_true, if_false]
  refine wpAny_bind ?_
  rw [← Array.forIn_toList]
  rw [List.toList_toArray]
  simp only [its, List.map_cons, List.forIn_cons]
  refine wpAny_bind (wpAny_bind (wpAny_holding ?_))
  show wpAny _ _ (Builtin.SmallTypes.nextOf (.ref p.1) >>= _) _ _ _
  have a1 := ha.ext hs₁.extBut (D.it p List.mem_cons_self).1 (D.lz p List.mem_cons_self).1
  refine wpAny_bind (At.fin (s := { s with heap := h₁ }) hh a1 hx fun h₂ e hs₂ he => ?_)
  exact hE h₂ e (fun c o c1 c2 x => hs₂ _ _ (c2 p List.mem_cons_self) (hs₁.extBut _ _ c1 x)) he
theorem next_end_first {z TI TO : Addr} {k : Nat} {p : Pz} {ps : List Pz} {us : List Value} {Q : Fin → Shared → Prop} (hh : A.handled = none) (D : Apart z TI TO (p :: ps))
    (hz : IsZip s.heap z TI TO .none) (hTI : IsTupN s.heap TI (its (p :: ps)))
    (ha : At s.heap k p) (hx : p.2.2.1.size ≤ k)
    (hE : ∀ h' e, (∀ c o, c ≠ z → (∀ q ∈ p :: ps, c ≠ q.1) → s.heap.get? c = some o → h'.get? c = some o) → (∃ o, h'.get? e = some o ∧ o.cls = .type "StopIteration") → E (.ref e) { s with heap := h' }) :
    wpAny (model prog w) A (Builtin.«zip.__next__» ⟨[.ref z], []⟩) Q E s := by
  show wpAny _ _ (field (.ref z) 2 >>= _) _ _ _
  refine wpAny_bind (wpAny_field hz rfl (x := .bool false) rfl ?_)
  show wpAny _ _ (field (.ref z) 3 >>= _) _ _ _
  refine wpAny_bind (wpAny_field hz rfl (x := .ref TI) rfl ?_)
  refine wpAny_bind (wpAny_seqItems hTI rfl ?_)
  have he : (its (p :: ps)).toArray.isEmpty = false := by simp [its]
  simp only [he]
  show wpAny _ _ (Builtin.SmallTypes.ownedTupleIsFree (.ref z) >>= _) _ _ _
  refine wpAny_bind ?_
  unfold Builtin.SmallTypes.ownedTupleIsFree
  refine wpAny_bind (wpAny_field hz rfl (x := .none) rfl (wpAny_pure ?_))
  simp only [if_true]
  refine wpAny_bind (wpAny_rule ?_)
  refine wpAny_bind (wpAny_field hz rfl (x := .ref TO) rfl ?_)
  refine wpAny_bind (wpAny_setField_rec hz (by simp) fun h₁ hz₁ hs₁ => ?_)
  replace hz₁ : IsZip h₁ z TI TO .ellipsis := hz₁
  refine wpAny_bind ?_
  simp only [its, List.map_cons, List.zipIdx_cons, List.forIn_cons]
  refine wpAny_bind (wpAny_bind (wpAny_onRaise ?_))
  show wpAny _ _ (Builtin.SmallTypes.nextOf (.ref p.1) >>= _) _ _ _
  have a1 := ha.ext hs₁.extBut (D.it p List.mem_cons_self).1 (D.lz p List.mem_cons_self).1
  refine wpAny_bind (At.fin (s := { s with heap := h₁ }) hh a1 hx fun h₂ e hs₂ he => ?_)
  obtain ⟨oe, hoe, hce⟩ := he
  have hz₂ : IsZip h₂ z TI TO .ellipsis := hs₂ _ _ (D.it p List.mem_cons_self).1.symm hz₁
  have hez : e ≠ z := fun x => by subst x; rw [hz₂] at hoe; cases hoe; simp at hce
  refine wpAny_setField_rec hz₂ (by simp) fun h₃ _ hs₃ => hE h₃ e (fun c o c1 c2 x => hs₃.extBut _ _ c1 (hs₂ _ _ (c2 p List.mem_cons_self) (hs₁.extBut _ _ c1 x))) ⟨oe, hs₃.extBut _ _ hez hoe, hce⟩
theorem pyNext_held {z TI TO T : Addr} {f : Bool} {oT : Obj} {k : Nat} {ps : List Pz} {Q : Option Value → Shared → Prop} (D : Apart z TI TO ps) (hne : ps ≠ []) (hn : ps.length ≤ 1000)
    (hz : IsZipHeld s.heap z TI TO T f) (hT : s.heap.get? T = some oT) (hTI : IsTupN s.heap TI (its ps))
    (ha : ∀ p ∈ ps, At s.heap k p) (hx : ∀ p ∈ ps, k < p.2.2.1.size)
    (hQ : ∀ h', IsZipHeld h' z TI TO T true → (∀ p ∈ ps, At h' (k + 1) p) → IsTupN h' s.heap.objs.size (vals k ps) → h'.objs.size = s.heap.objs.size + 1 →
      (∀ c o, c ≠ z → (∀ p ∈ ps, c ≠ p.1) → s.heap.get? c = some o → h'.get? c = some o) → Q (some (.ref s.heap.objs.size)) { s with heap := h' }) :
    wpAny (model prog w) A (pyNext (.ref z)) Q E s := by
  have hTy : s.TypeIs (.ref z) "zip" := ⟨_, hz, rfl⟩
  unfold pyNext
  exact wpAny_bind (wpAny_attempt (wpAny_callSpecial?_slot (name := Str.ofString "__next__") hTy F.slot_zip_next
    (wpAny_call_entry F.slot_zip_next hTy F.entry_zip_next
      (next_held D hne hn hz hT hTI ha hx fun h' a1 a3 a4 a5 a6 => wpAny_pure (hQ h' a1 a3 a4 a5 a6)) (F.args_zip_next_1 _))))
theorem pyNext_first {z TI TO : Addr} {k : Nat} {ps : List Pz} {us : List Value} {Q : Option Value → Shared → Prop} (D : Apart z TI TO ps) (hne : ps ≠ []) (hn : ps.length ≤ 1000)
    (hz : IsZip s.heap z TI TO .none) (hTI : IsTupN s.heap TI (its ps)) (hTO : IsTupN s.heap TO us) (hul : us.length = ps.length)
    (ha : ∀ p ∈ ps, At s.heap k p) (hx : ∀ p ∈ ps, k < p.2.2.1.size)
    (hQ : ∀ h', IsZip h' z TI TO (rawInt s.heap.objs.size) → IsTupN h' TO (vals k ps) → (∀ p ∈ ps, At h' (k + 1) p) → IsTupN h' s.heap.objs.size (vals k ps) → h'.objs.size = s.heap.objs.size + 1 →
      (∀ c o, c ≠ z → c ≠ TO → (∀ p ∈ ps, c ≠ p.1) → s.heap.get? c = some o → h'.get? c = some o) → Q (some (.ref s.heap.objs.size)) { s with heap := h' }) :
    wpAny (model prog w) A (pyNext (.ref z)) Q E s := by
  have hTy : s.TypeIs (.ref z) "zip" := ⟨_, hz, rfl⟩
  unfold pyNext
  exact wpAny_bind (wpAny_attempt (wpAny_callSpecial?_slot (name := Str.ofString "__next__") hTy F.slot_zip_next
    (wpAny_call_entry F.slot_zip_next hTy F.entry_zip_next
      (next_first D hne hn hz hTI hTO hul ha hx fun h' a1 a2 a3 a4 a5 a6 => wpAny_pure (hQ h' a1 a2 a3 a4 a5 a6)) (F.args_zip_next_1 _))))
theorem pyNext_end {z TI TO : Addr} {k : Nat} {p : Pz} {ps : List Pz} {us : List Value} {Q : Option Value → Shared → Prop} (hh : A.handled = none) (D : Apart z TI TO (p :: ps))
    (hz : IsZip s.heap z TI TO .none ∨ ∃ T f oT, IsZipHeld s.heap z TI TO T f ∧ s.heap.get? T = some oT) (hTI : IsTupN s.heap TI (its (p :: ps)))
    (ha : At s.heap k p) (hx : p.2.2.1.size ≤ k)
    (hQ : ∀ h', (∀ c o, c ≠ z → (∀ q ∈ p :: ps, c ≠ q.1) → s.heap.get? c = some o → h'.get? c = some o) → Q none { s with heap := h' }) :
    wpAny (model prog w) A (pyNext (.ref z)) Q E s := by
  have hTy : s.TypeIs (.ref z) "zip" := by
    rcases hz with hz | ⟨T, f, oT, hz, _⟩ <;> exact ⟨_, hz, rfl⟩
  have fin : ∀ h' e, (∀ c o, c ≠ z → (∀ q ∈ p :: ps, c ≠ q.1) → s.heap.get? c = some o → h'.get? c = some o) → (∃ o, h'.get? e = some o ∧ o.cls = .type "StopIteration") →
      wpAny (model prog w) A (do if ← isInstance (.ref e) (.type "StopIteration") then pure none else throw (.ref e)) Q E { s with heap := h' } := fun h' e hk ⟨o, ho, hc⟩ => by
    refine wpAny_bind (wpAny_isInstance (T := "StopIteration") (b := true) ⟨o, ho, hc⟩ isSubtype_stop ?_)
    exact wpAny_pure (hQ _ hk)
  unfold pyNext
  rcases hz with hz | ⟨T, f, oT, hz, hT⟩
  · refine wpAny_bind (wpAny_attempt (wpAny_callSpecial?_slot (name := Str.ofString "__next__") hTy F.slot_zip_next
      (wpAny_call_entry F.slot_zip_next hTy F.entry_zip_next (next_end_first (us := us) hh D hz hTI ha hx fun h' e hk he => ?_) (F.args_zip_next_1 _))))
    exact fin h' e hk he
  · refine wpAny_bind (wpAny_attempt (wpAny_callSpecial?_slot (name := Str.ofString "__next__") hTy F.slot_zip_next
      (wpAny_call_entry F.slot_zip_next hTy F.entry_zip_next (next_end_held hh D hz hT hTI ha hx fun h' e hk he => ?_) (F.args_zip_next_1 _))))
    exact fin h' e hk he
theorem typeCall_zip (us : List Value) : checkTypeCall "zip" ⟨us, []⟩ = pure () := by kernel_rfl
theorem newCall_zip : ∀ (us : List Value), 1 ≤ us.length → us.length ≤ 12 → checkBuiltinCall "zip.__new__" ⟨.type "zip" :: us, []⟩ = pure ()
  | [_], _, _ => by kernel_rfl
  | [_, _], _, _ => by kernel_rfl
  | [_, _, _], _, _ => by kernel_rfl
  | [_, _, _, _], _, _ => by kernel_rfl
  | [_, _, _, _, _], _, _ => by kernel_rfl
  | [_, _, _, _, _, _], _, _ => by kernel_rfl
  | [_, _, _, _, _, _, _], _, _ => by kernel_rfl
  | [_, _, _, _, _, _, _, _], _, _ => by kernel_rfl
  | [_, _, _, _, _, _, _, _, _], _, _ => by kernel_rfl
  | [_, _, _, _, _, _, _, _, _, _], _, _ => by kernel_rfl
  | [_, _, _, _, _, _, _, _, _, _, _], _, _ => by kernel_rfl
  | [_, _, _, _, _, _, _, _, _, _, _, _], _, _ => by kernel_rfl
  | [], h, _ => by cases h
  | _ :: _ :: _ :: _ :: _ :: _ :: _ :: _ :: _ :: _ :: _ :: _ :: _ :: _, _, h => by simp at h
theorem args_init (a : Value) (us : List Value) : argsOk "object.__init__" ⟨a :: us, []⟩ := by
  unfold argsOk; rw [signature?_of (id := "object.__init__") (n := ['_', '_', 't', 'i', 'n', 'i', '_', '_']) (o := ['t', 'c', 'e', 'j', 'b', 'o']) (by kernel_rfl) F.owner_object]; kernel_rfl
def psOf (N : Nat) (lls : List (Addr × Array Value × Bool)) : List Pz := (lls.zipIdx).map fun q => (N + q.2, q.1.1, q.1.2.1, q.1.2.2)
structure NewZ (h h' : Heap) (lls : List (Addr × Array Value × Bool)) : Prop where
  z : IsZip h' (h.objs.size + lls.length + 2) (h.objs.size + lls.length) (h.objs.size + lls.length + 1) .none
  ti : IsTupN h' (h.objs.size + lls.length) (its (psOf h.objs.size lls))
  to : IsTupN h' (h.objs.size + lls.length + 1) (List.replicate lls.length .none)
  a : ∀ p ∈ psOf h.objs.size lls, At h' 0 p
  sz : h'.objs.size = h.objs.size + lls.length + 3
  keep : ∀ c o, h.get? c = some o → h'.get? c = some o
theorem psOf_snoc (N : Nat) (pre : List (Addr × Array Value × Bool)) (l : Addr × Array Value × Bool) : psOf N (pre ++ [l]) = psOf N pre ++ [(N + pre.length, l.1, l.2.1, l.2.2)] := by
  simp [psOf, List.zipIdx_append]
theorem its_len (ps : List Pz) : (its ps).length = ps.length := by simp [its]
theorem psOf_len (N : Nat) (lls : List (Addr × Array Value × Bool)) : (psOf N lls).length = lls.length := by simp [psOf]
theorem At.push {h : Heap} {k : Nat} {p : Pz} (a : At h k p) (o : Obj) : At (h.push o) k p := a.at (fun o e => Heap.get?_push_of_some _ e) fun o e => Heap.get?_push_of_some _ e
theorem IsSrc.iter {l : Addr} {v : Array Value} {t : Bool} {Q : Value → Shared → Prop} (x : IsSrc s.heap l v t) (hQ : ∀ o, At (s.heap.push o) 0 (s.heap.objs.size, l, v, t) → Q (.ref s.heap.objs.size) { s with heap := s.heap.push o }) : wpAny (model prog w) A (pyIter (.ref l)) Q E s := by
  cases t
  · exact wpAny_pyIter_list (l := l) x (hQ _ ⟨⟨_, Heap.get?_push_size _ rfl, rfl, rfl⟩, IsSrc.at (t := false) x fun o e => Heap.get?_push_of_some _ e⟩)
  · exact wpAny_pyIter_tuple (t := l) x (hQ _ ⟨⟨_, Heap.get?_push_size _ rfl, rfl, rfl⟩, IsSrc.at (t := true) x fun o e => Heap.get?_push_of_some _ e⟩)
theorem iterAll_ok {lls : List (Addr × Array Value × Bool)} {Q : List Value → Shared → Prop} (hls : ∀ l ∈ lls, IsSrc s.heap l.1 l.2.1 l.2.2)
    (hQ : ∀ h', h'.objs.size = s.heap.objs.size + lls.length → (∀ p ∈ psOf s.heap.objs.size lls, At h' 0 p) → (∀ c o, s.heap.get? c = some o → h'.get? c = some o) → Q (its (psOf s.heap.objs.size lls)) { s with heap := h' }) :
    wpAny (model prog w) A (Builtin.SmallTypes.iterAll (lls.map fun l => .ref l.1)) Q E s := by
  unfold Builtin.SmallTypes.iterAll
  refine wpAny_bind ?_
  refine wpAny_forIn_list _ (fun rest b s' => ∃ pre suf, lls = pre ++ suf ∧ rest = (suf.map fun l => Value.ref l.1) ∧ b = (its (psOf s.heap.objs.size pre)).toArray ∧ ∃ h', s' = { s with heap := h' } ∧ h'.objs.size = s.heap.objs.size + pre.length ∧ (∀ p ∈ psOf s.heap.objs.size pre, At h' 0 p) ∧ ∀ c o, s.heap.get? c = some o → h'.get? c = some o) _ (fun x rest b s' hI => ?_) (fun b s' hI => ?_) _ _ ⟨[], lls, rfl, rfl, rfl, s.heap, rfl, rfl, (fun p hp => nomatch hp), fun _ _ e => e⟩
  · obtain ⟨pre, suf, e1, e2, e3, h', e4, hsz, hp, hk⟩ := hI
    cases suf with
    | nil => cases e2
    | cons l suf =>
      have ex : x = .ref l.1 := (List.cons.inj e2).1
      have er : rest = suf.map fun l => Value.ref l.1 := (List.cons.inj e2).2
      subst ex
      subst e3
      subst e4
      have hl := hls l (by rw [e1]; simp)
      have hl' : IsSrc h' l.1 l.2.1 l.2.2 := hl.at fun o e => hk _ o e
      refine wpAny_bind (wpAny_holding ?_)
      refine IsSrc.iter (s := { s with heap := h' }) hl' fun o aN => ?_
      refine wpAny_pure ⟨pre ++ [l], suf, by rw [e1]; simp, er, ?_, _, rfl, by rw [Heap.size_push, hsz]; simp; omega, fun p hpm => ?_, fun c o e => Heap.get?_push_of_some _ (hk c o e)⟩
      · rw [psOf_snoc, ← hsz]
        simp [its]
      · rw [psOf_snoc] at hpm
        rcases List.mem_append.mp hpm with hpm | hpm
        · exact (hp p hpm).push _
        · have : p = (s.heap.objs.size + pre.length, l.1, l.2.1, l.2.2) := List.mem_singleton.mp hpm
          subst this
          rw [← hsz]
          exact aN
  · obtain ⟨pre, suf, e1, e2, e3, h', e4, hsz, hp, hk⟩ := hI
    have hs0 : suf = [] := by
      cases suf with
      | nil => rfl
      | cons p suf => cases e2
    subst hs0
    rw [List.append_nil] at e1
    subst e1
    subst e3
    subst e4
    refine wpAny_pure ?_
    exact hQ h' hsz hp hk
end
theorem meets_new (lls : List (Addr × Array Value × Bool)) (hl : lls.length ≤ 1000) : Meets (Builtin.«zip.__new__» ⟨.type "zip" :: lls.map fun l => .ref l.1, []⟩) (fun _ R s => (∀ l ∈ lls, IsSrc s.heap l.1 l.2.1 l.2.2) ∧
      ∀ h', NewZ s.heap h' lls → R (.ok (.ret (.ref (s.heap.objs.size + lls.length + 2)))) { s with heap := h' }) :=
  .of_wp fun prog w A R s h => by
    obtain ⟨hls, h⟩ := h
    have hsub := sub_zip
    unfold Builtin.«zip.__new__»
    refine wpAny_bind ?_
    unfold Builtin.SmallTypes.newClass
    wp_walk using iterAll_ok hls
    intro h₁ hsz ha hk
    have hb : ∀ k, lls.length + k ≤ sizeLine ∨ 1000 < k := fun k => by
      by_cases hk : 1000 < k
      · exact .inr hk
      · exact .inl (Nat.le_trans (show lls.length + k ≤ 2000 by omega) (by decide))
    have hlen : (its (psOf s.heap.objs.size lls)).length ≤ sizeLine := by
      rw [its_len, psOf_len]
      exact Nat.le_trans hl (by decide)
    refine wpAny_bind (wpAny_newTuple ?_ hlen)
    refine wpAny_bind (wpAny_newTuple ?_ (by rw [List.length_map]; exact hlen))
    have em : ((its (psOf s.heap.objs.size lls)).map fun _ => Value.none) = List.replicate lls.length .none := by
      rw [List.map_const', its_len, psOf_len]
    rw [em]
    have z2 : ∀ o, (h₁.push o).objs.size = s.heap.objs.size + lls.length + 1 := fun o => by rw [Heap.size_push, hsz]
    have z3 : ∀ o o', ((h₁.push o).push o').objs.size = s.heap.objs.size + lls.length + 2 := fun o o' => by rw [Heap.size_push, z2]
    show wpAny _ _ (newObj (Value.type "zip") (.fields #[.none, .bool false, .bool false, .ref h₁.objs.size, .ref (h₁.push _).objs.size]) >>= _) _ _ _
    refine wpAny_bind (wpAny_newObj_type ?_)
    refine wpAny_pure ⟨_, rfl, ?_⟩
    show R (.ok (.ret (.ref (Heap.objs _).size))) _
    rw [z3]
    refine h _ ⟨?_, ?_, ?_, fun p hp => (((ha p hp).push _).push _).push _, by rw [Heap.size_push, z3], fun c o e => Heap.get?_push_of_some _ (Heap.get?_push_of_some _ (Heap.get?_push_of_some _ (hk c o e)))⟩
    · have : (((h₁.push { cls := .type "tuple", data := .seq (its (psOf s.heap.objs.size lls)).toArray }).push { cls := .type "tuple", data := .seq (List.replicate lls.length Value.none).toArray }).push { cls := .type "zip", data := .fields #[.none, .bool false, .bool false, .ref h₁.objs.size, .ref (h₁.push { cls := .type "tuple", data := .seq (its (psOf s.heap.objs.size lls)).toArray }).objs.size] }).get? ((h₁.push { cls := .type "tuple", data := .seq (its (psOf s.heap.objs.size lls)).toArray }).push { cls := .type "tuple", data := .seq (List.replicate lls.length Value.none).toArray }).objs.size = some { cls := .type "zip", data := .fields #[.none, .bool false, .bool false, .ref h₁.objs.size, .ref (h₁.push { cls := .type "tuple", data := .seq (its (psOf s.heap.objs.size lls)).toArray }).objs.size] } := Heap.get?_push_size _ rfl
      show IsZip _ _ _ _ _
      rw [← z3 { cls := .type "tuple", data := .seq (its (psOf s.heap.objs.size lls)).toArray } { cls := .type "tuple", data := .seq (List.replicate lls.length Value.none).toArray }, ← z2 { cls := .type "tuple", data := .seq (its (psOf s.heap.objs.size lls)).toArray }, ← hsz]
      exact this
    · have : (h₁.push { cls := .type "tuple", data := .seq (its (psOf s.heap.objs.size lls)).toArray }).get? h₁.objs.size = some { cls := .type "tuple", data := .seq (its (psOf s.heap.objs.size lls)).toArray } := Heap.get?_push_size _ rfl
      rw [hsz] at this
      exact Heap.get?_push_of_some _ (Heap.get?_push_of_some _ this)
    · have : ((h₁.push { cls := .type "tuple", data := .seq (its (psOf s.heap.objs.size lls)).toArray }).push { cls := .type "tuple", data := .seq (List.replicate lls.length Value.none).toArray }).get? (h₁.push { cls := .type "tuple", data := .seq (its (psOf s.heap.objs.size lls)).toArray }).objs.size = some { cls := .type "tuple", data := .seq (List.replicate lls.length Value.none).toArray } := Heap.get?_push_size _ rfl
      rw [z2] at this
      exact Heap.get?_push_of_some _ this
end Zn
set_option Elab.async false
set_option linter.all false
set_option maxRecDepth 100000
set_option maxHeartbeats 2000000
/-! Zn part 2: list(zip( *rows)) as a rule. -/
namespace Zn
open PySem L2 PyProof.Rows
def Cols (xss : List (List V)) (i : Nat) : List V := xss.map fun xs => xs.getD i .non
def RowsOk : List (List V) → List Pz → Prop
  | [], [] => True
  | xs :: xss, p :: ps => Vals xs p.2.2.1.toList ∧ RowsOk xss ps
  | _, _ => False
theorem RowsOk.len : ∀ {xss : List (List V)} {ps : List Pz}, RowsOk xss ps → xss.length = ps.length
  | [], [], _ => rfl
  | [], _ :: _, h => h.elim
  | _ :: _, [], h => h.elim
  | _ :: _, _ :: _, h => by rw [List.length_cons, List.length_cons, RowsOk.len h.2]
theorem RowsOk.size {m : Nat} : ∀ {xss : List (List V)} {ps : List Pz}, RowsOk xss ps → (∀ xs ∈ xss, xs.length = m) → ∀ p ∈ ps, p.2.2.1.size = m
  | [], [], _, _, p, hp => nomatch hp
  | [], _ :: _, h, _, _, _ => h.elim
  | _ :: _, [], h, _, _, _ => h.elim
  | xs :: xss, q :: ps, h, hm, p, hp => by
    rcases List.mem_cons.mp hp with e | e
    · subst e
      have h1 := h.1.length
      have h2 : p.2.2.1.toList.length = p.2.2.1.size := Array.length_toList
      have h3 := hm xs List.mem_cons_self
      omega
    · exact RowsOk.size h.2 (fun ys hy => hm ys (List.mem_cons_of_mem _ hy)) p e
theorem RowsOk.cols {i m : Nat} (hi : i < m) : ∀ {xss : List (List V)} {ps : List Pz}, RowsOk xss ps → (∀ xs ∈ xss, xs.length = m) → Vals (Cols xss i) (vals i ps)
  | [], [], _, _ => .nil
  | [], _ :: _, h, _ => h.elim
  | _ :: _, [], h, _ => h.elim
  | xs :: xss, q :: ps, h, hm => by
    have h1 := hm xs List.mem_cons_self
    obtain ⟨u, hu, ru⟩ := h.1.get (List.getElem?_eq_getElem (show i < xs.length by omega))
    have e1 : xs.getD i .non = xs[i]'(by omega) := by simp [List.getD_eq_getElem?_getD, List.getElem?_eq_getElem (show i < xs.length by omega)]
    have e2 : q.2.2.1.getD i .none = u := by
      rw [Array.getElem?_toList] at hu
      rw [Array.getD_eq_getD_getElem?, hu]
      rfl
    show Vals (xs.getD i .non :: Cols xss i) (q.2.2.1.getD i .none :: vals i ps)
    rw [e1, e2]
    exact .cons ru (RowsOk.cols hi h.2 fun ys hy => hm ys (List.mem_cons_of_mem _ hy))
structure StZ (X : Cx) (pins : List (Addr × Obj)) (z TI TO S : Addr) (ps : List Pz) (xss : List (List V)) (H0 : Hp) (i : Nat) (h : Heap) (H : Hp) (ts : List Addr) : Prop where
  ti : IsTupN h TI (its ps)
  a : ∀ p ∈ ps, At h i p
  toA : ∃ o, h.get? TO = some o
  zs : (IsZip h z TI TO .none ∧ ∃ us, IsTupN h TO us ∧ us.length = ps.length) ∨ ∃ T f, IsZipHeld h z TI TO T f ∧ T ∈ ts
  hS : H S = some (.lst (ts.map V.ref))
  len : ts.length = i
  col : ∀ (j : Nat) (t : Addr), ts[j]? = some t → H t = some (.tup (Cols xss j))
  base : ∀ a o, H0 a = some o → H a = some o
  fresh : ∀ t ∈ ts, H0 t = none
  fp : ∀ c ∈ z :: TI :: TO :: ps.map (·.1), FpOk X pins H c
variable {X : Cx} {pins : List (Addr × Obj)} {σ : L2.St} {A : Around}
theorem FpOk.up {H H' : Hp} {c : Addr} (h : FpOk X pins H c) (e : H' c = none) : FpOk X pins H' c := ⟨e, h.2⟩
theorem loop_zip {z TI TO S : Addr} {ps : List Pz} {xss : List (List V)} {H0 : Hp} {m : Nat} {R : Result → Shared → Prop} {res : Value} (hh : A.in1.handled = none) (D : Apart z TI TO ps) (hne : ps ≠ []) (hn : ps.length ≤ 1000) (hR : RowsOk xss ps) (hm : ∀ xs ∈ xss, xs.length = m) (hm2 : m < sizeLine)
    (l0 : ∀ p ∈ ps, p.2.1 ≠ S) (hS0 : H0 S = none)
    (hQ : ∀ (s' : Shared) (H' : Hp) (ts' : List Addr), Inv X pins σ H' s' → H' S = some (.lst (ts'.map V.ref)) → ts'.length = m → (∀ (j : Nat) (t : Addr), ts'[j]? = some t → H' t = some (.tup (Cols xss j))) → (∀ a o, H0 a = some o → H' a = some o) → (∀ t ∈ ts', H0 t = none) → R (.ok (.ret res)) s') :
    ∀ (k i : Nat) (s : Shared) (H : Hp) (ts : List Addr), m - i = k → i ≤ m → Inv X pins σ H s → StZ X pins z TI TO S ps xss H0 i s.heap H ts →
      codeAny (model X.prog X.w) A (.builtin "list.extend.loop" ⟨[.ref S, .ref z, res], []⟩) R s := by
  have hps := hR.size hm
  intro k
  induction k with
  | zero =>
    intro i s H ts hk hi I st
    have him : i = m := by omega
    subst him
    refine codeAny_builtin F.entry_extend_loop ?_
    rw [Around.under_plainId F.plain_extend_loop _]
    show wpAny _ A.in1 (pyNext (.ref z) >>= _) _ _ s
    cases ps with
    | nil => exact absurd rfl hne
    | cons p ps =>
      have zs : IsZip s.heap z TI TO .none ∨ ∃ T f oT, IsZipHeld s.heap z TI TO T f ∧ s.heap.get? T = some oT := by
        rcases st.zs with ⟨h1, _⟩ | ⟨T, f, h1, h2⟩
        · exact .inl h1
        · obtain ⟨j, hj⟩ := List.mem_iff_getElem?.mp h2
          obtain ⟨_, _, _, o, ho, _⟩ := I.hok T _ (st.col j T hj)
          exact .inr ⟨T, f, o, h1, ho⟩
      refine wpAny_bind (pyNext_end (us := []) hh D zs st.ti (st.a p List.mem_cons_self) (Nat.le_of_eq (hps p List.mem_cons_self)) fun h' hk' => ?_)
      have I1 : Inv X pins σ H { s with heap := h' } := I.turnedL (t' := s.toks) (ch := z :: (p :: ps).map (·.1)) (fun b o hb e => hk' b o (fun q => hb (by rw [q]; exact List.mem_cons_self)) (fun q hq q2 => hb (List.mem_cons_of_mem _ (by rw [q2]; exact List.mem_map_of_mem hq))) e) (fun b hb => by
        rcases List.mem_cons.mp hb with q | q
        · exact st.fp b (by rw [q]; exact List.mem_cons_self)
        · exact st.fp b (List.mem_cons_of_mem _ (List.mem_cons_of_mem _ (List.mem_cons_of_mem _ q))))
      exact wpAny_pure (hQ _ H ts I1 st.hS st.len st.col st.base st.fresh)
  | succ k ih =>
    intro i s H ts hk hi I st
    have hlt : i < m := by omega
    refine codeAny_builtin F.entry_extend_loop ?_
    rw [Around.under_plainId F.plain_extend_loop _]
    show wpAny _ A.in1 (pyNext (.ref z) >>= _) _ _ s
    have hx : ∀ p ∈ ps, i < p.2.2.1.size := fun p hp => by rw [hps p hp]; exact hlt
    have key : ∀ h' T f, IsZipHeld h' z TI TO T f → T = s.heap.objs.size ∨ T ∈ ts → (∃ o, h'.get? TO = some o) → (∀ p ∈ ps, At h' (i + 1) p) → IsTupN h' s.heap.objs.size (vals i ps) → h'.objs.size = s.heap.objs.size + 1 →
        (∀ c o, c ≠ z → c ≠ TO → (∀ p ∈ ps, c ≠ p.1) → s.heap.get? c = some o → h'.get? c = some o) →
        wpAny (model X.prog X.w) A.in1 (updateSeq S (·.push (Value.ref s.heap.objs.size)) >>= fun _ => again (.builtin "list.extend.loop" ⟨[.ref S, .ref z, res], []⟩)) (fun fin s' => match fin with | .done f => R (.ok f) s' | .again c' => c'.quiet = true ∧ codeAny (model X.prog X.w) A c' R s') (fun e s' => R (.error e) s') { s with heap := h' } := by
      intro h' T f hz hT hTOa ha hN hsz hkp
      have hN0 : H s.heap.objs.size = none := I.hok.fresh (Nat.le_refl _)
      have new : ObjOk X.prog X.w (upd H s.heap.objs.size (.tup (Cols xss i))) h' s.heap.objs.size (.tup (Cols xss i)) :=
        ⟨by rw [Cols, List.length_map, hR.len]; exact Nat.le_trans hn (by decide), vals i ps, hR.cols hlt hm, ⟨_, hN, rfl, _, rfl⟩⟩
      have I1 : Inv X pins σ (upd H s.heap.objs.size (.tup (Cols xss i))) { s with heap := h' } :=
        I.turnedNew (t' := s.toks) (ch := z :: TO :: ps.map (·.1)) (fun b o hb e => hkp b o (fun q => hb (by rw [q]; exact List.mem_cons_self)) (fun q => hb (by rw [q]; exact List.mem_cons_of_mem _ List.mem_cons_self)) (fun q hq q2 => hb (List.mem_cons_of_mem _ (List.mem_cons_of_mem _ (by rw [q2]; exact List.mem_map_of_mem hq)))) e) (fun b hb => by
          rcases List.mem_cons.mp hb with q | q
          · exact st.fp b (by rw [q]; exact List.mem_cons_self)
          · rcases List.mem_cons.mp q with q | q
            · exact st.fp b (by rw [q]; exact List.mem_cons_of_mem _ (List.mem_cons_of_mem _ List.mem_cons_self))
            · exact st.fp b (List.mem_cons_of_mem _ (List.mem_cons_of_mem _ (List.mem_cons_of_mem _ q)))) (Nat.le_refl _) new
      have hSN : S ≠ s.heap.objs.size := fun q => by
        have := st.hS
        rw [q, hN0] at this
        cases this
      have hS1 : upd H s.heap.objs.size (.tup (Cols xss i)) S = some (.lst (ts.map V.ref)) := by rw [upd_ne hSN]; exact st.hS
      obtain ⟨z1, lits, ln, lr, le⟩ := I1.hok S _ hS1
      have ll := lr.length
      rw [List.length_map] at ll
      have hlen : lits.length < sizeLine := by
        have := st.len
        omega
      have notS : ∀ c ∈ z :: TI :: TO :: ps.map (·.1), S ≠ c := fun c hc q => by
        have h1 := (st.fp c hc).1
        rw [← q, st.hS] at h1
        cases h1
      refine wpAny_bind ?_
      refine wpAny_updateSeq le rfl (wpAny_pure ⟨plainId_quiet F.plain_extend_loop _, ?_⟩) (by rw [List.size_toArray]; omega) (by simp; omega)
      have up : ∀ c o, S ≠ c → h'.get? c = some o → (h'.update S (Obj.mapSeq (·.push (Value.ref s.heap.objs.size)))).get? c = some o := fun c o hc e => (Heap.get?_update_other _ _ hc).trans e
      have I2 := I1.lset (t' := s.toks) (its' := lits ++ [.ref s.heap.objs.size]) (ys := (ts ++ [s.heap.objs.size]).map V.ref) (f := (·.push (Value.ref s.heap.objs.size))) hS1 le (by simp) (by
        rw [List.map_append]
        exact lr.append (.cons rfl .nil)) (by
        rw [List.length_map, List.length_append, List.length_singleton]
        omega)
      have hSz := notS z List.mem_cons_self
      have hST := notS TI (List.mem_cons_of_mem _ List.mem_cons_self)
      have hSO := notS TO (List.mem_cons_of_mem _ (List.mem_cons_of_mem _ List.mem_cons_self))
      have hSp : ∀ p ∈ ps, S ≠ p.1 := fun p hp => notS p.1 (List.mem_cons_of_mem _ (List.mem_cons_of_mem _ (List.mem_cons_of_mem _ (List.mem_map_of_mem hp))))
      have hSl : ∀ p ∈ ps, S ≠ p.2.1 := fun p hp q => l0 p hp q.symm
      have hTI' : IsTupN h' TI (its ps) := hkp _ _ D.TIz D.TITO (fun p hp => (D.it p hp).2.1.symm) st.ti
      refine ih (i + 1) _ _ (ts ++ [s.heap.objs.size]) (by omega) (by omega) I2 { ti := up _ _ hST hTI', a := fun p hp => (ha p hp).at (fun o e => up _ o (hSp p hp) e) fun o e => up _ o (hSl p hp) e, toA := hTOa.imp fun o e => up _ o hSO e, zs := .inr ⟨T, f, up _ _ hSz hz, ?_⟩, hS := upd_same, len := by rw [List.length_append, st.len]; rfl, col := fun j t hj => ?_, base := fun a o e => ?_, fresh := fun t ht => ?_, fp := fun c hc => ?_ }
      · rcases hT with q | q
        · rw [q]
          simp
        · exact List.mem_append_left _ q
      · by_cases hjl : j < ts.length
        · rw [List.getElem?_append_left hjl] at hj
          have h1 := st.col j t hj
          have n1 : t ≠ s.heap.objs.size := fun q => by rw [q, hN0] at h1; cases h1
          have n2 : t ≠ S := fun q => by rw [q, st.hS] at h1; cases h1
          rw [upd_ne n2, upd_ne n1]
          exact h1
        · rw [List.getElem?_append_right (by omega)] at hj
          have h0 : j - ts.length = 0 := by
            have := (List.getElem?_eq_some_iff.mp hj).1
            simp at this
            omega
          rw [h0] at hj
          simp at hj
          have hji : j = i := by
            have := st.len
            omega
          rw [← hj, upd_ne hSN.symm, upd_same, hji]
      · have h1 := st.base a o e
        have n1 : a ≠ s.heap.objs.size := fun q => by rw [q, hN0] at h1; cases h1
        have n2 : a ≠ S := fun q => by rw [q, hS0] at e; cases e
        rw [upd_ne n2, upd_ne n1]
        exact h1
      · rcases List.mem_append.mp ht with q | q
        · exact st.fresh t q
        · rw [List.mem_singleton.mp q]
          cases e : H0 s.heap.objs.size with
          | none => rfl
          | some o => rw [st.base _ o e] at hN0; cases hN0
      · refine FpOk.up (st.fp c hc) ?_
        have n1 : c ≠ s.heap.objs.size := by
          have : ∃ o, s.heap.get? c = some o := by
            rcases List.mem_cons.mp hc with q | q
            · rw [q]
              rcases st.zs with ⟨h1, _⟩ | ⟨_, _, h1, _⟩ <;> exact ⟨_, h1⟩
            · rcases List.mem_cons.mp q with q | q
              · rw [q]
                exact ⟨_, st.ti⟩
              · rcases List.mem_cons.mp q with q | q
                · rw [q]
                  exact st.toA
                · obtain ⟨p, hp, e⟩ := List.mem_map.mp q
                  obtain ⟨o, e2, _⟩ := (st.a p hp).it.alive
                  exact ⟨o, by rw [← e]; exact e2⟩
          obtain ⟨o, ho⟩ := this
          exact Nat.ne_of_lt (Heap.lt_size ho)
        rw [upd_ne (notS c hc).symm, upd_ne n1]
        exact (st.fp c hc).1
    rcases st.zs with ⟨hz, us, hTO, hul⟩ | ⟨T, f, hz, hT⟩
    · refine wpAny_bind (pyNext_first D hne hn hz st.ti hTO hul st.a hx fun h' a1 a2 a3 a4 a5 a6 => ?_)
      exact key h' _ false a1 (.inl rfl) ⟨_, a2⟩ a3 a4 a5 a6
    · obtain ⟨j, hj⟩ := List.mem_iff_getElem?.mp hT
      obtain ⟨_, _, _, o, ho, _⟩ := I.hok T _ (st.col j T hj)
      refine wpAny_bind (pyNext_held D hne hn hz ho st.ti st.a hx fun h' a1 a3 a4 a5 a6 => ?_)
      exact key h' T true a1 (.inr hT) (st.toA.imp fun o e => a6 _ _ D.TOz (fun p hp => (D.it p hp).2.2.symm) e) a3 a4 a5 fun c o c1 c2 c3 e => a6 c o c1 c3 e
end Zn
set_option Elab.async false
set_option linter.all false
set_option maxRecDepth 100000
set_option maxHeartbeats 2000000
/-! Zn part 3: the call of list, the rule. -/
namespace Zn
open PySem L2 PyProof.Rows
theorem zip_no_len : typeLookup (.type "zip") "__len__" = pure none := by rw [typeLookup_type, builtinLookup_eq_fast]; kernel_rfl
theorem zip_no_hint : typeLookup (.type "zip") "__length_hint__" = pure none := by rw [typeLookup_type, builtinLookup_eq_fast]; kernel_rfl
theorem psOf_mem {N : Nat} {lls : List (Addr × Array Value × Bool)} {p : Pz} (h : p ∈ psOf N lls) : ∃ j, j < lls.length ∧ p.1 = N + j ∧ (p.2.1, p.2.2.1, p.2.2.2) ∈ lls := by
  obtain ⟨q, hq, rfl⟩ := List.mem_map.mp h
  obtain ⟨l, j⟩ := q
  have := List.mem_zipIdx hq
  refine ⟨j, by omega, rfl, ?_⟩
  have e := this.2.2
  simp at e
  exact List.mem_of_getElem? (i := j) (by rw [List.getElem?_eq_getElem (by omega), ← e])
theorem psOf_fst (N : Nat) (lls : List (Addr × Array Value × Bool)) : (psOf N lls).map (·.1) = (List.range lls.length).map (N + ·) := by
  rw [psOf, List.map_map]
  apply List.ext_getElem?
  intro i
  simp only [List.getElem?_map, List.getElem?_zipIdx]
  by_cases h : i < lls.length
  · rw [List.getElem?_eq_getElem h, List.getElem?_range h]
    simp
  · rw [List.getElem?_eq_none (by omega), List.getElem?_eq_none (by simp; omega)]
    rfl
theorem psOf_apart {N : Nat} {lls : List (Addr × Array Value × Bool)} (h : ∀ l ∈ lls, l.1 < N) : Apart (N + lls.length + 2) (N + lls.length) (N + lls.length + 1) (psOf N lls) where
  nd := by
    rw [psOf_fst]
    refine List.pairwise_map.mpr (List.nodup_range.imp ?_)
    intro a b hab e
    exact hab (Nat.add_left_cancel e)
  it := fun p hp => by
    obtain ⟨j, hj, e, _⟩ := psOf_mem hp
    rw [e]
    exact ⟨Nat.ne_of_lt (by omega), Nat.ne_of_lt (by omega), Nat.ne_of_lt (by omega)⟩
  li := fun p hp q hq => by
    obtain ⟨_, _, _, hl⟩ := psOf_mem hp
    obtain ⟨j, hj, e, _⟩ := psOf_mem hq
    have h1 : p.2.1 < N := h _ hl
    rw [e]
    exact Nat.ne_of_lt (Nat.lt_of_lt_of_le h1 (Nat.le_add_right _ _))
  lz := fun p hp => by
    obtain ⟨_, _, _, hl⟩ := psOf_mem hp
    have h1 : p.2.1 < N := h _ hl
    exact ⟨Nat.ne_of_lt (Nat.lt_of_lt_of_le h1 (by omega)), Nat.ne_of_lt (Nat.lt_of_lt_of_le h1 (by omega))⟩
  TIz := Nat.ne_of_lt (by omega)
  TOz := Nat.ne_of_lt (by omega)
  TITO := Nat.ne_of_lt (by omega)
def RowsL : List (List V) → List (Addr × Array Value × Bool) → Prop
  | [], [] => True
  | xs :: xss, l :: ls => Vals xs l.2.1.toList ∧ RowsL xss ls
  | _, _ => False
theorem RowsL.ps {N : Nat} : ∀ {xss : List (List V)} {ls : List (Addr × Array Value × Bool)} (k : Nat), RowsL xss ls → RowsOk xss ((ls.zipIdx k).map fun q => (N + q.2, q.1.1, q.1.2.1, q.1.2.2))
  | [], [], _, _ => trivial
  | [], _ :: _, _, h => h.elim
  | _ :: _, [], _, h => h.elim
  | xs :: xss, l :: ls, k, h => by
    rw [List.zipIdx_cons, List.map_cons]
    exact ⟨h.1, RowsL.ps (k + 1) h.2⟩
/-- the rows' lists as they stand -/
def Rws (H : Hp) : List Addr → List (List V) → Prop
  | [], [] => True
  | r :: rs, xs :: xss => H r = some (.lst xs) ∧ Rws H rs xss
  | _, _ => False
variable {X : Cx} {pins : List (Addr × Obj)} {σ : L2.St} {E : Value → Shared → Prop}
theorem Rws.lls {H : Hp} {s : Shared} (I : Inv X pins σ H s) : ∀ {rs : List Addr} {xss : List (List V)}, Rws H rs xss → ∃ lls : List (Addr × Array Value × Bool), (lls.map (·.1)) = rs ∧ (∀ l ∈ lls, IsSrc s.heap l.1 l.2.1 l.2.2 ∧ ∃ xs, H l.1 = some (.lst xs)) ∧ RowsL xss lls
  | [], [], _ => ⟨[], rfl, (fun l hl => nomatch hl), trivial⟩
  | [], _ :: _, h => h.elim
  | _ :: _, [], h => h.elim
  | r :: rs, xs :: xss, h => by
    obtain ⟨lls, e, h1, h2⟩ := Rws.lls I h.2
    obtain ⟨its, rv, pl, _⟩ := I.list (.inl (.inl h.1))
    refine ⟨(r, its.toArray, false) :: lls, by rw [List.map_cons, e], fun l hl => ?_, by simpa using rv, h2⟩
    rcases List.mem_cons.mp hl with q | q
    · subst q
      exact ⟨pl.isList, xs, h.1⟩
    · exact h1 l q
theorem star_list {a : Addr} {xs : List V} {s : Shared} {H : Hp} {Q : List Value → Shared → Prop} (I : Inv X pins σ H s) (h : SqL X.K H a xs) (hQ : ∀ us s', Inv X pins σ H s' → Vals xs us → Q us s') :
    PySem.W.StarOf (model X.prog X.w) X.A E (.ref a) Q s := by
  obtain ⟨its, r, ⟨o, n, ho, hc, _, hd⟩, hz⟩ := I.list h
  have hT : s.TypeIs (.ref a) "list" := ⟨o, ho, hc⟩
  have hl := r.length
  have z : wpAny (model X.prog X.w) X.A (collect (.ref a)) Q E s := by
    refine wpAny_collect_seq a (.inl rfl) ho hc hd (fun h' hk => ?_) (by rw [List.size_toArray]; omega)
    have e : its.toArray.toList = its := by simp
    rw [e]
    exact hQ its _ (I.kept (t' := s.toks) hk) r
  unfold PySem.W.StarOf notIterableAtAll
  exact wpAny_bind (wpAny_specialOf hT PySem.F.slot_list_iter.lookup (wpAny_pure ⟨rfl, z⟩))
theorem call_list_zip {s : Shared} {H : Hp} {z TI TO : Addr} {ps : List Pz} {xss : List (List V)} {m : Nat} {Q : Value → Shared → Prop} (hh : X.A.handled = none) (I : Inv X pins σ H s) (D : Apart z TI TO ps) (hne : ps ≠ []) (hn : ps.length ≤ 1000) (hR : RowsOk xss ps) (hm : ∀ xs ∈ xss, xs.length = m) (hm2 : m < sizeLine)
    (l0 : ∀ p ∈ ps, ∃ xs, H p.2.1 = some xs) (hz : IsZip s.heap z TI TO .none) (hTI : IsTupN s.heap TI (its ps)) {us : List Value} (hTO : IsTupN s.heap TO us) (hul : us.length = ps.length) (ha : ∀ p ∈ ps, At s.heap 0 p) (hfp : ∀ c ∈ z :: TI :: TO :: ps.map (·.1), FpOk X pins H c)
    (hQ : ∀ (s' : Shared) (H' : Hp) (S : Addr) (ts : List Addr), Inv X pins σ H' s' → H S = none → H' S = some (.lst (ts.map V.ref)) → ts.length = m → (∀ (j : Nat) (t : Addr), ts[j]? = some t → H' t = some (.tup (Cols xss j))) → (∀ a o, H a = some o → H' a = some o) → (∀ t ∈ ts, H t = none) → Q (.ref S) s') :
    wpAny (model X.prog X.w) X.A (call (.type "list") [.ref z]) Q E s := by
  refine callType_codes (Q₁ := fun obj s₁ => obj = .ref s.heap.objs.size ∧ s₁ = { s with heap := s.heap.push { cls := .type "list", data := .seq #[] } }) F.called_list (F.typeCall_list_1 _) F.entry_list_init
    (code_list_new _ ⟨rfl, rfl⟩) fun obj s₁ h₁ => ?_
  obtain ⟨rfl, rfl⟩ := h₁
  have hN : H s.heap.objs.size = none := I.hok.fresh (Nat.le_refl _)
  have hS : (s.heap.push { cls := .type "list", data := .seq #[] }).get? s.heap.objs.size = some { cls := .type "list", data := .seq #[] } := Heap.get?_push_size _ rfl
  refine ⟨⟨_, hS, rfl⟩, F.args_list_init_2 _ _, ?_⟩
  have hSz : s.heap.objs.size ≠ z := Nat.ne_of_gt (Heap.lt_size hz)
  show wpAny _ _ (do let old ← Builtin.List.listItems (.ref s.heap.objs.size); Builtin.List.listUpdate (.ref s.heap.objs.size) (fun _ => #[]); letGo old.toList.reverse; Builtin.List.listExtendWith (.ref s.heap.objs.size) (.ref z) .none) _ _ _
  refine wpAny_bind ?_
  unfold Builtin.List.listItems
  refine wpAny_bind (wpAny_seqItems hS rfl (wpAny_pure ?_))
  show wpAny _ _ (updateSeq s.heap.objs.size (fun _ => #[]) >>= fun _ => letGo (#[] : Array Value).toList.reverse >>= fun _ => Builtin.List.listExtendWith (.ref s.heap.objs.size) (.ref z) .none) _ _ _
  refine wpAny_bind (wpAny_updateSeq hS rfl ?_)
  have hS₂ := Heap.get?_update_self (Obj.mapSeq (fun _ => (#[] : Array Value))) hS rfl
  have up : ∀ c o, s.heap.get? c = some o → ((s.heap.push { cls := .type "list", data := .seq #[] }).update s.heap.objs.size (Obj.mapSeq (fun _ => (#[] : Array Value)))).get? c = some o := fun c o e =>
    (Heap.get?_update_other _ _ (Nat.ne_of_gt (Heap.lt_size e))).trans (Heap.get?_push_of_some _ e)
  refine wpAny_bind (wpAny_letGo ?_)
  unfold Builtin.List.listExtendWith
  have hz1 := up _ _ hz
  have hT1 : Shared.TypeIs { s with heap := (s.heap.push { cls := .type "list", data := .seq #[] }).update s.heap.objs.size (Obj.mapSeq (fun _ => (#[] : Array Value))) } (.ref z) "zip" := ⟨_, hz1, rfl⟩
  refine wpAny_bind (wpAny_typeOf (T := "zip") hT1 ?_)
  have h1 : Builtin.List.listSameRef (.ref s.heap.objs.size) (.ref z) = false := by simp [Builtin.List.listSameRef, hSz]
  have h2 : (Value.type "zip" == Value.type "list") = false := by decide
  have h3 : (Value.type "zip" == Value.type "tuple") = false := by decide
  simp only [h1, h2, h3, Bool.or_false, Bool.false_eq_true, if_false]
  refine wpAny_bind (wpAny_pyIter_zip hz1 ?_)
  refine wpAny_bind (wpAny_holding ?_)
  unfold Builtin.List.listLengthHint
  refine wpAny_bind (wpAny_specialOf hT1 zip_no_len ?_)
  show wpAny _ _ (specialOf (Value.ref z) (Str.ofString "__length_hint__") >>= _) _ _ _
  refine wpAny_bind (wpAny_specialOf hT1 zip_no_hint ?_)
  refine wpAny_pure ?_
  refine wpAny_ite_split (fun _ => ?_) (fun hab => absurd rfl hab)
  refine wpAny_bind (wpAny_rule ?_)
  refine wpAny_bind ?_
  show wpAny _ _ (updateSeq s.heap.objs.size (·.push .none) >>= fun _ => updateSeq s.heap.objs.size (·.pop)) _ _ _
  refine wpAny_bind (wpAny_updateSeq hS₂ rfl ?_)
  have hS₃ := Heap.get?_update_self (Obj.mapSeq (·.push Value.none)) hS₂ rfl
  refine wpAny_updateSeq (hz := by seq_fits) hS₃ rfl ?_
  have hS₄ := Heap.get?_update_self (Obj.mapSeq (·.pop)) hS₃ rfl
  have up4 : ∀ c o, s.heap.get? c = some o → ((((s.heap.push { cls := .type "list", data := .seq #[] }).update s.heap.objs.size (Obj.mapSeq (fun _ => (#[] : Array Value)))).update s.heap.objs.size (Obj.mapSeq (·.push Value.none))).update s.heap.objs.size (Obj.mapSeq (·.pop))).get? c = some o := fun c o e =>
    (Heap.get?_update_other _ _ (Nat.ne_of_gt (Heap.lt_size e))).trans ((Heap.get?_update_other _ _ (Nat.ne_of_gt (Heap.lt_size e))).trans (up c o e))
  have I1 : Inv X pins σ (upd H s.heap.objs.size (.lst [])) { s with heap := ((((s.heap.push { cls := .type "list", data := .seq #[] }).update s.heap.objs.size (Obj.mapSeq (fun _ => (#[] : Array Value)))).update s.heap.objs.size (Obj.mapSeq (·.push Value.none))).update s.heap.objs.size (Obj.mapSeq (·.pop))) } :=
    I.laid (t' := s.toks) up4 (Nat.le_refl _) (show ObjOk X.prog X.w _ _ _ (.lst []) from ⟨Nat.zero_le _, [], _, .nil, hS₄⟩)
  have al : ∀ c ∈ z :: TI :: TO :: ps.map (·.1), c ≠ s.heap.objs.size := fun c hc => by
    have : ∃ o, s.heap.get? c = some o := by
      rcases List.mem_cons.mp hc with q | q
      · exact ⟨_, by rw [q]; exact hz⟩
      · rcases List.mem_cons.mp q with q | q
        · exact ⟨_, by rw [q]; exact hTI⟩
        · rcases List.mem_cons.mp q with q | q
          · exact ⟨_, by rw [q]; exact hTO⟩
          · obtain ⟨p, hp, e⟩ := List.mem_map.mp q
            obtain ⟨o, e2, _⟩ := (ha p hp).it.alive
            exact ⟨o, by rw [← e]; exact e2⟩
    obtain ⟨o, ho⟩ := this
    exact Nat.ne_of_lt (Heap.lt_size ho)
  have lz := loop_zip (X := X) (pins := pins) (σ := σ) (A := X.A.in1) (R := wants (fun r s₂ => r = Value.none ∧ Q (.ref s.heap.objs.size) s₂) E) (res := .none) (H0 := H) (S := s.heap.objs.size) (m := m) hh D hne hn hR hm hm2 (fun p hp q => by obtain ⟨xs, e⟩ := l0 p hp; rw [q, hN] at e; cases e) hN (fun s' H' ts' I' e1 e2 e3 e4 e5 => ⟨rfl, hQ s' H' _ ts' I' hN e1 e2 e3 e4 e5⟩) m 0 _ _ [] rfl (Nat.zero_le _) I1
    { ti := up4 _ _ hTI, a := fun p hp => (ha p hp).at (fun o e => up4 _ o e) fun o e => up4 _ o e, toA := ⟨_, up4 _ _ hTO⟩, zs := .inl ⟨up4 _ _ hz, us, up4 _ _ hTO, hul⟩, hS := upd_same, len := rfl, col := (fun j t h => by simp at h), base := fun a o e => by rw [upd_ne (ne_of_none e hN)]; exact e, fresh := (fun t h => nomatch h), fp := fun c hc => FpOk.up (hfp c hc) (by rw [upd_ne (al c hc)]; exact (hfp c hc).1) }
  exact wpAny_pure ⟨plainId_quiet F.plain_extend_loop _, lz⟩
theorem call_zip {s : Shared} {lls : List (Addr × Array Value × Bool)} {Q : Value → Shared → Prop} {A : Around} {prog : Program} {w : World} (h1 : 1 ≤ lls.length) (h12 : lls.length ≤ 12) (hls : ∀ l ∈ lls, IsSrc s.heap l.1 l.2.1 l.2.2)
    (h : ∀ h', NewZ s.heap h' lls → Q (.ref (s.heap.objs.size + lls.length + 2)) { s with heap := h' }) : wpAny (model prog w) A (call (.type "zip") (lls.map fun l => .ref l.1)) Q E s := by
  refine callType_new F.called_zip (by decide) (typeCall_zip _) (newCall_zip _ (by rw [List.length_map]; exact h1) (by rw [List.length_map]; exact h12)) (fun obj => args_init obj _) F.entry_zip_new
    (meets_new lls (by omega)) ⟨hls, fun h' nz => ?_⟩
  exact ⟨⟨_, nz.z, rfl⟩, h h' nz⟩
/-- what list(zip( *e)) asks -/
def tLZ (K : PySem.W.Frag) (te : TE) : TE := fun σ H Q => te σ H fun x H1 => ∃ (a : Addr) (rs : List Addr) (xss : List (List V)) (m : Nat), x = .ref a ∧ SqL K H1 a (rs.map V.ref) ∧ 1 ≤ rs.length ∧ rs.length ≤ 12 ∧ Rws H1 rs xss ∧ (∀ xs ∈ xss, xs.length = m) ∧ m < sizeLine ∧
  ∀ (S : Addr) (ts : List Addr) (H2 : Hp), H1 S = none → H2 S = some (.lst (ts.map V.ref)) → ts.length = m → (∀ (j : Nat) (t : Addr), ts[j]? = some t → H2 t = some (.tup (Cols xss j))) → (∀ a o, H1 a = some o → H2 a = some o) → (∀ t ∈ ts, H1 t = none) → Q (.ref S) H2
theorem vals_refs : ∀ {rs : List Addr} {us : List Value}, Vals (rs.map V.ref) us → us = rs.map fun r => .ref r
  | [], _, .nil => rfl
  | _ :: _, _, .cons r t => by
    have e : _ = Value.ref _ := r
    rw [e, vals_refs t]
    rfl
theorem pe_listZip {e : Expr} {te : TE} {p1 p2 p3 pos pos1 : Pos} (hc : X.calm = true) (hgl : Gl X "list") (hml : X.mg "list" = none) (hgz : Gl X "zip") (hmz : X.mg "zip" = none) (he : PE X e te)
    (na : starEach [.Call (.Name "zip" p1) [.Starred e p2] [] pos1] X.env = (false, eval (.Call (.Name "zip" p1) [.Starred e p2] [] pos1) X.env) :: starEach [] X.env := by rfl) :
    PE X (.Call (.Name "list" p3) [.Call (.Name "zip" p1) [.Starred e p2] [] pos1] [] pos) (tLZ X.K te) := by
  refine ⟨fun pins s σ H Q I h => ?_⟩
  refine Call_ (ld_blt I hgl hml boot_list (PyProof.Rows.callWith_type1 (args_cons (Call_ (ld_blt I hgz hmz boot_zip ?_)) na) na))
  rw [show starEach [.Starred e p2] X.env = [(true, eval e X.env)] from rfl]
  refine PySem.W.ks_call (P := fun _ => True) rfl (fun h _ => ⟨.machine, .inr (.inl rfl), PySem.W.Looks.of_pure rfl⟩) (PySem.W.ks_lone ?_)
  refine thn (he.run pins s σ H _ I h) fun v s1 ⟨x, H1, I1, rx, a, rs, xss, m, ex, hsq, n1, n12, hrw, hm, hm2, q⟩ => ?_
  subst ex
  obtain rfl : v = Value.ref a := rx
  refine star_list I1 hsq fun us s2 I2 rv => ⟨trivial, ?_⟩
  have eus := vals_refs rv
  obtain ⟨lls, e1, h1, h2⟩ := hrw.lls I2
  have hll : lls.length = rs.length := by rw [← e1, List.length_map]
  have eus2 : ([] : List Value) ++ us = lls.map fun l => .ref l.1 := by rw [List.nil_append, eus, ← e1, List.map_map]; rfl
  show wpAny _ _ (call (.type "zip") ([] ++ us)) _ _ _
  rw [eus2]
  refine call_zip (by omega) (by omega) (fun l hl => (h1 l hl).1) fun h' nz => ?_
  refine args_nil ?_
  have I3 : Inv X pins σ H1 { s2 with heap := h' } := I2.kept (t' := s2.toks) nz.keep
  have fr : ∀ c, s2.heap.objs.size ≤ c → FpOk X pins H1 c := fun c hc => I2.fpOk hc (I2.hok.fresh hc)
  have D := psOf_apart (N := s2.heap.objs.size) (lls := lls) fun l hl => by
    obtain ⟨o, ho⟩ := (h1 l hl).1.alive
    exact Heap.lt_size ho
  refine call_list_zip (s := { s2 with heap := h' }) (I3.ok.hd hc) I3 D (by
    cases lls with
    | nil => simp at hll; omega
    | cons l ls => simp [psOf]) (by rw [psOf_len]; omega) (RowsL.ps 0 h2) hm hm2 (fun p hp => ?_) nz.z nz.ti nz.to (by rw [List.length_replicate, psOf_len]) nz.a (fun c hcm => ?_) fun s' H' S ts I' a1 a2 a3 a4 a5 a6 => ⟨.ref S, H', I', rfl, q S ts H' a1 a2 a3 a4 a5 a6⟩
  · obtain ⟨_, _, _, hl⟩ := psOf_mem hp
    obtain ⟨xs, e⟩ := (h1 _ hl).2
    exact ⟨_, e⟩
  · refine fr c ?_
    rcases List.mem_cons.mp hcm with z | z
    · rw [z]
      exact Nat.le_trans (Nat.le_add_right _ _) (Nat.le_add_right _ _)
    · rcases List.mem_cons.mp z with z | z
      · rw [z]
        exact Nat.le_add_right _ _
      · rcases List.mem_cons.mp z with z | z
        · rw [z]
          exact Nat.le_trans (Nat.le_add_right _ _) (Nat.le_add_right _ _)
        · obtain ⟨p, hp, e⟩ := List.mem_map.mp z
          obtain ⟨j, _, e2, _⟩ := psOf_mem hp
          rw [← e, e2]
          exact Nat.le_add_right _ _
end Zn
set_option Elab.async false
set_option linter.all false
set_option maxRecDepth 100000
set_option maxHeartbeats 2000000
/-! Dl part 14: list(zip( *rows)). -/
namespace Dl
open PySem L2 PyProof.Rows
section
variable {K : PySem.W.Frag} {B : Bs} {as : List Addr} {σ : L2.St} {H H' : Hp} {N : Addr → Prop}
variable {X : Cx} {n : Nat} {env : EnvD} {M : Mem} {P : PP} {e : Expr} {pos : Pos}
theorem dvs_of_get : ∀ {ds : List D} {vs : List V}, ds.length = vs.length → (∀ (i : Nat) d v, ds[i]? = some d → vs[i]? = some v → DV K N H d v) → DVs K N H ds vs
  | [], [], _, _ => .nil
  | [], _ :: _, h, _ => by simp at h
  | _ :: _, [], h, _ => by simp at h
  | d :: ds, v :: vs, h, g => .cons (g 0 d v rfl rfl) (dvs_of_get (by simpa using h) fun i d v e1 e2 => g (i + 1) d v (by simpa using e1) (by simpa using e2))
def DVss (K : PySem.W.Frag) (N : Addr → Prop) (H : Hp) : List (List D) → List (List V) → Prop
  | [], [] => True
  | ds :: dss, vs :: vss => DVs K N H ds vs ∧ DVss K N H dss vss
  | _, _ => False
theorem rws_of : ∀ {rows : List (List D)} {vs : List V}, DVs K N H (rows.map D.lst) vs → ∃ (rs : List Addr) (xss : List (List V)), vs = rs.map V.ref ∧ rs.length = rows.length ∧ Zn.Rws H rs xss ∧ DVss K N H rows xss
  | [], vs, h => ⟨[], [], h, rfl, trivial, trivial⟩
  | row :: rows, vs, h => by
    obtain ⟨v, r, rfl, d1, d2⟩ := h
    obtain ⟨a, xs, rfl, _, h1, h2⟩ := d1
    obtain ⟨rs, xss, e1, e2, h3, h4⟩ := rws_of d2
    refine ⟨a :: rs, xs :: xss, ?_, ?_, ⟨h1, h3⟩, ⟨h2, h4⟩⟩
    · rw [e1]
      rfl
    · rw [List.length_cons, e2, List.length_cons]
theorem DVss.all {m : Nat} : ∀ {rows : List (List D)} {xss : List (List V)}, DVss K N H rows xss → (∀ row ∈ rows, row.length = m) → ∀ xs ∈ xss, xs.length = m
  | [], [], _, _, _, h => nomatch h
  | [], _ :: _, h, _, _, _ => h.elim
  | _ :: _, [], h, _, _, _ => h.elim
  | row :: rows, xs :: xss, h, hm, ys, hy => by
    rcases List.mem_cons.mp hy with q | q
    · rw [q, ← h.1.length]
      exact hm row List.mem_cons_self
    · exact DVss.all h.2 (fun r hr => hm r (List.mem_cons_of_mem _ hr)) ys q
theorem DVss.cols {m j : Nat} (hj : j < m) : ∀ {rows : List (List D)} {xss : List (List V)}, DVss K N H rows xss → (∀ row ∈ rows, row.length = m) → DVs K N H (rows.map fun row => row.getD j .non) (Zn.Cols xss j)
  | [], [], _, _ => .nil
  | [], _ :: _, h, _ => h.elim
  | _ :: _, [], h, _ => h.elim
  | row :: rows, xs :: xss, h, hm => by
    have h1 := hm row List.mem_cons_self
    have h2 := h.1.length
    obtain ⟨v, e1, d⟩ := h.1.get (List.getElem?_eq_getElem (show j < row.length by omega))
    show DVs K N H (row.getD j .non :: _) (xs.getD j .non :: Zn.Cols xss j)
    refine .cons ?_ (DVss.cols hj h.2 fun r hr => hm r (List.mem_cons_of_mem _ hr))
    rw [List.getD_eq_getElem?_getD, List.getElem?_eq_getElem (show j < row.length by omega), List.getD_eq_getElem?_getD, e1]
    exact d
theorem ed_listZip {p1 p2 p3 pos1 : Pos} (hml : X.mg "list" = none) (hmz : X.mg "zip" = none) (h : ED n X (env, M) e fun r M1 => ∃ (rows : List (List D)) (m : Nat), rdD M1 r = some (.lst (rows.map D.lst)) ∧ 1 ≤ rows.length ∧ rows.length ≤ 12 ∧ (∀ row ∈ rows, row.length = m) ∧ m < sizeLine ∧ P (.dat (.lst ((List.range m).map fun j => D.tup (rows.map fun row => row.getD j .non)))) M1)
    (hc : X.calm = true := by rfl) (hgl : Gl X "list" := by rfl) (hgz : Gl X "zip" := by rfl) (na : starEach [.Call (.Name "zip" p1) [.Starred e p2] [] pos1] X.env = (false, eval (.Call (.Name "zip" p1) [.Starred e p2] [] pos1) X.env) :: starEach [] X.env := by rfl) :
    ED n X (env, M) (.Call (.Name "list" p3) [.Call (.Name "zip" p1) [.Starred e p2] [] pos1] [] pos) P :=
  ed_lift (Zn.pe_listZip hc hgl hml hgz hmz wpE_ok na) fun B as σ H hn C Q q => by
    refine h B as σ H hn C _ fun r v M1 as1 H1 ⟨rows, m, e1, n1, n12, hm, hm2, p⟩ C1 o => ?_
    obtain ⟨a, vs, rfl, ea, dv⟩ := rd_lst C1.cf o e1
    obtain ⟨rs, xss, e2, e3, hw, hd⟩ := rws_of dv
    refine ⟨a, rs, xss, m, rfl, SqL.of (by rw [← e2]; exact ea), by omega, by omega, hw, hd.all hm, hm2, fun S ts H2 hS hS2 hl hcol hb hf => ?_⟩
    have C2 : CG X.K B as as1 (env, M1) σ H2 := ⟨C1.px, C1.cf.grow hb⟩
    have kp : Kp (Ne B as1 M1) (Ne B as1 M1) H1 H2 := ⟨fun a z => .inl z, fun a o _ z => hb a o z⟩
    refine q _ (.ref S) M1 as1 H2 p C2 ⟨S, ts.map V.ref, rfl, fun z => C1.cf.alloc S z hS, hS2, dvs_of_get (by simp [hl]) fun i d v g1 g2 => ?_⟩
    have hi : i < m := by
      have := (List.getElem?_eq_some_iff.mp g1).1
      simpa using this
    rw [List.getElem?_map, List.getElem?_range hi] at g1
    cases g1
    rw [List.getElem?_map] at g2
    cases ht : ts[i]? with
    | none =>
      rw [ht] at g2
      cases g2
    | some t =>
      rw [ht] at g2
      cases g2
      have hft := hf t (List.mem_of_getElem? ht)
      exact ⟨t, Zn.Cols xss i, rfl, .inl ⟨fun z => C1.cf.alloc t z hft, hcol i t ht⟩, DVs.kp kp _ _ (hd.cols hi hm)⟩
end
end Dl
set_option Elab.async false
set_option linter.all false
set_option maxRecDepth 100000
set_option maxHeartbeats 2000000
/-! Zn part 4: for .. in zip(xs, ys), xs a list and ys a tuple (or any mix). -/
namespace Zn
open PySem L2 PyProof.Rows
def SqA (K : PySem.W.Frag) (H : Hp) (a : Addr) (xs : List V) : Bool → Prop
  | true => SqT K H a xs
  | false => SqL K H a xs
theorem SqA.get {X : Cx} {pins : List (Addr × Obj)} {σ : L2.St} {H : Hp} {s : Shared} {a : Addr} {xs : List V} {t : Bool} (I : Inv X pins σ H s) (h : SqA X.K H a xs t) : ∃ its : List Value, Vals xs its ∧ IsSrc s.heap a its.toArray t ∧ xs.length ≤ sizeLine := by
  cases t
  · obtain ⟨its, r, p, z⟩ := I.list h
    exact ⟨its, r, p.isList, z⟩
  · obtain ⟨its, r, p, z⟩ := I.tuple h
    exact ⟨its, r, p, z⟩
theorem SqA.inj {X : Cx} {pins : List (Addr × Obj)} {σ : L2.St} {H : Hp} {s : Shared} {a : Addr} {xs ys : List V} {t : Bool} (I : Inv X pins σ H s) (h : SqA X.K H a xs t) (h' : SqA X.K H a ys t) : xs = ys := by
  cases t
  · exact I.list_inj h h'
  · exact I.tuple_inj h h'
/-- the sources at a and b as they stand at each turn, the items in new pairs -/
def ItzM (K : PySem.W.Frag) (a b : Addr) (t u : Bool) : It :=
  ⟨fun i H => ∃ xs ys x y, SqA K H a xs t ∧ SqA K H b ys u ∧ xs[i]? = some x ∧ ys[i]? = some y,
    fun i H v H' => ∃ T x y, v = .ref T ∧ H T = none ∧ H' = upd H T (.tup [x, y]) ∧ (∀ xs, SqA K H a xs t → xs[i]? = some x) ∧ ∀ ys, SqA K H b ys u → ys[i]? = some y,
    fun i H => ∃ xs ys, SqA K H a xs t ∧ SqA K H b ys u ∧ xs.length ≤ i⟩
structure TnM (z TI TO i1 i2 a b : Addr) (t u : Bool) (i : Nat) (h : Heap) : Prop where
  z : IsZip h z TI TO .none
  ti : IsTupN h TI [.ref i1, .ref i2]
  to : ∃ us, IsTupN h TO us ∧ us.length = 2
  a : IsIt h i (i1, a, #[], t)
  b : IsIt h i (i2, b, #[], u)
theorem turn_zipM {P : Program} {w : World} {K : PySem.W.Frag} {elts : List Expr} {kk : Nat} {tpos : Pos} {a b z TI TO i1 i2 : Addr} {t u : Bool} (D : ∀ v v', Apart z TI TO [(i1, a, v, t), (i2, b, v', u)]) :
    Turn P w K (.Tuple elts kk tpos) (ItzM K a b t u) [z, TI, TO, i1, i2] z (TnM z TI TO i1 i2 a b t u) where
  mem := List.mem_cons_self
  obj := fun i h st c hc => by
    obtain ⟨us, hTO, _⟩ := st.to
    obtain ⟨o1, e1, d1⟩ := st.a.alive
    obtain ⟨o2, e2, d2⟩ := st.b.alive
    simp only [List.mem_cons, List.not_mem_nil, or_false] at hc
    rcases hc with rfl | rfl | rfl | rfl | rfl
    · exact ⟨_, st.z, fun v q => nomatch q⟩
    · exact ⟨_, st.ti, fun v q => nomatch q⟩
    · exact ⟨_, hTO, fun v q => nomatch q⟩
    · exact ⟨o1, e1, d1⟩
    · exact ⟨o2, e2, d2⟩
  keep := fun i h h' st k => by
    obtain ⟨us, hTO, hl⟩ := st.to
    exact ⟨k z (by simp) _ st.z, k TI (by simp) _ st.ti, ⟨us, k TO (by simp) _ hTO, hl⟩, st.a.at fun o q => k i1 (by simp) o q, st.b.at fun o q => k i2 (by simp) o q⟩
  item := by
    intro X hP hw hK hc i pins s σ H E I hf st hg
    subst hP hw hK
    obtain ⟨us, hTO, hul⟩ := st.to
    obtain ⟨xs, ys, x, y, hqx, hqy, hx, hy⟩ := hg
    obtain ⟨its1, rv, p1, _⟩ := hqx.get I
    obtain ⟨its2, rv2, p2, _⟩ := hqy.get I
    obtain ⟨v1, hv1, ru⟩ := rv.get hx
    obtain ⟨v2, hv2, ru2⟩ := rv2.get hy
    have D := D its1.toArray its2.toArray
    have hzl : z < s.heap.objs.size := Heap.lt_size st.z
    have l1 := (List.getElem?_eq_some_iff.mp hv1).1
    have l2 := (List.getElem?_eq_some_iff.mp hv2).1
    have at1 : At s.heap i (i1, a, its1.toArray, t) := ⟨st.a, p1⟩
    have at2 : At s.heap i (i2, b, its2.toArray, u) := ⟨st.b, p2⟩
    have ev : vals i [(i1, a, its1.toArray, t), (i2, b, its2.toArray, u)] = [v1, v2] := by
      simp [vals, hv1, hv2]
    refine pyNext_first (k := i) D (by simp) (by simp) st.z st.ti hTO hul (fun p hp => ?_) (fun p hp => ?_) fun h' z' TO' ha' hT hsz hk => ?_
    · simp only [List.mem_cons, List.not_mem_nil, or_false] at hp
      rcases hp with rfl | rfl
      · exact at1
      · exact at2
    · simp only [List.mem_cons, List.not_mem_nil, or_false] at hp
      rcases hp with rfl | rfl
      · simpa using l1
      · simpa using l2
    rw [ev] at hT TO'
    refine ⟨_, rfl, wpAny_letOwnedTupleGo_zip (s := { s with heap := h' }) z' fun h'' z'' sb => ?_⟩
    have hT2 : IsTupN h'' s.heap.objs.size [v1, v2] := (sb.2 _ (Nat.ne_of_gt hzl)).trans hT
    have hk2 : ∀ c o, c ∉ [z, TI, TO, i1, i2] → s.heap.get? c = some o → h''.get? c = some o := fun c o hb q => by
      simp only [List.mem_cons, List.not_mem_nil, or_false, not_or] at hb
      refine (sb.2 c hb.1).trans (hk c o hb.1 hb.2.2.1 (fun p hp => ?_) q)
      simp only [List.mem_cons, List.not_mem_nil, or_false] at hp
      rcases hp with rfl | rfl
      · exact hb.2.2.2.1
      · exact hb.2.2.2.2
    have I1 : Inv X pins σ (upd H s.heap.objs.size (.tup [x, y])) { s with heap := h'' } :=
      I.turnedNew (t' := s.toks) (ch := [z, TI, TO, i1, i2]) hk2 hf (Nat.le_refl _) ⟨by show 2 ≤ sizeLine; decide, [v1, v2], .cons ru (.cons ru2 .nil), ⟨_, hT2, rfl, _, rfl⟩⟩
    have a1 := ha' _ List.mem_cons_self
    have a2 := ha' _ (List.mem_cons_of_mem _ List.mem_cons_self)
    have k1 : TI ≠ z := D.TIz
    have m1 : (i1, a, its1.toArray, t) ∈ [(i1, a, its1.toArray, t), (i2, b, its2.toArray, u)] := List.mem_cons_self
    have m2 : (i2, b, its2.toArray, u) ∈ [(i1, a, its1.toArray, t), (i2, b, its2.toArray, u)] := List.mem_cons_of_mem _ List.mem_cons_self
    refine ⟨.ref s.heap.objs.size, _, I1, rfl, ⟨_, x, y, rfl, I.hok.fresh (Nat.le_refl _), rfl, fun l hl => by rw [hl.inj I hqx]; exact hx, fun l hl => by rw [hl.inj I hqy]; exact hy⟩, ⟨z'', (sb.2 _ k1).trans (hk _ _ k1 D.TITO (fun p hp => (D.it p hp).2.1.symm) st.ti), ⟨_, (sb.2 _ D.TOz).trans TO', rfl⟩, IsIt.at (p := (i1, a, #[], t)) a1.it fun o q => (sb.2 _ (D.it _ m1).1).trans q, IsIt.at (p := (i2, b, #[], u)) a2.it fun o q => (sb.2 _ (D.it _ m2).1).trans q⟩, fun c hcm => ?_⟩
    have hlt : c < s.heap.objs.size := by
      simp only [List.mem_cons, List.not_mem_nil, or_false] at hcm
      rcases hcm with rfl | rfl | rfl | rfl | rfl
      · exact hzl
      · exact Heap.lt_size st.ti
      · exact Heap.lt_size hTO
      · obtain ⟨_, e, _⟩ := st.a.alive
        exact Heap.lt_size e
      · obtain ⟨_, e, _⟩ := st.b.alive
        exact Heap.lt_size e
    rw [upd_ne (Nat.ne_of_lt hlt)]
    exact (hf c hcm).1
  done := by
    intro X hP hw hK hc i pins s σ H E I hf st hg
    subst hP hw hK
    obtain ⟨xs, ys, hqx, hqy, hend⟩ := hg
    obtain ⟨its1, rv, p1, _⟩ := hqx.get I
    obtain ⟨its2, rv2, p2, _⟩ := hqy.get I
    have hl := rv.length
    refine pyNext_end (us := []) (I.ok.hd hc) (D its1.toArray its2.toArray) (.inl st.z) st.ti ⟨st.a, p1⟩ (by simp; omega) fun h' hk => ⟨rfl, I.turnedL (t' := s.toks) (ch := [z, TI, TO, i1, i2]) (fun c o hb q => ?_) hf⟩
    simp only [List.mem_cons, List.not_mem_nil, or_false, not_or] at hb
    refine hk c o hb.1 (fun p hp => ?_) q
    simp only [List.mem_cons, List.not_mem_nil, or_false] at hp
    rcases hp with rfl | rfl
    · exact hb.2.2.2.1
    · exact hb.2.2.2.2
  self := fun A i s Q E st h => wpAny_pyIter_zip st.z h
def iZipM (K : PySem.W.Frag) (ta : TA) : TI := fun σ H R => ta σ H fun vs H1 => ∃ (a b : Addr) (xs ys : List V) (t u : Bool), vs = [.ref a, .ref b] ∧ SqA K H1 a xs t ∧ SqA K H1 b ys u ∧ R (ItzM K a b t u) H1
theorem pi_zipM {X : Cx} {e e2 : Expr} {ta : TA} {p pos tpos : Pos} {elts : List Expr} {kk : Nat} (hg : Gl X "zip") (hm : X.mg "zip" = none) (ha : PA X [e, e2] ta)
    (hs : starEach [e, e2] X.env = (false, eval e X.env) :: starEach [e2] X.env := by rfl) (hpl : (backTo pos (starEach [e2] X.env)).any (·.1) = false := by rfl) :
    PI X (.Tuple elts kk tpos) (.Call (.Name "zip" p) [e, e2] [] pos) (iZipM X.K ta) := by
  refine ⟨fun pins s σ H R I h => ?_⟩
  refine Call_ (ld_blt I hg hm PyProof.Rows.boot_zip (PyProof.Rows.callWith_type1 (thn (ha.run pos pins s σ H _ I h) fun us s1 ⟨vs, H1, I1, r1, q1⟩ => ?_) hs hpl))
  obtain ⟨a, b, xs, ys, t, u, ex, hqx, hqy, q⟩ := q1
  subst ex
  have eus := vals_refs (rs := [a, b]) r1
  subst eus
  obtain ⟨its1, rv, p1, _⟩ := hqx.get I1
  obtain ⟨its2, rv2, p2, _⟩ := hqy.get I1
  have al : ∀ l ∈ [(a, its1.toArray, t), (b, its2.toArray, u)], IsSrc s1.heap l.1 l.2.1 l.2.2 := fun l hl => by
    simp only [List.mem_cons, List.not_mem_nil, or_false] at hl
    rcases hl with rfl | rfl
    · exact p1
    · exact p2
  have lt : ∀ l ∈ [(a, its1.toArray, t), (b, its2.toArray, u)], l.1 < s1.heap.objs.size := fun l hl => by
    obtain ⟨o, ho⟩ := (al l hl).alive
    exact Heap.lt_size ho
  have lta : a < s1.heap.objs.size := lt (a, its1.toArray, t) List.mem_cons_self
  have ltb : b < s1.heap.objs.size := lt (b, its2.toArray, u) (List.mem_cons_of_mem _ List.mem_cons_self)
  refine call_zip (lls := [(a, its1.toArray, t), (b, its2.toArray, u)]) (by simp) (by simp) al fun h' nz => wpAny_pyIter_zip nz.z ?_
  have I2 : Inv X pins σ H1 { s1 with heap := h' } := I1.kept (t' := s1.toks) nz.keep
  have e1 : psOf s1.heap.objs.size [(a, its1.toArray, t), (b, its2.toArray, u)] = [(s1.heap.objs.size + 0, a, its1.toArray, t), (s1.heap.objs.size + 1, b, its2.toArray, u)] := rfl
  have aa := nz.a
  rw [e1] at aa
  refine ⟨_, [s1.heap.objs.size + 4, s1.heap.objs.size + 2, s1.heap.objs.size + 3, s1.heap.objs.size + 0, s1.heap.objs.size + 1], _, _, H1, rfl, I2, turn_zipM (i1 := s1.heap.objs.size + 0) (i2 := s1.heap.objs.size + 1) (TI := s1.heap.objs.size + 2) (TO := s1.heap.objs.size + 3) fun v v' => psOf_apart (N := s1.heap.objs.size) (lls := [(a, v, t), (b, v', u)]) fun l hl => ?_, ⟨nz.z, nz.ti, ⟨_, nz.to, rfl⟩, (aa _ List.mem_cons_self).it, (aa _ (List.mem_cons_of_mem _ List.mem_cons_self)).it⟩, fun c hcm => ?_, q⟩
  · simp only [List.mem_cons, List.not_mem_nil, or_false] at hl
    rcases hl with rfl | rfl
    · exact lta
    · exact ltb
  · have hle : s1.heap.objs.size ≤ c := by
      simp only [List.mem_cons, List.not_mem_nil, or_false] at hcm
      rcases hcm with rfl | rfl | rfl | rfl | rfl <;> exact Nat.le_add_right _ _
    exact I1.fpOk hle (I1.hok.fresh hle)
end Zn
set_option Elab.async false
set_option linter.all false
set_option maxRecDepth 100000
set_option maxHeartbeats 2000000
/-! Dl part 15: zip of a list and a tuple. -/
namespace Dl
open PySem L2 PyProof.Rows
section
variable {K : PySem.W.Frag} {B : Bs} {as : List Addr} {σ : L2.St} {H H' : Hp} {N : Addr → Prop}
variable {X : Cx} {n : Nat} {env : EnvD} {M : Mem} {a b : Expr} {pos p : Pos}
theorem rd_tup {c : Conf} {r : EI} {v : V} {ds : List D} (C : CF K B as c σ H) (o : VOk K (Ne B as c.2) H as r v) (h : rdD c.2 r = some (.tup ds)) : ∃ q vs, v = .ref q ∧ SqT K H q vs ∧ DVs K (Ne B as c.2) H ds vs := by
  obtain ⟨q, vs, e, h1, h2⟩ : DV K (Ne B as c.2) H (.tup ds) v := rd_dv (env := c.1) C o h trivial
  exact ⟨q, vs, e, h1.sq, h2⟩
theorem wk_zipLT {r r' : EI} {p p' : Addr} {ds es : List D} (hg : (r, V.ref p) ∈ B.G) (hg' : (r', V.ref p') ∈ B.G) (hle : ds.length ≤ es.length) : WkD K B as (Zn.ItzM K p p' false true) (zipD ds es) (fun M => rdD M r = some (.lst ds) ∧ rdD M r' = some (.tup es)) := ⟨fun as' c σ H C s i => by
  obtain ⟨q, vs, e, h1, dv⟩ := rd_lst (env := c.1) C.cf (C.cf.gh _ hg) s.1
  have e : p = q := by injection e
  subst e
  obtain ⟨q, us, e, h2, dv'⟩ := rd_tup C.cf (C.cf.gh _ hg') s.2
  have e : p' = q := by injection e
  subst e
  have s1 : Zn.SqA K H p vs false := SqL.of h1
  have s2 : Zn.SqA K H p' us true := h2
  refine ⟨fun hi => ⟨vs, us, s1, s2, by rw [← dv.length]; rw [zipD_len] at hi; omega⟩, fun d hd => ?_⟩
  rw [zipD_get] at hd
  cases e0 : ds[i]? with
  | none =>
    rw [e0] at hd
    cases hd
  | some d0 =>
    cases e9 : es[i]? with
    | none =>
      rw [e0, e9] at hd
      cases hd
    | some d9 =>
      rw [e0, e9] at hd
      cases hd
      obtain ⟨v, e1, dv1⟩ := dv.get e0
      obtain ⟨u, e1', dv1'⟩ := dv'.get e9
      refine ⟨⟨vs, us, v, u, s1, s2, e1, e1'⟩, fun x H' ⟨T, y, y', e2, hT, e3, e4, e5⟩ => ?_⟩
      have g1 := e4 vs s1
      rw [e1] at g1
      cases g1
      have g2 := e5 us s2
      rw [e1'] at g2
      cases g2
      subst e2
      subst e3
      obtain ⟨a1, a2⟩ := dv_new_tup (env := c.1) (M := c.2) (σ := σ) (ds := [d0, d9]) (vs := [v, u]) C.cf hT (.cons dv1 (.one dv1'))
      exact ⟨grow_new hT, a2⟩⟩
theorem id_zipLT {elts : List Expr} {kk : Nat} {tpos : Pos} {P : List D → (Mem → Prop) → Mem → Prop} (hm : X.mg "zip" = none) (h : ED n X (env, M) a fun r M1 => ED n X (env, M1) b fun r' M' => ∃ ds es, rdD M' r = some (.lst ds) ∧ rdD M' r' = some (.tup es) ∧ ds.length ≤ es.length ∧ P (zipD ds es) (fun M => rdD M r = some (.lst ds) ∧ rdD M r' = some (.tup es)) M') (hg : Gl X "zip" := by rfl) (hs : starEach [a, b] X.env = (false, eval a X.env) :: starEach [b] X.env := by rfl) (hs2 : starEach [b] X.env = (false, eval b X.env) :: starEach [] X.env := by rfl) (hpl : (backTo pos (starEach [b] X.env)).any (·.1) = false := by rfl) : ID n X (env, M) (.Tuple elts kk tpos) (.Call (.Name "zip" p) [a, b] [] pos) P := fun B as σ H hn C R q => wpI_of (Zn.pi_zipM hg hm (pa_cons wpE_ok (pa_cons wpE_ok pa_nil hs2) hs) hs hpl) (by
  refine h B as σ H hn C _ fun r v M1 as1 H1 h1 C1 o1 => ?_
  refine h1 (B.add (r, v)) as1 σ H1 hn (C1.cf.add o1) _ fun r' v' M2 as2 H2 ⟨ds, es, e0, e9, hle, pp⟩ C2 o2 => ?_
  obtain ⟨q1, vs, ev, h3, dv⟩ := rd_lst C2.cf C2.cf.top e0
  obtain ⟨q2, us, ev', h4, dv'⟩ := rd_tup C2.cf o2 e9
  have ev : v = .ref q1 := ev
  subst ev
  subst ev'
  refine ⟨q1, q2, vs, us, false, true, rfl, SqL.of h3, h4, ?_⟩
  exact q _ _ [(r', .ref q2), (r, .ref q1)] M2 as2 H2 _ pp ⟨C1.px.trans C2.px, C2.cf.add o2⟩ (wk_zipLT (List.mem_cons_of_mem _ List.mem_cons_self) List.mem_cons_self hle))
end
end Dl
set_option Elab.async false
set_option linter.all false
set_option maxRecDepth 100000
set_option maxHeartbeats 2000000
/-! What the program's defs compute, as plain functions; how data stands for it. -/
namespace Fb
open PySem L2 Dl
def dI (xs : List Int) : D := .lst (xs.map .int)
def dM (m : List (List Int)) : D := .lst (m.map dI)
def dMs (ms : List (List (List Int))) : D := .lst (ms.map dM)
/-- all below 2 ^ b in size -/
def Bd (b : Nat) (xs : List Int) : Prop := ∀ x ∈ xs, x.natAbs < 2 ^ b
theorem Bd.mono {a b xs} (h : Bd a xs) (l : a ≤ b) : Bd b xs := fun x hx => Nat.lt_of_lt_of_le (h x hx) (Nat.pow_le_pow_right (by decide) l)
theorem szl {n : Nat} (h : n ≤ 100000) : n ≤ sizeLine := Nat.le_trans h (by decide)
theorem szlt {n : Nat} (h : n < 100000) : n < sizeLine := Nat.lt_of_lt_of_le h (by decide)
theorem map_get {α β : Type} {f : α → β} {xs : List α} {i : Nat} {d : β} (h : (xs.map f)[i]? = some d) : ∃ x, xs[i]? = some x ∧ d = f x := by
  rw [List.getElem?_map] at h
  cases e : xs[i]? with
  | none =>
    rw [e] at h
    cases h
  | some x =>
    rw [e] at h
    exact ⟨x, rfl, (Option.some.inj h).symm⟩
theorem take_snoc {α : Type} {xs : List α} {i : Nat} {x : α} (h : xs[i]? = some x) : xs.take (i + 1) = xs.take i ++ [x] := by
  rw [List.take_succ, h]
  simp
theorem foldl_take {α β : Type} {f : β → α → β} {b : β} {xs : List α} {i : Nat} {x : α} (h : xs[i]? = some x) : (xs.take (i + 1)).foldl f b = f ((xs.take i).foldl f b) x := by
  rw [take_snoc h, List.foldl_append]
  rfl
theorem zipD_map {α β : Type} (f : α → D) (g : β → D) (xs : List α) (ys : List β) : zipD (xs.map f) (ys.map g) = (xs.zip ys).map fun p => D.tup [f p.1, g p.2] := by
  induction xs generalizing ys with
  | nil => simp [zipD]
  | cons x xs ih =>
    cases ys with
    | nil => simp [zipD]
    | cons y ys => simp [zipD, ih]
theorem enumD_map {α : Type} (f : α → D) (xs : List α) : ∀ k, enumD k (xs.map f) = (xs.zipIdx k).map fun p => D.tup [.int (p.2 : Nat), f p.1] := by
  induction xs with
  | nil => intro k; rfl
  | cons x xs ih => intro k; simp [enumD, ih]
theorem rangeD_map (lo : Int) (m : Nat) : rangeD lo m = (List.range m).map fun i => D.int (lo + (i : Nat)) := rfl
/-! ### lattices -/
def dot (xs ys : List Int) : Int := (List.zipWith (· * ·) xs ys).sum
def reduced (xs ys : List Int) (k : Int) : List Int := List.zipWith (fun l r => l - k * r) xs ys
def gcdL (ns : List Int) : Nat := ns.foldl (fun g x => Nat.gcd x.natAbs g) 0
def firstSpot (xs : List Int) : Nat := xs.findIdx (· != 0)
abbrev Lines := List (Nat × List Int)
def dLine (l : Nat × List Int) : D := .tup [.int (l.1 : Nat), dI l.2]
def dLines (ls : Lines) : List D := ls.map dLine
def redBy (v : List Int) (l : Nat × List Int) : List Int := if v.getD l.1 0 ≠ 0 then reduced (v.map (l.2.getD l.1 0 * ·)) l.2 (v.getD l.1 0) else v
def primitive (v : List Int) : List Int := if 1 < gcdL v then v.map fun x => x.fdiv (gcdL v : Nat) else v
def restV (ls : Lines) (v : List Int) : List Int := primitive (ls.foldl redBy v)
def takeV (ls : Lines) (v : List Int) : Bool × Lines := let r := restV ls v; if r.any (· != 0) then (true, ls ++ [(firstSpot r, r)]) else (false, ls)
def cDot : Ct := fun args M P => ∃ xs ys a b, (args = [.dat (dI xs), .dat (dI ys)] ∨ (xs.length ≤ ys.length ∧ args = [.dat (dI xs), .dat (.tup (ys.map .int))])) ∧ M = [] ∧ Bd a xs ∧ Bd b ys ∧ a + b ≤ 134000000 ∧ xs.length ≤ 1000 ∧ P false (.int (dot xs ys)) []
def cReduced : Ct := fun args M P => ∃ xs ys k a b, args = [.dat (dI xs), .dat (dI ys), .dat (.int k)] ∧ M = [] ∧ Bd b ys ∧ k.natAbs < 2 ^ a ∧ a + b ≤ 134000000 ∧ xs.length ≤ 1000 ∧ P true (dI (reduced xs ys k)) []
def cGcd : Ct := fun args M P => ∃ ns, args = [.dat (dI ns)] ∧ M = [] ∧ P false (.int (gcdL ns : Nat)) []
def cFirst : Ct := fun args M P => ∃ ns, args = [.dat (dI ns)] ∧ M = [] ∧ ns.length ≤ 1000 ∧ (ns.any (· != 0)) = true ∧ P false (.int (firstSpot ns : Nat)) []
/-- lines over vectors of n numbers: each has its spot within, a number there; bits -/
structure LinesOk (n b : Nat) (ls : Lines) : Prop where
  len : ∀ l ∈ ls, l.2.length = n ∧ l.1 < n
  bd : ∀ l ∈ ls, Bd b l.2
  few : ls.length ≤ 100
def DivOk (w : List Int) : Prop := ∀ x ∈ w, Builtin.divisionGoesByPylong x (gcdL w : Nat) = false
def cRest (CSpan : Addr) : Ct := fun args M P => ∃ ls v n b, args = [.spn CSpan "lines" 0, .dat (dI v)] ∧ M = [.lst (dLines ls)] ∧ v.length = n ∧ n ≤ 100 ∧ LinesOk n b ls ∧ Bd b v ∧ (ls.length + 2) * (b + 2) ≤ 60000000 ∧ DivOk (ls.foldl redBy v) ∧ P true (dI (restV ls v)) [.lst (dLines ls)]
def cTake (CSpan : Addr) : Ct := fun args M P => ∃ ls v n b, args = [.spn CSpan "lines" 0, .dat (dI v)] ∧ M = [.lst (dLines ls)] ∧ v.length = n ∧ n ≤ 100 ∧ LinesOk n b ls ∧ Bd b v ∧ (ls.length + 2) * (b + 2) ≤ 60000000 ∧ DivOk (ls.foldl redBy v) ∧ P false (.bl (takeV ls v).1) [.lst (dLines (takeV ls v).2)]
theorem reduced_len {xs ys : List Int} {k : Int} (h : ys.length = xs.length) : (reduced xs ys k).length = xs.length := by
  rw [reduced, List.length_zipWith, h, Nat.min_self]
theorem mem_zipWith {α β γ : Type} {f : α → β → γ} {xs : List α} {ys : List β} {z : γ} (h : z ∈ List.zipWith f xs ys) : ∃ x ∈ xs, ∃ y ∈ ys, z = f x y := by
  induction xs generalizing ys with
  | nil => simp at h
  | cons x xs ih =>
    cases ys with
    | nil => simp at h
    | cons y ys =>
      rw [List.zipWith_cons_cons] at h
      rcases List.mem_cons.mp h with h | h
      · exact ⟨x, List.mem_cons_self, y, List.mem_cons_self, h⟩
      · obtain ⟨x', h1, y', h2, e⟩ := ih h
        exact ⟨x', List.mem_cons_of_mem _ h1, y', List.mem_cons_of_mem _ h2, e⟩
theorem mul_bd {i j : Int} {a b : Nat} (ha : i.natAbs < 2 ^ a) (hb : j.natAbs < 2 ^ b) : (i * j).natAbs < 2 ^ (a + b) := by
  rw [Int.natAbs_mul, Nat.pow_add]
  exact Nat.mul_lt_mul'' ha hb
theorem getD_bd {b : Nat} {xs : List Int} (h : Bd b xs) (i : Nat) : (xs.getD i 0).natAbs < 2 ^ b := by
  rw [List.getD_eq_getElem?_getD]
  cases e : xs[i]? with
  | none => exact Nat.two_pow_pos b
  | some x => exact h x (List.mem_of_getElem? e)
theorem redBy_len {n b : Nat} {v : List Int} {l : Nat × List Int} (hv : v.length = n) (hl : l.2.length = n) : (redBy v l).length = n := by
  unfold redBy
  split
  · rw [reduced_len (by simp [hv, hl]), List.length_map, hv]
  · exact hv
theorem redBy_bd {a b : Nat} {v : List Int} {l : Nat × List Int} (hv : Bd a v) (hl : Bd b l.2) : Bd (a + b + 1) (redBy v l) := by
  unfold redBy
  split
  · intro z hz
    obtain ⟨x, hx, y, hy, rfl⟩ := mem_zipWith hz
    obtain ⟨u, hu, rfl⟩ := List.mem_map.mp hx
    have h1 := mul_bd (getD_bd hl l.1) (hv u hu)
    have h2 := mul_bd (getD_bd hv l.1) (hl y hy)
    rw [Nat.add_comm] at h1
    rw [Nat.pow_succ]
    omega
  · exact hv.mono (by omega)
theorem fold_ok {n b : Nat} {ls : Lines} {v : List Int} (hv : v.length = n) (hb : Bd b v) (h : LinesOk n b ls) : ∀ i, i ≤ ls.length → ((ls.take i).foldl redBy v).length = n ∧ Bd ((i + 1) * (b + 1)) ((ls.take i).foldl redBy v)
  | 0, _ => ⟨hv, hb.mono (by omega)⟩
  | i + 1, hi => by
    obtain ⟨h1, h2⟩ := fold_ok hv hb h i (by omega)
    have hx : ls[i]? = some ls[i] := List.getElem?_eq_getElem (by omega)
    rw [foldl_take hx]
    have m := List.getElem_mem (show i < ls.length by omega)
    refine ⟨redBy_len (b := b) h1 (h.len _ m).1, (redBy_bd h2 (h.bd _ m)).mono ?_⟩
    rw [Nat.succ_mul (i + 1)]
    omega
end Fb
set_option Elab.async false
set_option linter.all false
set_option maxRecDepth 100000
set_option maxHeartbeats 2000000
/-! Systems and figures. -/
namespace Fb
open PySem L2 Dl
def figR (b n : Nat) : List Nat := if h : n = 0 ∨ b < 2 then [] else n % b :: figR b (n / b)
termination_by n
decreasing_by exact Nat.div_lt_self (by omega) (by omega)
def figL (b n : Nat) : List Nat := (figR b n).reverse
theorem figR_zero (b : Nat) : figR b 0 = [] := by rw [figR]; simp
theorem figR_pos {b n : Nat} (hn : 0 < n) (hb : 2 ≤ b) : figR b n = n % b :: figR b (n / b) := by
  rw [figR, dif_neg (by omega)]
theorem figR_lt {b : Nat} (hb : 2 ≤ b) : ∀ n : Nat, ∀ r ∈ figR b n, r < b := by
  intro n
  induction n using Nat.strongRecOn with
  | _ n ih =>
    intro r hr
    by_cases h0 : n = 0
    · subst h0
      rw [figR_zero] at hr
      cases hr
    · rw [figR_pos (by omega) hb] at hr
      rcases List.mem_cons.mp hr with e | e
      · rw [e]
        exact Nat.mod_lt _ (by omega)
      · exact ih _ (Nat.div_lt_self (by omega) (by omega)) r e
theorem figR_len {b : Nat} (hb : 2 ≤ b) : ∀ k n : Nat, n < 2 ^ k → (figR b n).length ≤ k
  | 0, n, h => by
    have : n = 0 := by simpa using h
    subst this
    rw [figR_zero]
    exact Nat.le_refl _
  | k + 1, n, h => by
    by_cases h0 : n = 0
    · subst h0
      rw [figR_zero]
      exact Nat.zero_le _
    · rw [figR_pos (by omega) hb, List.length_cons]
      refine Nat.succ_le_succ (figR_len hb k _ ?_)
      rw [Nat.div_lt_iff_lt_mul (by omega)]
      rw [Nat.pow_succ] at h
      exact Nat.lt_of_lt_of_le h (Nat.mul_le_mul_left _ hb)
def dN (ns : List Nat) : D := .lst (ns.map fun n => .int (n : Nat))
structure Sys where
  starts : List Int
  mats : List (List (List Int))
  factors : List Int
def dSys (C : Addr) (S : Sys) : D := .ins C ["starts", "matrices", "factors"] [dI S.starts, dMs S.mats, dI S.factors]
def Sys.fol (S : Sys) (col : List Int) (r : Nat) : List Int := (S.mats.getD r []).map fun l => dot l col
def Sys.col (S : Sys) (place : Nat) : List Int := (figL S.mats.length place).foldl S.fol S.starts
def Sys.behind (S : Sys) (col : List Int) (block : List Nat) : List Int := block.foldl S.fol col
structure SysOk (n g : Nat) (S : Sys) : Prop where
  rows : ∀ m ∈ S.mats, m.length = n ∧ ∀ l ∈ m, l.length = n ∧ Bd g l
  st : S.starts.length = n ∧ Bd g S.starts
  fa : S.factors.length = n ∧ Bd g S.factors
  few : n ≤ 100
  base : 2 ≤ S.mats.length ∧ S.mats.length ≤ 100
theorem sum_bd {b : Nat} : ∀ (xs : List Int), (∀ x ∈ xs, x.natAbs < 2 ^ b) → xs.sum.natAbs ≤ xs.length * 2 ^ b
  | [], _ => by simp
  | x :: xs, h => by
    have h1 := h x List.mem_cons_self
    have h2 := sum_bd xs fun y hy => h y (List.mem_cons_of_mem _ hy)
    rw [List.sum_cons, List.length_cons, Nat.succ_mul]
    omega
theorem dot_bd {xs ys : List Int} {a b : Nat} (h1 : Bd a xs) (h2 : Bd b ys) (hl : xs.length ≤ 100) : (dot xs ys).natAbs < 2 ^ (a + b + 7) := by
  have h := sum_bd (b := a + b) (List.zipWith (· * ·) xs ys) fun z hz => by
    obtain ⟨x, hx, y, hy, rfl⟩ := mem_zipWith hz
    exact mul_bd (h1 x hx) (h2 y hy)
  have hl2 : (List.zipWith (· * ·) xs ys).length ≤ 100 := by
    rw [List.length_zipWith]
    omega
  have := Nat.mul_le_mul_right (2 ^ (a + b)) hl2
  have p := Nat.two_pow_pos (a + b)
  rw [Nat.pow_add]
  unfold dot
  omega
theorem SysOk.mem {n g : Nat} {S : Sys} (h : SysOk n g S) {r : Nat} (hr : r < S.mats.length) : (S.mats.getD r []).length = n ∧ ∀ l ∈ S.mats.getD r [], l.length = n ∧ Bd g l := by
  have e : S.mats.getD r [] = S.mats[r] := by simp [List.getD_eq_getElem?_getD, List.getElem?_eq_getElem hr]
  rw [e]
  exact h.rows _ (List.getElem_mem hr)
theorem fol_ok {n g b r : Nat} {S : Sys} (h : SysOk n g S) (hr : r < S.mats.length) {col : List Int} (hc : Bd b col) : (S.fol col r).length = n ∧ Bd (b + (g + 7)) (S.fol col r) := by
  obtain ⟨h1, h2⟩ := h.mem hr
  refine ⟨by rw [Sys.fol, List.length_map, h1], fun x hx => ?_⟩
  obtain ⟨l, hl, rfl⟩ := List.mem_map.mp hx
  obtain ⟨l1, l2⟩ := h2 l hl
  have := dot_bd l2 hc (by rw [l1]; exact h.few)
  rwa [show b + (g + 7) = g + b + 7 by omega]
theorem behind_ok {n g : Nat} {S : Sys} (h : SysOk n g S) : ∀ (bl : List Nat) {b : Nat} {col : List Int}, (∀ r ∈ bl, r < S.mats.length) → col.length = n → Bd b col → (S.behind col bl).length = n ∧ Bd (b + bl.length * (g + 7)) (S.behind col bl)
  | [], b, col, _, hl, hc => ⟨hl, by simpa [Sys.behind] using hc⟩
  | r :: bl, b, col, hr, hl, hc => by
    obtain ⟨h1, h2⟩ := fol_ok h (hr r List.mem_cons_self) hc
    obtain ⟨h3, h4⟩ := behind_ok h bl (fun r q => hr r (List.mem_cons_of_mem _ q)) h1 h2
    refine ⟨h3, h4.mono ?_⟩
    rw [List.length_cons, Nat.succ_mul]
    omega
theorem figL_lt {b n : Nat} (hb : 2 ≤ b) : ∀ r ∈ figL b n, r < b := fun r hr => figR_lt hb n r (List.mem_reverse.mp hr)
theorem col_ok {n g : Nat} {S : Sys} (h : SysOk n g S) (place : Nat) : (S.col place).length = n ∧ Bd (g + (figL S.mats.length place).length * (g + 7)) (S.col place) := behind_ok h _ (figL_lt h.base.1) h.st.1 h.st.2
def cFigures : Ct := fun args M P => ∃ place base : Nat, args = [.dat (.int (place : Nat)), .dat (.int (base : Nat))] ∧ M = [] ∧ 2 ≤ base ∧ base ≤ 100 ∧ (figR base place).length ≤ 100000 ∧ P true (dN (figL base place)) []
def cFol (C : Addr) : Ct := fun args M P => ∃ (S : Sys) (n g b r : Nat) (col : List Int), args = [.dat (dSys C S), .dat (dI col), .dat (.int (r : Nat))] ∧ M = [] ∧ SysOk n g S ∧ Bd b col ∧ g + b ≤ 134000000 ∧ r < S.mats.length ∧ P true (dI (S.fol col r)) []
def cColAt (C : Addr) : Ct := fun args M P => ∃ (S : Sys) (n g place : Nat), args = [.dat (dSys C S), .dat (.int (place : Nat))] ∧ M = [] ∧ SysOk n g S ∧ (figR S.mats.length place).length ≤ 100000 ∧ ((figR S.mats.length place).length + 2) * (g + 7) ≤ 134000000 ∧ P false (dI (S.col place)) []
def cSysInit (C : Addr) : Ct := fun args M P => ∃ a b c, args = [.cel 0, .dat a, .dat b, .dat c] ∧ M = [.ins C [] []] ∧ P false .non [.ins C ["starts", "matrices", "factors"] [a, b, c]]
end Fb
set_option Elab.async false
set_option linter.all false
set_option maxRecDepth 100000
set_option maxHeartbeats 2000000
/-! Books and rows. -/
namespace Fb
open PySem L2 Dl
structure NR where
  name : Str
  start : Int
  forms : List (List (Int × Str))
def dTerm (t : Int × Str) : D := .tup [.int t.1, .str t.2]
def dForm (f : List (Int × Str)) : D := .lst (f.map dTerm)
def dFormT (f : List (Int × Str)) : D := .tup (f.map dTerm)
def dNR (r : NR) : D := .tup [.str r.name, .int r.start, .lst (r.forms.map dForm)]
def dNRT (r : NR) : D := .tup [.str r.name, .int r.start, .tup (r.forms.map dFormT)]
def dBook (C : Addr) (b : Nat) (rows : List NR) : D := .ins C ["figures", "kept"] [.int (b : Nat), .tup (rows.map dNRT)]
def letters : Str := "abcdefghijklmnopqrstuvwxyz"
def isName (x : Str) : Bool := match x.cps.toList with
  | [c] => decide (c ∈ letters.cps.toList)
  | _ => false
def names (rows : List NR) : List Str := rows.map NR.name
def startOf (rows : List NR) (x : Str) : Int := ((rows.find? fun r => decide (r.name = x)).map NR.start).getD 0
def valAt (rows : List NR) (form : List (Int × Str)) : Int := (form.map fun t => t.1 * startOf rows t.2).sum
structure BookOk (g b : Nat) (rows : List NR) : Prop where
  base : 2 ≤ b ∧ b ≤ 4
  nm : ∀ r ∈ rows, isName r.name = true
  nd : (names rows).Nodup
  fl : ∀ r ∈ rows, r.forms.length = b
  tm : ∀ r ∈ rows, ∀ f ∈ r.forms, f.length ≤ 100 ∧ ∀ t ∈ f, t.2 ∈ names rows ∧ t.1.natAbs < 2 ^ g
  st : ∀ r ∈ rows, r.start.natAbs < 2 ^ g ∧ r.start = valAt rows (r.forms.getD 0 [])
  few : rows.length ≤ 26
  g : g ≤ 1000
theorem startOf_mem {rows : List NR} (nd : (names rows).Nodup) {r : NR} (h : r ∈ rows) : startOf rows r.name = r.start := by
  induction rows with
  | nil => cases h
  | cons y ys ih =>
    simp only [names, List.map_cons, List.nodup_cons] at nd
    unfold startOf
    rw [List.find?_cons]
    rcases List.mem_cons.mp h with e | e
    · subst e
      simp
    · have hne : y.name ≠ r.name := fun z => nd.1 (by rw [z]; exact List.mem_map_of_mem e)
      simp only [hne, decide_false]
      exact ih nd.2 e
theorem startOf_bd {g b : Nat} {rows : List NR} (h : BookOk g b rows) {x : Str} (hx : x ∈ names rows) : (startOf rows x).natAbs < 2 ^ g := by
  obtain ⟨r, hr, e⟩ := List.mem_map.mp hx
  rw [← e, startOf_mem h.nd hr]
  exact (h.st r hr).1
/-- one term more in a line -/
def bump (ns : List Str) (line : List Int) (t : Int × Str) : List Int := line.set (ns.idxOf t.2) (line.getD (ns.idxOf t.2) 0 + t.1)
def lineOf (ns : List Str) (form : List (Int × Str)) : List Int := form.foldl (bump ns) (List.replicate ns.length 0)
def matOf (rows : List NR) (r : Nat) : List (List Int) := rows.map fun nr => lineOf (names rows) (nr.forms.getD r [])
def sysOf (b : Nat) (rows : List NR) (shares : List Int) : Sys := ⟨rows.map NR.start, (List.range b).map (matOf rows), shares⟩
def dRow (CR CB : Addr) (b : Nat) (rows : List NR) (shares : List Int) : D := .ins CR ["told_by", "shares"] [dBook CB b rows, .tup (shares.map .int)]
def cIsName : Ct := fun args M P => ∃ x : Str, args = [.dat (.str x)] ∧ M = [] ∧ x.length ≤ 100000 ∧ P false (.bl (isName x)) []
def cChkNames : Ct := fun args M P => ∃ g b rows, args = [.dat (.lst (rows.map dNR))] ∧ M = [] ∧ BookOk g b rows ∧ P false .non []
def cChkForms : Ct := fun args M P => ∃ g b rows, args = [.dat (.int (b : Nat)), .dat (.lst (rows.map dNR))] ∧ M = [] ∧ BookOk g b rows ∧ P false .non []
def cBookInit (C : Addr) : Ct := fun args M P => ∃ g b rows, args = [.cel 0, .dat (.int (b : Nat)), .dat (.lst (rows.map dNR))] ∧ M = [.ins C [] []] ∧ BookOk g b rows ∧ P false .non [.ins C ["figures", "kept"] [.int (b : Nat), .tup (rows.map dNRT)]]
def cBase (C : Addr) : Ct := fun args M P => ∃ b rows, args = [.dat (dBook C b rows)] ∧ M = [] ∧ P false (.int (b : Nat)) []
def cNames (C : Addr) : Ct := fun args M P => ∃ b rows, args = [.dat (dBook C b rows)] ∧ M = [] ∧ rows.length ≤ 26 ∧ P true (.lst ((names rows).map .str)) []
def cSpot (C : Addr) : Ct := fun args M P => ∃ b rows x, args = [.dat (dBook C b rows), .dat (.str x)] ∧ M = [] ∧ rows.length ≤ 26 ∧ x ∈ names rows ∧ P false (.int ((names rows).idxOf x : Nat)) []
def cStarts (C : Addr) : Ct := fun args M P => ∃ b rows, args = [.dat (dBook C b rows)] ∧ M = [] ∧ rows.length ≤ 26 ∧ P true (dI (rows.map NR.start)) []
def cMatrix (C : Addr) : Ct := fun args M P => ∃ g b rows r, args = [.dat (dBook C b rows), .dat (.int (r : Nat))] ∧ M = [] ∧ BookOk g b rows ∧ r < b ∧ P true (dM (matOf rows r)) []
end Fb
set_option Elab.async false
set_option linter.all false
set_option maxRecDepth 100000
set_option maxHeartbeats 4000000
namespace Fb
open PySem L2
def top (i : Nat) : Stmt := PySem.Challenge.pw_figurebooks_k53_recurrences.main.body.getD i (.Pass ⟨0, 0, 0, 0⟩)
abbrev s_dot : Stmt := (top 10)
theorem sc_dot : FnScope ["one", "other", "left", "right"] ["one", "other"] (defScope s_dot) := ⟨rfl, rfl, rfl, by decide +kernel, rfl, by decide +kernel, by decide +kernel⟩
abbrev s_common_divisor : Stmt := (top 11)
theorem sc_common_divisor : FnScope ["numbers", "found", "number", "one", "other"] ["numbers"] (defScope s_common_divisor) := ⟨rfl, rfl, rfl, by decide +kernel, rfl, by decide +kernel, by decide +kernel⟩
abbrev s_reduced_by : Stmt := (top 12)
theorem sc_reduced_by : FnScope ["one", "other", "often", "left", "right"] ["one", "other", "often"] (defScope s_reduced_by) := ⟨rfl, rfl, rfl, by decide +kernel, rfl, by decide +kernel, by decide +kernel⟩
abbrev s_first_spot : Stmt := (top 13)
theorem sc_first_spot : FnScope ["row", "spot", "number"] ["row"] (defScope s_first_spot) := ⟨rfl, rfl, rfl, by decide +kernel, rfl, by decide +kernel, by decide +kernel⟩
abbrev s_SpanI_initI : Stmt := (inClass (top 14) 0)
theorem sc_SpanI_initI : FnScope ["self"] ["self"] (defScope s_SpanI_initI) := ⟨rfl, rfl, rfl, by decide +kernel, rfl, by decide +kernel, by decide +kernel⟩
abbrev s_Span_rest : Stmt := (inClass (top 14) 1)
theorem sc_Span_rest : FnScope ["self", "vector", "spot", "row", "divisor", "number"] ["self", "vector"] (defScope s_Span_rest) := ⟨rfl, rfl, rfl, by decide +kernel, rfl, by decide +kernel, by decide +kernel⟩
abbrev s_Span_take : Stmt := (inClass (top 14) 2)
theorem sc_Span_take : FnScope ["self", "vector", "left"] ["self", "vector"] (defScope s_Span_take) := ⟨rfl, rfl, rfl, by decide +kernel, rfl, by decide +kernel, by decide +kernel⟩
abbrev s_is_name : Stmt := (top 18)
theorem sc_is_name : FnScope ["name"] ["name"] (defScope s_is_name) := ⟨rfl, rfl, rfl, by decide +kernel, rfl, by decide +kernel, by decide +kernel⟩
abbrev s_check_names : Stmt := (top 19)
theorem sc_check_names : FnScope ["rows", "seen", "name", "start", "formulas"] ["rows"] (defScope s_check_names) := ⟨rfl, rfl, rfl, by decide +kernel, rfl, by decide +kernel, by decide +kernel⟩
abbrev s_check_formulas : Stmt := (top 20)
theorem sc_check_formulas : FnScope ["base", "rows", "known", "name", "start", "formulas", "named", "formula", "coefficient", "other"] ["base", "rows"] (defScope s_check_formulas) := ⟨rfl, rfl, rfl, by decide +kernel, rfl, by decide +kernel, by decide +kernel⟩
abbrev s_check_starts : Stmt := (top 21)
theorem sc_check_starts : FnScope ["rows", "starts", "name", "start", "formulas", "coefficient", "other"] ["rows"] (defScope s_check_starts) := ⟨rfl, rfl, rfl, by decide +kernel, rfl, by decide +kernel, by decide +kernel⟩
abbrev s_BookI_initI : Stmt := (inClass (top 22) 0)
theorem sc_BookI_initI : FnScope ["self", "base", "rows", "name", "start", "formulas", "one"] ["self", "base", "rows"] (defScope s_BookI_initI) := ⟨rfl, rfl, rfl, by decide +kernel, rfl, by decide +kernel, by decide +kernel⟩
abbrev s_BookI_eqI : Stmt := (inClass (top 22) 1)
theorem sc_BookI_eqI : FnScope ["self", "other"] ["self", "other"] (defScope s_BookI_eqI) := ⟨rfl, rfl, rfl, by decide +kernel, rfl, by decide +kernel, by decide +kernel⟩
abbrev s_Book_base : Stmt := (inClass (top 22) 2)
theorem sc_Book_base : FnScope ["self"] ["self"] (defScope s_Book_base) := ⟨rfl, rfl, rfl, by decide +kernel, rfl, by decide +kernel, by decide +kernel⟩
abbrev s_Book_names : Stmt := (inClass (top 22) 3)
theorem sc_Book_names : FnScope ["self", "name", "start", "formulas"] ["self"] (defScope s_Book_names) := ⟨rfl, rfl, rfl, by decide +kernel, rfl, by decide +kernel, by decide +kernel⟩
abbrev s_starts_of : Stmt := (top 23)
theorem sc_starts_of : FnScope ["book", "name", "start", "formulas"] ["book"] (defScope s_starts_of) := ⟨rfl, rfl, rfl, by decide +kernel, rfl, by decide +kernel, by decide +kernel⟩
abbrev s_matrix_of : Stmt := (top 24)
theorem sc_matrix_of : FnScope ["book", "rest", "names", "found", "name", "start", "formulas", "line", "coefficient", "other"] ["book", "rest"] (defScope s_matrix_of) := ⟨rfl, rfl, rfl, by decide +kernel, rfl, by decide +kernel, by decide +kernel⟩
abbrev s_SystemI_initI : Stmt := (inClass (top 26) 0)
theorem sc_SystemI_initI : FnScope ["self", "starts", "matrices", "factors"] ["self", "starts", "matrices", "factors"] (defScope s_SystemI_initI) := ⟨rfl, rfl, rfl, by decide +kernel, rfl, by decide +kernel, by decide +kernel⟩
abbrev s_System_follower : Stmt := (inClass (top 26) 2)
theorem sc_System_follower : FnScope ["self", "column", "rest", "line"] ["self", "column", "rest"] (defScope s_System_follower) := ⟨rfl, rfl, rfl, by decide +kernel, rfl, by decide +kernel, by decide +kernel⟩
abbrev s_System_column_at : Stmt := (inClass (top 26) 3)
theorem sc_System_column_at : FnScope ["self", "place", "column", "figure"] ["self", "place"] (defScope s_System_column_at) := ⟨rfl, rfl, rfl, by decide +kernel, rfl, by decide +kernel, by decide +kernel⟩
abbrev s_figures_of : Stmt := (top 27)
theorem sc_figures_of : FnScope ["place", "base", "found"] ["place", "base"] (defScope s_figures_of) := ⟨rfl, rfl, rfl, by decide +kernel, rfl, by decide +kernel, by decide +kernel⟩
abbrev s_system_of : Stmt := (top 28)
theorem sc_system_of : FnScope ["row", "book", "rest"] ["row"] (defScope s_system_of) := ⟨rfl, rfl, rfl, by decide +kernel, rfl, by decide +kernel, by decide +kernel⟩
abbrev s_RowI_initI : Stmt := (inClass (top 30) 0)
theorem sc_RowI_initI : FnScope ["self", "book", "coefficients"] ["self", "book", "coefficients"] (defScope s_RowI_initI) := ⟨rfl, rfl, rfl, by decide +kernel, rfl, by decide +kernel, by decide +kernel⟩
abbrev s_RowI_eqI : Stmt := (inClass (top 30) 1)
theorem sc_RowI_eqI : FnScope ["self", "other"] ["self", "other"] (defScope s_RowI_eqI) := ⟨rfl, rfl, rfl, by decide +kernel, rfl, by decide +kernel, by decide +kernel⟩
abbrev s_Row_book : Stmt := (inClass (top 30) 2)
theorem sc_Row_book : FnScope ["self"] ["self"] (defScope s_Row_book) := ⟨rfl, rfl, rfl, by decide +kernel, rfl, by decide +kernel, by decide +kernel⟩
abbrev s_Row_coefficients : Stmt := (inClass (top 30) 3)
theorem sc_Row_coefficients : FnScope ["self"] ["self"] (defScope s_Row_coefficients) := ⟨rfl, rfl, rfl, by decide +kernel, rfl, by decide +kernel, by decide +kernel⟩
abbrev s_check_number : Stmt := (top 31)
theorem sc_check_number : FnScope ["number", "least"] ["number", "least"] (defScope s_check_number) := ⟨rfl, rfl, rfl, by decide +kernel, rfl, by decide +kernel, by decide +kernel⟩
abbrev s_check_block : Stmt := (top 33)
theorem sc_check_block : FnScope ["row", "head", "block", "spot", "figure"] ["row", "head", "block"] (defScope s_check_block) := ⟨rfl, rfl, rfl, by decide +kernel, rfl, by decide +kernel, by decide +kernel⟩
abbrev s_behind_block : Stmt := (top 34)
theorem sc_behind_block : FnScope ["system", "column", "block", "figure"] ["system", "column", "block"] (defScope s_behind_block) := ⟨rfl, rfl, rfl, by decide +kernel, rfl, by decide +kernel, by decide +kernel⟩
abbrev s_recurrence : Stmt := (top 35)
theorem sc_recurrence : FnScope ["row", "head", "block", "system", "size", "column", "values", "turn", "span", "units", "left", "shares", "other", "back"] ["row", "head", "block"] (defScope s_recurrence) := ⟨rfl, rfl, rfl, by decide +kernel, rfl, by decide +kernel, by decide +kernel⟩
abbrev s_Lpool : Stmt := (top 37)
theorem sc_Lpool : FnScope ["script", "spot", "cell"] ["script", "spot"] (defScope s_Lpool) := ⟨rfl, rfl, rfl, by decide +kernel, rfl, by decide +kernel, by decide +kernel⟩
abbrev s_Ldraw : Stmt := (top 38)
theorem sc_Ldraw : FnScope ["pool", "many", "drawn", "mixed"] ["pool", "many"] (defScope s_Ldraw) := ⟨rfl, rfl, rfl, by decide +kernel, rfl, by decide +kernel, by decide +kernel⟩
abbrev s_Lfactor : Stmt := (top 39)
theorem sc_Lfactor : FnScope ["pool", "size"] ["pool"] (defScope s_Lfactor) := ⟨rfl, rfl, rfl, by decide +kernel, rfl, by decide +kernel, by decide +kernel⟩
abbrev s_Lterms : Stmt := (top 40)
theorem sc_Lterms : FnScope ["pool", "letters", "many", "turn"] ["pool", "letters", "many"] (defScope s_Lterms) := ⟨rfl, rfl, rfl, by decide +kernel, rfl, by decide +kernel, by decide +kernel⟩
abbrev s_Lfirst : Stmt := (top 41)
theorem sc_Lfirst : FnScope ["pool", "starts", "letter", "found", "noughts", "turn", "others", "one", "two", "other", "term"] ["pool", "starts", "letter"] (defScope s_Lfirst) := ⟨rfl, rfl, rfl, by decide +kernel, rfl, by decide +kernel, by decide +kernel⟩
abbrev s_Lkind : Stmt := (top 42)
theorem sc_Lkind : FnScope ["pool", "many", "base_here", "letters", "starts", "lines", "letter", "formulas", "figure_here"] ["pool", "many"] (defScope s_Lkind) := ⟨rfl, rfl, rfl, by decide +kernel, rfl, by decide +kernel, by decide +kernel⟩
abbrev s_Lknown : Stmt := (top 43)
theorem sc_Lknown : FnScope ["pool", "e", "z", "ones", "stern", "last", "places", "powers", "odd", "books", "lines", "letter"] ["pool"] (defScope s_Lknown) := ⟨rfl, rfl, rfl, by decide +kernel, rfl, by decide +kernel, by decide +kernel⟩
abbrev s_Lmade : Stmt := (top 44)
theorem sc_Lmade : FnScope ["kind", "letter", "start", "formulas", "one"] ["kind"] (defScope s_Lmade) := ⟨rfl, rfl, rfl, by decide +kernel, rfl, by decide +kernel, by decide +kernel⟩
abbrev s_Lfigures : Stmt := (top 45)
theorem sc_Lfigures : FnScope ["number_here", "base_here", "found"] ["number_here", "base_here"] (defScope s_Lfigures) := ⟨rfl, rfl, rfl, by decide +kernel, rfl, by decide +kernel, by decide +kernel⟩
abbrev s_Lfar : Stmt := (top 46)
theorem sc_Lfar : FnScope ["kind", "shares", "spot", "wanted", "formulas", "last", "fewer", "letter", "often", "other", "line", "share"] ["kind", "shares", "spot"] (defScope s_Lfar) := ⟨rfl, rfl, rfl, by decide +kernel, rfl, by decide +kernel, by decide +kernel⟩
abbrev s_Lshares : Stmt := (top 47)
theorem sc_Lshares : FnScope ["pool", "kind", "many", "at", "spot"] ["pool", "kind"] (defScope s_Lshares) := ⟨rfl, rfl, rfl, by decide +kernel, rfl, by decide +kernel, by decide +kernel⟩
abbrev s_Lspot : Stmt := (top 48)
theorem sc_Lspot : FnScope ["pool", "great", "turn", "some"] ["pool"] (defScope s_Lspot) := ⟨rfl, rfl, rfl, by decide +kernel, rfl, by decide +kernel, by decide +kernel⟩
abbrev s_Lrowed : Stmt := (top 49)
theorem sc_Lrowed : FnScope ["kind", "shares"] ["kind", "shares"] (defScope s_Lrowed) := ⟨rfl, rfl, rfl, by decide +kernel, rfl, by decide +kernel, by decide +kernel⟩
abbrev s_Lplace : Stmt := (top 50)
theorem sc_Lplace : FnScope ["kind", "begin", "some", "often", "turn", "last"] ["kind", "begin", "some", "often"] (defScope s_Lplace) := ⟨rfl, rfl, rfl, by decide +kernel, rfl, by decide +kernel, by decide +kernel⟩
abbrev s_Lsome : Stmt := (top 51)
theorem sc_Lsome : FnScope ["pool", "kind", "found", "turn"] ["pool", "kind"] (defScope s_Lsome) := ⟨rfl, rfl, rfl, by decide +kernel, rfl, by decide +kernel, by decide +kernel⟩
abbrev s_Lrank : Stmt := (top 52)
theorem sc_Lrank : FnScope ["lines", "found", "many", "spot", "heads_here", "lead", "left", "line", "one", "two"] ["lines"] (defScope s_Lrank) := ⟨rfl, rfl, rfl, by decide +kernel, rfl, by decide +kernel, by decide +kernel⟩
abbrev s_Lright : Stmt := (top 53)
theorem sc_Lright : FnScope ["pool", "kind", "shares", "some", "one", "begin", "size", "line", "told", "at", "kept", "often", "back", "share", "value"] ["pool"] (defScope s_Lright) := ⟨rfl, rfl, rfl, by decide +kernel, rfl, by decide +kernel, by decide +kernel⟩
abbrev s_law : Stmt := (top 54)
theorem sc_law : FnScope ["script", "spot", "pool", "turn"] ["script"] (defScope s_law) := ⟨rfl, rfl, rfl, by decide +kernel, rfl, by decide +kernel, by decide +kernel⟩
end Fb
set_option Elab.async false
set_option linter.all false
set_option maxRecDepth 100000
set_option maxHeartbeats 4000000
namespace Fb
open PySem L2 Dl
section
variable {P : Program} {w : World} {K : PySem.W.Frag} {mg : Str → Option Value} {base : Heap}
theorem body_dot {f : Addr} (hz : mg "zip" = none) (hs : mg "sum" = none) : BodyOk P w K mg base 0 ["one", "other", "left", "right"] ["one", "other"] "dot" s_dot f cDot := by
  intro cdv A outer s H E hr args M P0 ⟨xs, ys, a, b, e1, e2, h1, h2, h3, h4, hP⟩
  subst e2
  rcases e1 with e1 | ⟨hle, e1⟩
  · subst e1
    refine sds_one (sd_ret (ed_sum hs (ed_of_en (en_lc (own := [("left", 2), ("right", 3)]) (t := .tup [2, 3]) sc_dot.nd (blkOk_by (N := ["one", "other", "left", "right"]) (sc := defScope s_dot) (by decide +kernel)) (fun s H C cl fp => tg_tup (tgs_cons (tgs_cons tgs_nil sc_dot.nd) sc_dot.nd)) ?_))))
    refine id_zip hz (ev 0 rfl (ev 1 rfl ⟨_, _, rfl, rfl, ?_⟩))
    refine lcd_map (xs.zip ys) (fun p => .tup [.int p.1, .int p.2]) (fun p => .int (p.1 * p.2)) (zipD_map _ _ xs ys) ?_ ?_ (fun acc => ⟨rfl, rfl⟩) ?_
    · rw [List.length_zip]
      exact szl (by omega)
    · intro p hp acc
      obtain ⟨m1, m2⟩ := List.of_mem_zip hp
      refine ⟨_, rfl, fun s H C cl fp => ?_⟩
      exact ed_mul (ev 2 rfl (ev 3 rfl ⟨mulB_of (h1 _ m1) (h2 _ m2) h3, rfl, rfl⟩))
    · refine ⟨(xs.zip ys).map fun p => p.1 * p.2, by simp [rdD], ret_dat (po0 ?_)⟩
      rw [show ((xs.zip ys).map fun p => p.1 * p.2).sum = dot xs ys by rw [dot, List.zip, List.map_zipWith]]
      exact hP
  · subst e1
    refine sds_one (sd_ret (ed_sum hs (ed_of_en (en_lc (own := [("left", 2), ("right", 3)]) (t := .tup [2, 3]) sc_dot.nd (blkOk_by (N := ["one", "other", "left", "right"]) (sc := defScope s_dot) (by decide +kernel)) (fun s H C cl fp => tg_tup (tgs_cons (tgs_cons tgs_nil sc_dot.nd) sc_dot.nd)) ?_))))
    refine id_zipLT hz (ev 0 rfl (ev 1 rfl ⟨_, _, rfl, rfl, by simpa using hle, ?_⟩))
    refine lcd_map (xs.zip ys) (fun p => .tup [.int p.1, .int p.2]) (fun p => .int (p.1 * p.2)) (zipD_map _ _ xs ys) ?_ ?_ (fun acc => ⟨rfl, rfl⟩) ?_
    · rw [List.length_zip]
      exact szl (by omega)
    · intro p hp acc
      obtain ⟨m1, m2⟩ := List.of_mem_zip hp
      refine ⟨_, rfl, fun s H C cl fp => ?_⟩
      exact ed_mul (ev 2 rfl (ev 3 rfl ⟨mulB_of (h1 _ m1) (h2 _ m2) h3, rfl, rfl⟩))
    · refine ⟨(xs.zip ys).map fun p => p.1 * p.2, by simp [rdD], ret_dat (po0 ?_)⟩
      rw [show ((xs.zip ys).map fun p => p.1 * p.2).sum = dot xs ys by rw [dot, List.zip, List.map_zipWith]]
      exact hP
theorem body_reduced {f : Addr} (hz : mg "zip" = none) : BodyOk P w K mg base 0 ["one", "other", "often", "left", "right"] ["one", "other", "often"] "reduced_by" s_reduced_by f cReduced := by
  intro cdv A outer s H E hr args M P0 ⟨xs, ys, k, a, b, e1, e2, h1, h2, h3, h4, hP⟩
  subst e1
  subst e2
  refine sds_one (sd_retn (en_lc (own := [("left", 3), ("right", 4)]) (t := .tup [3, 4]) sc_reduced_by.nd (blkOk_by (N := ["one", "other", "often", "left", "right"]) (sc := defScope s_reduced_by) (by decide +kernel)) (fun s H C cl fp => tg_tup (tgs_cons (tgs_cons tgs_nil sc_reduced_by.nd) sc_reduced_by.nd)) ?_))
  refine id_zip hz (ev 0 rfl (ev 1 rfl ⟨_, _, rfl, rfl, ?_⟩))
  refine lcd_map (xs.zip ys) (fun p => .tup [.int p.1, .int p.2]) (fun p => .int (p.1 - k * p.2)) (zipD_map _ _ xs ys) ?_ ?_ (fun acc => ⟨rfl, rfl⟩) ?_
  · rw [List.length_zip]
    exact szl (by omega)
  · intro p hp acc
    obtain ⟨m1, m2⟩ := List.of_mem_zip hp
    refine ⟨_, rfl, fun s H C cl fp => ?_⟩
    exact ed_sub (ev 3 rfl (ed_mul (ev 2 rfl (ev 4 rfl ⟨mulB_of h2 (h1 _ m2) h3, _, _, rfl, rfl, trivial, rfl, rfl⟩))))
  · refine ⟨rfl, Nat.zero_le _, po0 ?_⟩
    rw [show D.lst ((xs.zip ys).map fun p => D.int (p.1 - k * p.2)) = dI (reduced xs ys k) by rw [dI, reduced, List.map_zipWith, List.zip, List.map_zipWith]]
    exact hP
theorem body_gcd {f : Addr} (ha : mg "abs" = none) : BodyOk P w K mg base 0 ["numbers", "found", "number", "one", "other"] ["numbers"] "common_divisor" s_common_divisor f cGcd := by
  intro cdv A outer s H E hr args M P0 ⟨ns, e1, e2, hP⟩
  subst e1
  subst e2
  have hu := hr.units
  refine sds_cons (sd_set (i := 1) (ed_int ?_) sc_common_divisor.nd)
  refine sds_cons (sd_forF (t := .one 2) (tg_name sc_common_divisor.nd) (id_list (ev 0 rfl ⟨ns.map .int, rfl, ?_⟩)))
  refine ⟨fun i c => c = ([.dat (dI ns), .dat (.int (gcdL (ns.take i) : Nat)), .un, .un, .un], []), .of rfl, fun i c d hd hI => ?_, fun c hI => ?_⟩
  · subst hI
    obtain ⟨x, hx, rfl⟩ := map_get hd
    refine ⟨rfl, _, rfl, ?_⟩
    refine sds_cons (sd_par (i := 3) (j := 4) (ad_cons (ed_abs ha (ev 2 rfl ⟨x, rfl, ad_cons (ev 1 rfl (ad_nil ⟨_, _, rfl, ?_⟩))⟩))) sc_common_divisor.nd)
    refine sds_cutF (fun c => c = ([.dat (dI ns), .dat (.int (gcdL (ns.take i) : Nat)), .un, .dat (.int (gcdL (ns.take (i + 1)) : Nat)), .un], [])) (sd_whileF (m0 := gcdL (ns.take i)) (fun m c => ∃ a : Nat, c = ([.dat (dI ns), .dat (.int (gcdL (ns.take i) : Nat)), .un, .dat (.int (a : Nat)), .dat (.int (m : Nat))], []) ∧ Nat.gcd a m = gcdL (ns.take (i + 1))) ?_ ?_) ?_
    · refine ⟨[.dat (dI ns), .dat (.int (gcdL (ns.take i) : Nat)), .un, .dat (.int (x.natAbs : Nat)), .dat (.int (gcdL (ns.take i) : Nat))], ⟨.inl rfl, .inl rfl, .inr rfl, .inl ?_, .inl rfl, trivial⟩, x.natAbs, rfl, ?_⟩
      · show EI.dat (.int _) = EI.dat (.int _)
        have : ((x.natAbs : Nat) : Int) = if x < 0 then -x else x := by split <;> omega
        rw [this]
      · have e := foldl_take (f := fun g x => Nat.gcd (Int.natAbs x) g) (b := 0) hx
        exact e.symm
    · rintro m c ⟨a, rfl, hg⟩
      refine td_neI hu ?_
      refine ev 4 rfl ?_
      refine ed_int ?_
      refine ⟨_, _, rfl, rfl, fun hb => ?_, fun hb => ?_⟩
      · have hm : m ≠ 0 := by simpa using hb
        refine sds_one (sd_par (i := 3) (j := 4) (ad_cons (ev 4 rfl (ad_cons (ed_mod (ev 3 rfl (ev 4 rfl ⟨_, _, rfl, rfl, by omega, ad_nil ⟨_, _, rfl, ?_⟩⟩)))))) sc_common_divisor.nd)
        refine UpG.of ?_
        refine ⟨a % m, Nat.mod_lt _ (by omega), m, ?_, ?_⟩
        · have : (a : Int).fmod (m : Int) = ((a % m : Nat) : Int) := by
            rw [Int.fmod_eq_emod_of_nonneg _ (by omega)]
            rfl
          show (_, _) = (_, _)
          simp [this]
        · rw [Nat.gcd_comm, ← Nat.gcd_rec m a, Nat.gcd_comm]
          exact hg
      · have hm : m = 0 := by simpa using hb
        subst hm
        refine ⟨[.dat (dI ns), .dat (.int (gcdL (ns.take i) : Nat)), .un, .dat (.int (gcdL (ns.take (i + 1)) : Nat)), .un], ⟨.inl rfl, .inl rfl, .inl rfl, .inl ?_, .inr rfl, trivial⟩, rfl⟩
        rw [← hg]
        simp
    · rintro c rfl
      refine sds_one (sd_set (i := 1) (ev 3 rfl ?_) sc_common_divisor.nd)
      exact UpG.by rfl ⟨.inl rfl, .inl rfl, .inl rfl, .inr rfl, .inl rfl, trivial⟩
  · subst hI
    refine ⟨rfl, sds_one (sd_ret (ev 1 rfl (ret_dat (po0 ?_))))⟩
    rw [List.length_map, List.take_length]
    exact hP
theorem body_first {f : Addr} (he : mg "enumerate" = none) : BodyOk P w K mg base 0 ["row", "spot", "number"] ["row"] "first_spot" s_first_spot f cFirst := by
  intro cdv A outer s H E hr args M P0 ⟨ns, e1, e2, hl, hn, hP⟩
  subst e1
  subst e2
  have hu := hr.units
  refine sds_one (sd_ret (ed_ix (ed_of_en (en_lc (own := [("spot", 1), ("number", 2)]) (t := .tup [1, 2]) sc_first_spot.nd (blkOk_by (N := ["row", "spot", "number"]) (sc := defScope s_first_spot) (by decide +kernel)) (fun s H C cl fp => tg_tup (tgs_cons (tgs_cons tgs_nil sc_first_spot.nd) sc_first_spot.nd)) ?_))))
  refine id_enum he (ev 0 rfl ⟨_, rfl, ?_⟩)
  refine lcd_filter ns.zipIdx (fun p => .tup [.int (p.2 : Nat), .int p.1]) (fun p => p.1 != 0) (fun p => .int (p.2 : Nat)) (enumD_map _ ns 0) ?_ ?_ (fun acc => rfl) ?_
  · rw [List.length_zipIdx]
    exact szl (by omega)
  · intro p hp acc
    refine ⟨_, rfl, fun s H C cl fp => ?_, fun hb s H C cl fp => ev 1 rfl ⟨rfl, rfl⟩⟩
    exact td_neI hu (ev 2 rfl (ed_int ⟨_, _, rfl, rfl, rfl, rfl⟩))
  · refine ed_int ?_
    have key : ∀ (ns : List Int) (k : Nat), (ns.any (· != 0)) = true → ((ns.zipIdx k).filter fun p => p.1 != 0)[0]? = some (ns.getD (firstSpot ns) 0, k + firstSpot ns) := by
      intro ns
      induction ns with
      | nil => intro k h; cases h
      | cons x xs ih =>
        intro k h
        rw [List.zipIdx_cons, List.filter_cons]
        by_cases hx : x = 0
        · subst hx
          have h' : (xs.any (· != 0)) = true := by simpa using h
          have e : firstSpot (0 :: xs) = firstSpot xs + 1 := by simp [firstSpot, List.findIdx_cons]
          rw [if_neg (by simp), ih (k + 1) h', e]
          simp
          omega
        · have e : firstSpot (x :: xs) = 0 := by
            have hx' : (x != 0) = true := by simpa using hx
            simp [firstSpot, List.findIdx_cons, hx']
          rw [if_pos (by simpa using hx), e]
          simp
    have key := key ns 0 hn
    refine ⟨.int (firstSpot ns : Nat), ?_, ret_dat (po0 hP)⟩
    have : ((ns.zipIdx.filter fun p => p.1 != 0).map fun p => D.int (p.2 : Nat))[0]? = some (D.int (firstSpot ns : Nat)) := by
      rw [List.getElem?_map, key]
      simp
    exact atI_nat this
end
end Fb
set_option Elab.async false
set_option linter.all false
set_option maxRecDepth 100000
set_option maxHeartbeats 4000000
namespace Fb
open PySem L2 Dl
section
variable {P : Program} {w : World} {K : PySem.W.Frag} {mg : Str → Option Value} {base : Heap}
theorem body_rest {f CSpan : Addr} (cl : Cls K CSpan) (nl : NoAttr K CSpan "lines") (hl : mg "list" = none) (GR : FnG P w K mg base 1 "reduced_by" cReduced) (GC : FnG P w K mg base 1 "common_divisor" cGcd) :
    BodyOk P w K mg base 1 ["self", "vector", "spot", "row", "divisor", "number"] ["self", "vector"] "Span.rest" s_Span_rest f (cRest CSpan) := by
  intro cdv A outer s H E hr args M P0 ⟨ls, v, n, b, e1, e2, hv, hn, lo, hb, hz, hd, hP⟩
  subst e1
  subst e2
  have hu := hr.units
  refine sds_cons (sd_forF (t := .tup [2, 3]) (tg_tup (tgs_cons (tgs_cons tgs_nil sc_Span_rest.nd) sc_Span_rest.nd)) (id_list (ed_fld cl nl (ev 0 rfl (.inr ⟨0, rfl, dLines ls, rfl, ?_⟩)))))
  refine ⟨fun i c => c = ([.spn CSpan "lines" 0, .dat (dI ((ls.take i).foldl redBy v)), .un, .un, .un, .un], [.lst (dLines ls)]), .of rfl, fun i c d hd' hI => ?_, fun c hI => ?_⟩
  · subst hI
    obtain ⟨l, hx, rfl⟩ := map_get hd'
    have hi := (List.getElem?_eq_some_iff.mp hx).1
    have m := List.mem_of_getElem? hx
    obtain ⟨o1, o2⟩ := fold_ok hv hb lo i (by omega)
    obtain ⟨l1, l2⟩ := lo.len l m
    have step := foldl_take (f := redBy) (b := v) hx
    generalize (ls.take i).foldl redBy v = u at *
    have g1 : L2.atI (u.map D.int) (l.1 : Int) = some (.int (u.getD l.1 0)) := atI_nat (by simp [List.getElem?_eq_getElem (show l.1 < u.length by omega)])
    have g2 : L2.atI (l.2.map D.int) (l.1 : Int) = some (.int (l.2.getD l.1 0)) := atI_nat (by simp [List.getElem?_eq_getElem (show l.1 < l.2.length by omega)])
    have hbits : (i + 1) * (b + 1) + b ≤ 134000000 := by
      have h1 : (i + 1) * (b + 1) ≤ (ls.length + 2) * (b + 2) := Nat.mul_le_mul (by omega) (by omega)
      have h2 : 1 * (b + 2) ≤ (ls.length + 2) * (b + 2) := Nat.mul_le_mul (by omega) (by omega)
      omega
    refine ⟨rfl, _, rfl, ?_⟩
    refine sds_one (sd_if (td_neI hu (ed_ix (ev 1 rfl (ev 2 rfl ⟨_, g1, ed_int ⟨_, _, rfl, rfl, fun ht => ?_, fun hf => ?_⟩⟩)))))
    · have hne : u.getD l.1 0 ≠ 0 := by simpa using ht
      refine sds_one (sd_set (i := 1) (ed_callp GR hr (ad_cons (ed_of_en (en_lc (own := [("number", 5)]) (t := .one 5) sc_Span_rest.nd (blkOk_by (N := ["self", "vector", "spot", "row", "divisor", "number"]) (sc := defScope s_Span_rest) (by decide +kernel)) (fun s H C cl fp => tg_name sc_Span_rest.nd) ?_)))) sc_Span_rest.nd)
      refine id_list (ev 1 rfl ⟨u.map .int, rfl, ?_⟩)
      refine lcd_map u .int (fun x => .int (l.2.getD l.1 0 * x)) rfl (szl (by omega)) ?_ (fun acc => rfl) ?_
      · intro x hx acc
        refine ⟨_, rfl, fun s H C cl fp => ?_⟩
        exact ed_mul (ed_ix (ev 3 rfl (ev 2 rfl ⟨_, g2, ev 5 rfl ⟨mulB_of (getD_bd (lo.bd l m) l.1) (o2 x hx) (by omega), rfl, rfl⟩⟩)))
      · refine ad_cons (ev 3 rfl (ad_cons (ed_ix (ev 1 rfl (ev 2 rfl ⟨_, g1, ad_nil ⟨[_, _, _], rfl, ?_⟩⟩)))))
        refine ⟨u.map (l.2.getD l.1 0 * ·), l.2, u.getD l.1 0, _, _, by simp [dI], rfl, lo.bd l m, getD_bd o2 l.1, hbits, by rw [List.length_map]; omega, ?_⟩
        refine UpG.by rfl ⟨.inl rfl, .inl ?_, .inr rfl, .inr rfl, .inl rfl, .inl rfl, trivial⟩
        rw [step, redBy, if_pos hne]
    · have hne : ¬ u.getD l.1 0 ≠ 0 := by simpa using hf
      refine sds_nil (UpG.by rfl ⟨.inl rfl, .inl ?_, .inr rfl, .inr rfl, .inl rfl, .inl rfl, trivial⟩)
      rw [step, redBy, if_neg hne]
  · subst hI
    rw [show (dLines ls).length = ls.length by simp [dLines], List.take_length]
    refine ⟨rfl, ?_⟩
    obtain ⟨o1, o2⟩ := fold_ok hv hb lo ls.length (Nat.le_refl _)
    rw [List.take_length] at o1 o2
    rw [restV] at hP
    generalize ls.foldl redBy v = u at *
    refine sds_cons (sd_set (i := 4) (ed_callp GC hr (ad_cons (ev 1 rfl (ad_nil ⟨[_], rfl, u, rfl, rfl, ?_⟩)))) sc_Span_rest.nd)
    refine sds_one (sd_retn (en_if (td_gt (ev 4 rfl (ed_int ⟨_, _, rfl, rfl, trivial, _, rfl, fun ht => ?_, fun hf => ?_⟩)))))
    · have hg : 1 < gcdL u := by
        have := of_decide_eq_true ht
        omega
      refine en_lc (own := [("number", 5)]) (t := .one 5) sc_Span_rest.nd (blkOk_by (N := ["self", "vector", "spot", "row", "divisor", "number"]) (sc := defScope s_Span_rest) (by decide +kernel)) (fun s H C cl fp => tg_name sc_Span_rest.nd) ?_
      refine id_list (ev 1 rfl ⟨u.map .int, rfl, ?_⟩)
      refine lcd_map u .int (fun x => .int (x.fdiv (gcdL u : Nat))) rfl (szl (by omega)) ?_ (fun acc => rfl) ?_
      · intro x hx acc
        refine ⟨_, rfl, fun s H C cl fp => ?_⟩
        exact ed_fdiv (ev 5 rfl (ev 4 rfl ⟨_, _, rfl, rfl, ⟨by omega, hd x hx⟩, rfl, rfl⟩))
      · refine ⟨rfl, Nat.le_refl _, po1 ?_ rfl⟩
        rw [primitive, if_pos hg] at hP
        simpa [dI, Function.comp_def] using hP
    · have hg : ¬ 1 < gcdL u := by
        have := of_decide_eq_false hf
        omega
      refine en_list hl (ev 1 rfl ⟨_, _, rfl, rfl, rfl, Nat.le_refl _, po1 ?_ rfl⟩)
      rw [primitive, if_neg hg] at hP
      exact hP
theorem body_take {f CSpan : Addr} (cl : Cls K CSpan) (nl : NoAttr K CSpan "lines") (hany : mg "any" = none) (GF : FnG P w K mg base 1 "first_spot" cFirst) (GR : MethG P w K mg base 2 CSpan "rest" (cRest CSpan)) :
    BodyOk P w K mg base 2 ["self", "vector", "left"] ["self", "vector"] "Span.take" s_Span_take f (cTake CSpan) := by
  intro cdv A outer s H E hr args M P0 ⟨ls, v, n, b, e1, e2, hv, hn, lo, hb, hz, hd, hP⟩
  subst e1
  subst e2
  have hu := hr.units
  have hlen : (restV ls v).length = n := by
    obtain ⟨o1, _⟩ := fold_ok hv hb lo ls.length (Nat.le_refl _)
    rw [List.take_length] at o1
    rw [restV, primitive]
    split
    · rw [List.length_map, o1]
    · exact o1
  refine sds_cons (sd_set (i := 2) (ed_meth GR hr (ev 0 rfl ⟨.inr ⟨_, _, rfl, by decide +kernel⟩, ad_cons (ev 1 rfl (ad_nil ⟨[0], [.spn CSpan "lines" 0, .dat (dI v)], ⟨rfl, by decide, fun k hk => ⟨_, by cases List.mem_singleton.mp hk; rfl, rfl⟩, fun e he => by
    rcases List.mem_cons.mp he with rfl | he
    · exact Nat.zero_lt_one
    · cases List.mem_singleton.mp he
      trivial⟩, ls, v, n, b, rfl, rfl, hv, hn, lo, hb, hz, hd, ?_⟩))⟩)) sc_Span_take.nd)
  rw [takeV] at hP
  generalize restV ls v = r at *
  refine sds_cons (sd_if (td_not (td_val (ed_anyI hany (ev 2 rfl ⟨r, rfl, _, rfl, fun ht => ?_, fun hf => ?_⟩)))))
  · have ha : r.any (· != 0) = false := by simpa using ht
    refine sds_one (sd_ret (ed_bl (ret_dat (po1 ?_ rfl))))
    simpa [ha] using hP
  · have ha : r.any (· != 0) = true := by simpa using hf
    refine sds_nil (sds_cons (sd_expr (ed_append (ed_fld cl nl (ev 0 rfl (.inr ⟨0, rfl, 0, dLines ls, rfl, rfl, ?_⟩))))))
    refine ed_tup (ad_cons (ed_callp GF (hr.mono (by decide)) (ad_cons (ev 2 rfl (ad_nil ⟨[_], rfl, r, rfl, rfl, by omega, ha, ?_⟩)))))
    refine ad_cons (ev 2 rfl (ad_nil ⟨[_, _], rfl, szl (by simp), _, _, rfl, rfl, ?_, ?_⟩))
    · have := lo.few
      rw [show (dLines ls).length = ls.length by simp [dLines]]
      exact szlt (by omega)
    · refine sds_one (sd_ret (ed_bl (ret_dat (po1 ?_ rfl))))
      simpa [ha, dLines, dLine] using hP
end
end Fb
set_option Elab.async false
set_option linter.all false
set_option maxRecDepth 100000
set_option maxHeartbeats 4000000
namespace Fb
open PySem L2 Dl
section
variable {P : Program} {w : World} {K : PySem.W.Frag} {mg : Str → Option Value} {base : Heap}
theorem body_figures {f : Addr} : BodyOk P w K mg base 0 ["place", "base", "found"] ["place", "base"] "figures_of" s_figures_of f cFigures := by
  intro cdv A outer s H E hr args M P0 ⟨place, b, e1, e2, hb, hb2, hf, hP⟩
  subst e1
  subst e2
  refine sds_cons (sd_set (i := 2) (ed_new (en_lst (ad_nil ⟨[], rfl, Nat.zero_le _, ?_⟩))) sc_figures_of.nd)
  refine sds_cutF (fun c => c = ([.dat (.int (0 : Nat)), .dat (.int (b : Nat)), .cel 0], [.lst ((figR b place).map fun n => .int (n : Nat))])) (sd_whileF (m0 := place) (fun m c => ∃ ds : List Nat, c = ([.dat (.int (m : Nat)), .dat (.int (b : Nat)), .cel 0], [.lst (ds.map fun n => .int (n : Nat))]) ∧ ds ++ figR b m = figR b place) ?_ ?_) ?_
  · exact .of ⟨[], rfl, rfl⟩
  · rintro m c ⟨ds, rfl, hd⟩
    refine td_gt (ev 0 rfl (ed_int ⟨_, _, rfl, rfl, trivial, _, rfl, fun ht => ?_, fun hf' => ?_⟩))
    · have hm : 0 < m := by
        have := of_decide_eq_true ht
        omega
      have hfm := figR_pos hm hb
      refine sds_cons (sd_expr (ed_append (ev 2 rfl ⟨0, _, rfl, rfl, ed_mod (ev 0 rfl (ev 1 rfl ⟨_, _, rfl, rfl, by omega, ?_⟩))⟩)))
      refine ⟨_, _, rfl, rfl, ?_, ?_⟩
      · rw [List.length_map]
        have : (ds ++ figR b m).length ≤ 100000 := by rw [hd]; exact hf
        rw [hfm] at this
        simp at this
        exact szlt (by omega)
      · refine sds_one (sd_ifdiv (i := 0) rfl (ev 1 rfl ⟨_, rfl, ⟨by omega, ?_⟩, ?_⟩) sc_figures_of.nd)
        · exact PyProof.noPylong_small (by omega)
        · refine UpG.of ⟨m / b, Nat.div_lt_self hm (by omega), ds ++ [m % b], ?_, ?_⟩
          · have e1 : (m : Int).fmod (b : Int) = ((m % b : Nat) : Int) := by
              rw [Int.fmod_eq_emod_of_nonneg _ (by omega)]
              rfl
            have e2 : (m : Int).fdiv (b : Int) = ((m / b : Nat) : Int) := by
              rw [Int.fdiv_eq_ediv_of_nonneg _ (by omega)]
              rfl
            show (_, _) = (_, _)
            simp [e1, e2]
          · rw [List.append_assoc, ← hd, hfm]
            rfl
    · have hm : m = 0 := by
        have := of_decide_eq_false hf'
        omega
      subst hm
      rw [figR_zero, List.append_nil] at hd
      rw [hd]
      exact .of rfl
  · rintro c rfl
    refine sds_one (sd_retn (en_rev (ev 2 rfl ⟨_, rfl, rfl, Nat.zero_le _, po0 ?_⟩)))
    rw [← List.map_reverse]
    exact hP
theorem body_follower {f C : Addr} (cl : Cls K C) (nl : NoAttr K C "matrices") (GD : FnG P w K mg base 1 "dot" cDot) : BodyOk P w K mg base 1 ["self", "column", "rest", "line"] ["self", "column", "rest"] "System.follower" s_System_follower f (cFol C) := by
  intro cdv A outer s H E hr args M P0 ⟨S, n, g, b, r, col, e1, e2, ok, hc, hg, hrr, hP⟩
  subst e1
  subst e2
  obtain ⟨m1, m2⟩ := ok.mem hrr
  have hget : L2.atI (S.mats.map dM) (r : Int) = some (dM (S.mats.getD r [])) := atI_nat (by simp [List.getElem?_eq_getElem hrr])
  refine sds_one (sd_retn (en_lc (own := [("line", 3)]) (t := .one 3) sc_System_follower.nd (blkOk_by (N := ["self", "column", "rest", "line"]) (sc := defScope s_System_follower) (by decide +kernel)) (fun s H C cl fp => tg_name sc_System_follower.nd) ?_))
  refine id_list (ed_ix (ed_fld cl nl (ev 0 rfl (.inl ⟨_, _, _, rfl, rfl, ev 2 rfl ?_⟩))))
  refine ⟨_, hget, (S.mats.getD r []).map dI, rfl, ?_⟩
  refine lcd_map (S.mats.getD r []) dI (fun l => .int (dot l col)) rfl (szl (by have := ok.few; omega)) ?_ (fun acc => rfl) ?_
  · intro l hl acc
    obtain ⟨l1, l2⟩ := m2 l hl
    refine ⟨_, rfl, fun s H C cl fp => ?_⟩
    exact ed_callp GD hr (ad_cons (ev 3 rfl (ad_cons (ev 1 rfl (ad_nil ⟨[_, _], rfl, l, col, g, b, .inl rfl, rfl, l2, hc, hg, by have := ok.few; omega, rfl, rfl⟩)))))
  · refine ⟨rfl, Nat.zero_le _, po0 ?_⟩
    simpa [dI, Sys.fol, Function.comp_def] using hP
theorem body_column_at {f C : Addr} (cl : Cls K C) (nm : NoAttr K C "matrices") (ns : NoAttr K C "starts") (hl : mg "len" = none) (GF : FnG P w K mg base 1 "figures_of" cFigures) (GO : MethG P w K mg base 2 C "follower" (cFol C)) : BodyOk P w K mg base 2 ["self", "place", "column", "figure"] ["self", "place"] "System.column_at" s_System_column_at f (cColAt C) := by
  intro cdv A outer s H E hr args M P0 ⟨S, n, g, place, e1, e2, ok, hf, hg, hP⟩
  subst e1
  subst e2
  have few := ok.few
  have hb := ok.base
  refine sds_cons (sd_set (i := 2) (ed_fld cl ns (ev 0 rfl (.inl ⟨_, _, _, rfl, rfl, ?_⟩))) sc_System_column_at.nd)
  refine sds_cons (sd_forF (t := .one 3) (tg_name sc_System_column_at.nd) (id_list (ed_callp GF (hr.mono (by decide)) (ad_cons (ev 1 rfl (ad_cons (ed_len hl (ed_fld cl nm (ev 0 rfl (.inl ⟨_, _, _, rfl, rfl, dMs S.mats, S.mats.length, rfl, by simp [LenOk, dMs], ad_nil ⟨[_, _], rfl, place, S.mats.length, rfl, rfl, hb.1, hb.2, hf, (figL S.mats.length place).map fun n => .int (n : Nat), rfl, ?_⟩⟩))))))))))
  refine ⟨fun i c => c = ([.dat (dSys C S), .dat (.int (place : Nat)), .dat (dI (((figL S.mats.length place).take i).foldl S.fol S.starts)), .un], []), .of rfl, fun i c d hd hI => ?_, fun c hI => ?_⟩
  · subst hI
    obtain ⟨x, hx, rfl⟩ := map_get hd
    have hi := (List.getElem?_eq_some_iff.mp hx).1
    have hxm := List.mem_of_getElem? hx
    have step := foldl_take (f := S.fol) (b := S.starts) hx
    obtain ⟨k1, k2⟩ := behind_ok ok ((figL S.mats.length place).take i) (fun r q => figL_lt hb.1 r (List.mem_of_mem_take q)) ok.st.1 ok.st.2
    rw [Sys.behind] at k1 k2
    generalize ((figL S.mats.length place).take i).foldl S.fol S.starts = u at *
    refine ⟨rfl, _, rfl, ?_⟩
    refine sds_one (sd_set (i := 2) (ed_methp GO hr (ev 0 rfl ⟨_, rfl, insR_dat (by decide), ad_cons (ev 2 rfl (ad_cons (ev 3 rfl (ad_nil ⟨[_, _], rfl, S, n, g, g + ((figL S.mats.length place).take i).length * (g + 7), x, u, rfl, rfl, ok, k2, ?_, figL_lt hb.1 x hxm, ?_⟩))))⟩)) sc_System_column_at.nd)
    · have hl2 : ((figL S.mats.length place).take i).length ≤ (figR S.mats.length place).length := by
        rw [List.length_take, figL, List.length_reverse]
        exact Nat.min_le_right _ _
      have := Nat.mul_le_mul_right (g + 7) hl2
      rw [Nat.add_mul] at hg
      omega
    · refine UpG.by rfl ⟨.inl rfl, .inl rfl, .inl ?_, .inr rfl, trivial⟩
      rw [step]
  · subst hI
    rw [List.length_map, List.take_length]
    exact ⟨rfl, sds_one (sd_ret (ev 2 rfl (ret_dat (po0 hP))))⟩
theorem body_sysinit {f C : Addr} (cl : Cls K C) (ns : NoAttr K C "starts") (nm : NoAttr K C "matrices") (nf : NoAttr K C "factors") : BodyOk P w K mg base 0 ["self", "starts", "matrices", "factors"] ["self", "starts", "matrices", "factors"] "System.__init__" s_SystemI_initI f (cSysInit C) := by
  intro cdv A outer s H E hr args M P0 ⟨a, b, c, e1, e2, hP⟩
  subst e1
  subst e2
  refine sds_cons (sd_fldN cl ns (ev 1 rfl (ev 0 rfl ⟨_, _, _, _, rfl, rfl, rfl, by decide, by decide, ?_⟩)))
  refine sds_cons (sd_fldN cl nm (ev 2 rfl (ev 0 rfl ⟨_, _, _, _, rfl, rfl, rfl, by decide, by decide, ?_⟩)))
  refine sds_one (sd_fldN cl nf (ev 3 rfl (ev 0 rfl ⟨_, _, _, _, rfl, rfl, rfl, by decide, by decide, ?_⟩)))
  exact pn1 hP rfl
end
end Fb
set_option Elab.async false
set_option linter.all false
set_option maxRecDepth 100000
set_option maxHeartbeats 4000000
namespace Fb
open PySem L2 Dl
theorem ofV_str (xs : List Str) : (xs.map V.str).map ofV = xs.map D.str := by
  rw [List.map_map]
  rfl
theorem flat_str (xs : List Str) : (xs.map V.str).all flatV = true := by
  rw [List.all_map, List.all_eq_true]
  intro x _
  rfl
theorem inV_str (x : Str) (xs : List Str) : inV (.str x) (xs.map V.str) = decide (x ∈ xs) := by
  induction xs with
  | nil => simp [inV]
  | cons y ys ih =>
    rw [List.map_cons, inV, List.any_cons]
    rw [inV] at ih
    rw [ih]
    by_cases h : x = y
    · subst h
      simp [eqV]
    · have h2 : ¬ y = x := fun z => h z.symm
      simp [eqV, h, h2]
section
variable {P : Program} {w : World} {K : PySem.W.Frag} {mg : Str → Option Value} {base : Heap}
theorem body_is_name {f : Addr} (hl : mg "len" = none) (hL : GlobD K mg "LETTERS" (.str letters)) : BodyOk P w K mg base 0 ["name"] ["name"] "is_name" s_is_name f cIsName := by
  intro cdv A outer s H E hr args M P0 ⟨x, e1, e2, hx, hP⟩
  subst e1
  subst e2
  have hu := hr.units
  refine sds_one (sd_ret (ed_and (ed_eqI hu (ed_len hl (ev 0 rfl ⟨_, x.length, rfl, ⟨szl hx, rfl⟩, ed_int ⟨_, _, rfl, rfl, ⟨_, rfl, fun ht => ?_, fun hf => ?_⟩⟩⟩)))))
  · have h1 : x.length = 1 := by
      have : (x.length : Int) = 1 := by simpa using ht
      omega
    obtain ⟨c, hc⟩ : ∃ c, x.cps = #[c] := by
      have h2 : x.cps.size = 1 := h1
      exact Array.size_eq_one_iff.mp h2
    obtain ⟨cps⟩ := x
    have hc : cps = #[c] := hc
    subst hc
    refine ed_one (ed_inS (ev 0 rfl (ed_gl hL ⟨c, letters, rfl, rfl, ret_dat (po0 ?_)⟩)))
    exact hP
  · have h1 : isName x = false := by
      have : ¬ (x.length : Int) = 1 := by simpa using hf
      unfold isName
      split
      · rename_i c e
        exfalso
        apply this
        have : x.cps.toList.length = 1 := by rw [e]; rfl
        have h2 : x.cps.size = 1 := by simpa using this
        show ((x.cps.size : Nat) : Int) = 1
        omega
      · rfl
    rw [h1] at hP
    exact ret_dat (po0 hP)
theorem body_check_names {f : Addr} (GI : FnG P w K mg base 1 "is_name" cIsName) : BodyOk P w K mg base 1 ["rows", "seen", "name", "start", "formulas"] ["rows"] "check_names" s_check_names f cChkNames := by
  intro cdv A outer s H E hr args M P0 ⟨g, b, rows, e1, e2, ok, hP⟩
  subst e1
  subst e2
  have hu := hr.units
  refine sds_cons (sd_set (i := 1) (ed_new (en_lst (ad_nil ⟨[], rfl, Nat.zero_le _, ?_⟩))) sc_check_names.nd)
  refine sds_one (sd_forF (t := .tup [2, 3, 4]) (tg_tup (tgs_cons (tgs_cons (tgs_cons tgs_nil sc_check_names.nd) sc_check_names.nd) sc_check_names.nd)) (id_list (ev 0 rfl ⟨rows.map dNR, rfl, ?_⟩)))
  refine ⟨fun i c => c = ([.dat (.lst (rows.map dNR)), .cel 0, .un, .un, .un], [.lst (((names rows).take i).map .str)]), .of rfl, fun i c d hd hI => ?_, fun c hI => ?_⟩
  · subst hI
    obtain ⟨r, hx, rfl⟩ := map_get hd
    have hm := List.mem_of_getElem? hx
    have hi := (List.getElem?_eq_some_iff.mp hx).1
    have hn : (names rows)[i]? = some r.name := by rw [names, List.getElem?_map, hx]; rfl
    have hnin : r.name ∉ (names rows).take i := by
      intro z
      have := ok.nd
      rw [← List.take_append_drop (i + 1) (names rows), take_snoc hn] at this
      exact (List.nodup_append.mp (List.nodup_append.mp this).1).2.2 _ z _ (List.mem_singleton.mpr rfl) rfl
    have nm := ok.nm r hm
    have few := ok.few
    refine ⟨rfl, _, rfl, ?_⟩
    have hlen : r.name.length ≤ 100000 := by
      unfold isName at nm
      split at nm
      · rename_i c e
        have : r.name.cps.toList.length = 1 := by rw [e]; rfl
        have h2 : r.name.cps.size = 1 := by simpa using this
        show r.name.cps.size ≤ _
        omega
      · cases nm
    refine sds_cons (sd_if (td_w (wd_or (td_not (td_val (ed_callp GI hr (ad_cons (ev 2 rfl (ad_nil ⟨[_], rfl, r.name, rfl, rfl, hlen, _, rfl, fun _ => ?_, fun hb => ?_⟩)))))))))
    · refine wd_or1 (td_in (ev 2 rfl (ev 1 rfl ⟨.str r.name, ((names rows).take i).map .str, _, rfl, rfl, ?_, rfl, flat_str _, _, rfl, fun hb => ?_, fun hb => sds_nil ?_⟩)))
      · rw [ofV_str]
        rfl
      · rw [if_neg (by decide), inV_str] at hb
        exact absurd (of_decide_eq_true hb) hnin
      · refine sds_one (sd_expr (ed_append (ev 1 rfl ⟨0, _, rfl, rfl, ev 2 rfl ⟨_, _, rfl, rfl, ?_, ?_⟩⟩)))
        · rw [List.length_map, List.length_take]
          have : (names rows).length = rows.length := by simp [names]
          exact szlt (by omega)
        · refine UpG.by (e0 := [.dat (.lst (rows.map dNR)), .cel 0, .un, .un, .un]) ?_ ⟨.inl rfl, .inl rfl, .inr rfl, .inr rfl, .inr rfl, trivial⟩
          show (_, [Cell.lst (((names rows).take i).map D.str ++ [D.str r.name])]) = (_, [Cell.lst (((names rows).take (i + 1)).map D.str)])
          rw [take_snoc hn, List.map_append]
          rfl
    · rw [nm] at hb
      cases hb
  · subst hI
    exact ⟨rfl, pn0 hP⟩
theorem mem_names {rows : List NR} {r : NR} (h : r ∈ rows) : r.name ∈ names rows := List.mem_map_of_mem h
theorem body_check_formulas {f : Addr} (hl : mg "len" = none) (ha : mg "all" = none) : BodyOk P w K mg base 0 ["base", "rows", "known", "name", "start", "formulas", "named", "formula", "coefficient", "other"] ["base", "rows"] "check_formulas" s_check_formulas f cChkForms := by
  intro cdv A outer s H E hr args M P0 ⟨g, b, rows, e1, e2, ok, hP⟩
  subst e1
  subst e2
  have hu := hr.units
  have few := ok.few
  refine sds_cons (sd_set (i := 2) (ed_of_en (en_lc (own := [("name", 3), ("start", 4), ("formulas", 5)]) (t := .tup [3, 4, 5]) sc_check_formulas.nd (blkOk_by (N := ["base", "rows", "known", "name", "start", "formulas", "named", "formula", "coefficient", "other"]) (sc := defScope s_check_formulas) (by decide +kernel)) (fun s H C cl fp => tg_tup (tgs_cons (tgs_cons (tgs_cons tgs_nil sc_check_formulas.nd) sc_check_formulas.nd) sc_check_formulas.nd)) ?_)) sc_check_formulas.nd)
  refine id_list (ev 1 rfl ⟨rows.map dNR, rfl, ?_⟩)
  refine lcd_map rows dNR (fun r => .str r.name) rfl (szl (by omega)) ?_ (fun acc => rfl) ?_
  · intro x hx acc
    exact ⟨_, rfl, fun s H C cl fp => ev 3 rfl ⟨rfl, rfl⟩⟩
  have ek : D.lst (rows.map fun r => .str r.name) = .lst ((names rows).map .str) := by simp [names, Function.comp_def]
  rw [ek]
  refine sds_one (sd_forF (t := .tup [3, 4, 5]) (tg_tup (tgs_cons (tgs_cons (tgs_cons tgs_nil sc_check_formulas.nd) sc_check_formulas.nd) sc_check_formulas.nd)) (id_list (ev 1 rfl ⟨rows.map dNR, rfl, ?_⟩)))
  refine ⟨fun i c => c = ([.dat (.int (b : Nat)), .dat (.lst (rows.map dNR)), .dat (.lst ((names rows).map .str)), .un, .un, .un, .un, .un, .un, .un], []), .of rfl, fun i c d hd hI => ?_, fun c hI => ?_⟩
  · subst hI
    obtain ⟨r, hx, rfl⟩ := map_get hd
    have hm := List.mem_of_getElem? hx
    have fl := ok.fl r hm
    have tm := ok.tm r hm
    have b4 := ok.base.2
    refine ⟨rfl, _, rfl, ?_⟩
    have hlen : (r.forms.flatMap fun fo => fo.map fun t => D.str t.2).length ≤ 400 := by
      have : ∀ (fs : List (List (Int × Str))), (∀ f ∈ fs, f.length ≤ 100) → (fs.flatMap fun fo => fo.map fun t => D.str t.2).length ≤ fs.length * 100 := by
        intro fs
        induction fs with
        | nil => intro _; simp
        | cons y ys ih =>
          intro h
          have h1 := h y List.mem_cons_self
          have h2 := ih fun f hf => h f (List.mem_cons_of_mem _ hf)
          rw [List.flatMap_cons, List.length_append, List.length_map, List.length_cons]
          omega
      have := this r.forms fun f hf => (tm f hf).1
      omega
    refine sds_cons (sd_setLc2 (i := 6) (own := [("formula", 7), ("coefficient", 8), ("other", 9)]) (t := .one 7) (t1 := .tup [8, 9]) [8, 9] sc_check_formulas.nd (blkOk_by (N := ["base", "rows", "known", "name", "start", "formulas", "named", "formula", "coefficient", "other"]) (sc := defScope s_check_formulas) (by decide +kernel)) (fun s H C cl fp => tg_name sc_check_formulas.nd) (fun s H C cl fp => tg_tup (tgs_cons (tgs_cons tgs_nil sc_check_formulas.nd) sc_check_formulas.nd)) ?_)
    refine id_list (ev 5 rfl ⟨r.forms.map dForm, rfl, ?_⟩)
    refine lc2_plain r.forms dForm (fun fo => fo.map fun t => .str t.2) rfl (szl (by omega)) ?_ (fun acc => rfl) ?_
    · intro fo hf acc hacc
      refine ⟨_, rfl, fun fin hfin s H C cl fp => ?_⟩
      refine id_list (ev 7 rfl ⟨fo.map dTerm, rfl, ?_⟩)
      refine lc2in_map fo dTerm (fun t => .str t.2) rfl rfl (by simpa using hacc) ?_ (fun acc => rfl) hfin
      intro t ht acc
      exact ⟨_, rfl, fun s H C cl fp => ev 9 rfl ⟨rfl, rfl⟩⟩
    have hne : ¬ ((b : Nat) : Int) ≠ b := by simp
    refine sds_one (sd_if (td_w (wd_or (td_neI hu (ed_len hl (ev 5 rfl ⟨.lst (r.forms.map dForm), r.forms.length, rfl, by simp [LenOk], ev 0 rfl ⟨_, _, rfl, rfl, fun _ => ?_, fun hb => ?_⟩⟩))))))
    · refine wd_or1 (td_not (td_val (ed_all ha (ed_of_en (en_lc (own := [("other", 9)]) (t := .one 9) sc_check_formulas.nd (blkOk_by (N := ["base", "rows", "known", "name", "start", "formulas", "named", "formula", "coefficient", "other"]) (sc := defScope s_check_formulas) (by decide +kernel)) (fun s H C cl fp => tg_name sc_check_formulas.nd) ?_)))))
      refine id_list (ev 6 rfl ⟨_, rfl, ?_⟩)
      refine lcd_map (r.forms.flatMap fun fo => fo.map fun t => t.2) .str (fun x => .bl (decide (x ∈ names rows))) ?_ ?_ ?_ (fun acc => rfl) ?_
      · simp [List.map_flatMap, Function.comp_def]
      · rw [show (r.forms.flatMap fun fo => fo.map fun t => t.2).length = (r.forms.flatMap fun fo => fo.map fun t => D.str t.2).length by simp [List.length_flatMap]]
        exact szl (by omega)
      · intro x hx acc
        refine ⟨_, rfl, fun s H C cl fp => ed_in (ev 9 rfl (ev 2 rfl ⟨.str x, (names rows).map .str, _, rfl, rfl, ?_, rfl, flat_str _, ?_, rfl⟩))⟩
        · rw [ofV_str]
          rfl
        · rw [if_neg (by decide), inV_str]
      · refine ⟨(r.forms.flatMap fun fo => fo.map fun t => t.2).map fun x => decide (x ∈ names rows), by simp [rdD], _, rfl, fun hb => ?_, fun hb => sds_nil ?_⟩
        · exfalso
          have hall : (((r.forms.flatMap fun fo => fo.map fun t => t.2).map fun x => decide (x ∈ names rows)).all id) = true := by
            rw [List.all_eq_true]
            intro z hz
            obtain ⟨x, hx, rfl⟩ := List.mem_map.mp hz
            obtain ⟨fo, h1, h2⟩ := List.mem_flatMap.mp hx
            obtain ⟨t, h3, rfl⟩ := List.mem_map.mp h2
            have := ((tm fo h1).2 t h3).1
            simpa using this
          rw [hall] at hb
          cases hb
        · exact UpG.by rfl ⟨.inl rfl, .inl rfl, .inl rfl, .inr rfl, .inr rfl, .inr rfl, .inr rfl, .inr rfl, .inr rfl, .inr rfl, trivial⟩
    · exfalso
      rw [fl] at hb
      simp at hb
  · subst hI
    exact ⟨rfl, pn0 hP⟩
end
end Fb
set_option Elab.async false
set_option linter.all false
set_option maxRecDepth 100000
set_option maxHeartbeats 4000000
namespace Fb
open PySem L2 Dl
section
variable {P : Program} {w : World} {K : PySem.W.Frag} {mg : Str → Option Value} {base : Heap}
theorem body_check_starts {f : Addr} (hs : mg "sum" = none) : BodyOk P w K mg base 0 ["rows", "starts", "name", "start", "formulas", "coefficient", "other"] ["rows"] "check_starts" s_check_starts f cChkNames := by
  intro cdv A outer s H E hr args M P0 ⟨g, b, rows, e1, e2, ok, hP⟩
  subst e1
  subst e2
  have hu := hr.units
  have few := ok.few
  have hgg := ok.g
  refine sds_cons (sd_set (i := 1) (ed_of_en (en_dc (own := [("name", 2), ("start", 3), ("formulas", 4)]) (t := .tup [2, 3, 4]) sc_check_starts.nd (blkOk_by (N := ["rows", "starts", "name", "start", "formulas", "coefficient", "other"]) (sc := defScope s_check_starts) (by decide +kernel)) (fun s H C cl fp => tg_tup (tgs_cons (tgs_cons (tgs_cons tgs_nil sc_check_starts.nd) sc_check_starts.nd) sc_check_starts.nd)) ?_)) sc_check_starts.nd)
  refine id_list (ev 0 rfl ⟨rows.map dNR, rfl, ?_⟩)
  have ndk : (rows.map fun r => (Sum.inr r.name : Key)).Nodup := by
    have : (rows.map fun r => (Sum.inr r.name : Key)) = (names rows).map Sum.inr := by simp [names, Function.comp_def]
    rw [this]
    exact List.pairwise_map.mpr (ok.nd.imp fun h z => h (Sum.inr.inj z))
  refine dcd_map rows dNR (fun r => .inr r.name) (fun r => .int r.start) rfl (szl (by omega)) ndk ?_ (fun _ _ => rfl) ?_
  · intro x hx ks ds
    exact ⟨_, rfl, fun s H C cl fp => ev 2 rfl ⟨rfl, rfl, fun s H C cl fp => ev 3 rfl ⟨rfl, rfl⟩⟩⟩
  refine sds_one (sd_forF (t := .tup [2, 3, 4]) (tg_tup (tgs_cons (tgs_cons (tgs_cons tgs_nil sc_check_starts.nd) sc_check_starts.nd) sc_check_starts.nd)) (id_list (ev 0 rfl ⟨rows.map dNR, rfl, ?_⟩)))
  refine ⟨fun i c => c = ([.dat (.lst (rows.map dNR)), .dat (.dic (rows.map fun r => .inr r.name) (rows.map fun r => .int r.start)), .un, .un, .un, .un, .un], []), .of rfl, fun i c d hd hI => ?_, fun c hI => ?_⟩
  · subst hI
    obtain ⟨r, hx, rfl⟩ := map_get hd
    have hm := List.mem_of_getElem? hx
    obtain ⟨st1, st2⟩ := ok.st r hm
    have b2 := ok.base.1
    have fl := ok.fl r hm
    have h0 : 0 < r.forms.length := by omega
    have g0 : L2.atI (r.forms.map dForm) (0 : Int) = some (dForm (r.forms.getD 0 [])) := atI_nat (j := 0) (by simp [List.getElem?_eq_getElem h0])
    have tm := ok.tm r hm (r.forms.getD 0 []) (by
      have e : r.forms.getD 0 [] = r.forms[0] := by simp [List.getD_eq_getElem?_getD, List.getElem?_eq_getElem h0]
      rw [e]
      exact List.getElem_mem h0)
    refine ⟨rfl, _, rfl, ?_⟩
    refine sds_one (sd_if (td_neI hu (ev 3 rfl (ed_sum hs (ed_of_en (en_lc (own := [("coefficient", 5), ("other", 6)]) (t := .tup [5, 6]) sc_check_starts.nd (blkOk_by (N := ["rows", "starts", "name", "start", "formulas", "coefficient", "other"]) (sc := defScope s_check_starts) (by decide +kernel)) (fun s H C cl fp => tg_tup (tgs_cons (tgs_cons tgs_nil sc_check_starts.nd) sc_check_starts.nd)) ?_))))))
    refine id_list (ed_ix (ev 4 rfl (ed_int ⟨_, g0, (r.forms.getD 0 []).map dTerm, rfl, ?_⟩)))
    refine lcd_map (r.forms.getD 0 []) dTerm (fun t => .int (t.1 * startOf rows t.2)) rfl (szl (by have := tm.1; omega)) ?_ (fun acc => rfl) ?_
    · intro t ht acc
      obtain ⟨t1, t2⟩ := tm.2 t ht
      refine ⟨_, rfl, fun s H C cl fp => ?_⟩
      obtain ⟨r', hr', en⟩ := List.mem_map.mp t1
      have hv := valD_map (vf := fun r => D.int r.start) ndk hr'
      have hs' := startOf_mem ok.nd hr'
      rw [en] at hs' hv
      refine ed_mul (ev 5 rfl (ed_dget hu (ev 1 rfl (ev 6 rfl ⟨_, _, .inr t.2, _, rfl, rfl, hv, mulB_of (a := g) (b := g) t2 (ok.st r' hr').1 (by omega), ?_, rfl⟩))))
      rw [hs']
    · refine ⟨(r.forms.getD 0 []).map fun t => t.1 * startOf rows t.2, by simp [rdD], _, _, rfl, rfl, fun hb => ?_, fun hb => sds_nil ?_⟩
      · exfalso
        have : r.start = ((r.forms.getD 0 []).map fun t => t.1 * startOf rows t.2).sum := st2
        rw [← this] at hb
        simp at hb
      · exact UpG.by rfl ⟨.inl rfl, .inl rfl, .inr rfl, .inr rfl, .inr rfl, .inr rfl, .inr rfl, trivial⟩
  · subst hI
    exact ⟨rfl, pn0 hP⟩
theorem body_base {f C : Addr} (cl : Cls K C) (nf : NoAttr K C "figures") : BodyOk P w K mg base 0 ["self"] ["self"] "Book.base" s_Book_base f (cBase C) := by
  intro cdv A outer s H E hr args M P0 ⟨b, rows, e1, e2, hP⟩
  subst e1
  subst e2
  exact sds_one (sd_ret (ed_fld cl nf (ev 0 rfl (.inl ⟨_, _, _, rfl, rfl, ret_dat (po0 hP)⟩))))
theorem body_names {f C : Addr} (cl : Cls K C) (nk : NoAttr K C "kept") : BodyOk P w K mg base 0 ["self", "name", "start", "formulas"] ["self"] "Book.names" s_Book_names f (cNames C) := by
  intro cdv A outer s H E hr args M P0 ⟨b, rows, e1, e2, few, hP⟩
  subst e1
  subst e2
  refine sds_one (sd_retn (en_lc (own := [("name", 1), ("start", 2), ("formulas", 3)]) (t := .tup [1, 2, 3]) sc_Book_names.nd (blkOk_by (N := ["self", "name", "start", "formulas"]) (sc := defScope s_Book_names) (by decide +kernel)) (fun s H C cl fp => tg_tup (tgs_cons (tgs_cons (tgs_cons tgs_nil sc_Book_names.nd) sc_Book_names.nd) sc_Book_names.nd)) ?_))
  refine id_tup (ed_fld cl nk (ev 0 rfl (.inl ⟨_, _, _, rfl, rfl, rows.map dNRT, rfl, ?_⟩)))
  refine lcd_map rows dNRT (fun r => .str r.name) rfl (szl (by omega)) ?_ (fun acc => rfl) ?_
  · intro x hx acc
    exact ⟨_, rfl, fun s H C cl fp => ev 1 rfl ⟨rfl, rfl⟩⟩
  · refine ⟨rfl, Nat.zero_le _, po0 ?_⟩
    simpa [names, Function.comp_def] using hP
theorem body_starts {f C : Addr} (cl : Cls K C) (nk : NoAttr K C "kept") : BodyOk P w K mg base 0 ["book", "name", "start", "formulas"] ["book"] "starts_of" s_starts_of f (cStarts C) := by
  intro cdv A outer s H E hr args M P0 ⟨b, rows, e1, e2, few, hP⟩
  subst e1
  subst e2
  refine sds_one (sd_retn (en_lc (own := [("name", 1), ("start", 2), ("formulas", 3)]) (t := .tup [1, 2, 3]) sc_starts_of.nd (blkOk_by (N := ["book", "name", "start", "formulas"]) (sc := defScope s_starts_of) (by decide +kernel)) (fun s H C cl fp => tg_tup (tgs_cons (tgs_cons (tgs_cons tgs_nil sc_starts_of.nd) sc_starts_of.nd) sc_starts_of.nd)) ?_))
  refine id_tup (ed_fld cl nk (ev 0 rfl (.inl ⟨_, _, _, rfl, rfl, rows.map dNRT, rfl, ?_⟩)))
  refine lcd_map rows dNRT (fun r => .int r.start) rfl (szl (by omega)) ?_ (fun acc => rfl) ?_
  · intro x hx acc
    exact ⟨_, rfl, fun s H C cl fp => ev 2 rfl ⟨rfl, rfl⟩⟩
  · refine ⟨rfl, Nat.zero_le _, po0 ?_⟩
    simpa [dI, Function.comp_def] using hP
theorem idx_str {ns : List Str} {x : Str} (h : x ∈ ns) : (ns.map V.str)[ns.idxOf x]? = some (.str x) ∧ ∀ (m : Nat) (z : V), m < ns.idxOf x → (ns.map V.str)[m]? = some z → eqV z (.str x) = false := by
  have hlt := List.idxOf_lt_length_of_mem h
  refine ⟨by rw [List.getElem?_map, List.getElem?_eq_getElem hlt, List.getElem_idxOf hlt]; rfl, fun m z hm hz => ?_⟩
  obtain ⟨y, hy, rfl⟩ := map_get hz
  have hml : m < ns.length := (List.getElem?_eq_some_iff.mp hy).1
  have := List.not_of_lt_findIdx hm
  have e : ns[m] = y := (List.getElem?_eq_some_iff.mp hy).2
  rw [e] at this
  simpa [eqV] using this
end
end Fb
set_option Elab.async false
set_option linter.all false
set_option maxRecDepth 100000
set_option maxHeartbeats 4000000
namespace Fb
open PySem L2 Dl
theorem bump_len {ns : List Str} {line : List Int} {t : Int × Str} : (bump ns line t).length = line.length := by simp [bump]
theorem bumps_len {ns : List Str} : ∀ (fo : List (Int × Str)) (line : List Int), (fo.foldl (bump ns) line).length = line.length
  | [], _ => rfl
  | t :: fo, line => by rw [List.foldl_cons, bumps_len fo, bump_len]
theorem bumps_bd {ns : List Str} {g : Nat} : ∀ (fo : List (Int × Str)) (line : List Int) (k : Nat), (∀ t ∈ fo, t.1.natAbs < 2 ^ g) → (∀ x ∈ line, x.natAbs ≤ k * 2 ^ g) → ∀ x ∈ fo.foldl (bump ns) line, x.natAbs ≤ (k + fo.length) * 2 ^ g
  | [], _, _, _, h => h
  | t :: fo, line, k, ht, h => by
    have := bumps_bd (ns := ns) fo (bump ns line t) (k + 1) (fun t' h' => ht t' (List.mem_cons_of_mem _ h')) (fun x hx => by
      have h1 := ht t List.mem_cons_self
      have e : (k + 1) * 2 ^ g = k * 2 ^ g + 2 ^ g := by rw [Nat.add_mul, Nat.one_mul]
      rcases List.mem_or_eq_of_mem_set hx with z | z
      · have := h x z
        omega
      · have h2 : (line.getD (ns.idxOf t.2) 0).natAbs ≤ k * 2 ^ g := by
          rw [List.getD_eq_getElem?_getD]
          cases e : line[ns.idxOf t.2]? with
          | none => simp
          | some y => exact h y (List.mem_of_getElem? e)
        rw [z]
        omega)
    rw [List.length_cons, List.foldl_cons]
    rwa [show k + (fo.length + 1) = k + 1 + fo.length by omega]
theorem BookOk.form {g b : Nat} {rows : List NR} (ok : BookOk g b rows) {nr : NR} (h : nr ∈ rows) {r : Nat} (hr : r < b) : nr.forms[r]? = some (nr.forms.getD r []) ∧ nr.forms.getD r [] ∈ nr.forms := by
  have fl := ok.fl nr h
  have h0 : r < nr.forms.length := by omega
  have e : nr.forms.getD r [] = nr.forms[r] := by simp [List.getD_eq_getElem?_getD, List.getElem?_eq_getElem h0]
  rw [e]
  exact ⟨List.getElem?_eq_getElem h0, List.getElem_mem h0⟩
theorem sysOf_ok {g b : Nat} {rows : List NR} (ok : BookOk g b rows) {shares : List Int} (hl : shares.length = rows.length) (hs : Bd (g + 7) shares) : SysOk rows.length (g + 7) (sysOf b rows shares) where
  rows := fun m hm => by
    obtain ⟨r, hr, rfl⟩ := List.mem_map.mp hm
    have hr := List.mem_range.mp hr
    refine ⟨by simp [matOf], fun l hl => ?_⟩
    obtain ⟨nr, hn, rfl⟩ := List.mem_map.mp hl
    obtain ⟨_, f2⟩ := ok.form hn hr
    obtain ⟨t1, t2⟩ := ok.tm nr hn _ f2
    refine ⟨by rw [lineOf, bumps_len]; simp [names], fun x hx => ?_⟩
    have := bumps_bd (g := g) (nr.forms.getD r []) (List.replicate (names rows).length 0) 0 (fun t ht => (t2 t ht).2) (fun x hx => by rw [List.eq_of_mem_replicate hx]; simp) x hx
    have h2 := Nat.mul_le_mul_right (2 ^ g) t1
    have p := Nat.two_pow_pos g
    rw [Nat.zero_add] at this
    rw [Nat.pow_add]
    omega
  st := ⟨by simp [sysOf], fun x hx => by
    obtain ⟨r, hr, rfl⟩ := List.mem_map.mp hx
    exact Nat.lt_of_lt_of_le (ok.st r hr).1 (Nat.pow_le_pow_right (by decide) (by omega))⟩
  fa := ⟨hl, hs⟩
  few := by have := ok.few; omega
  base := by
    have := ok.base
    simp [sysOf]
    omega
section
variable {P : Program} {w : World} {K : PySem.W.Frag} {mg : Str → Option Value} {base : Heap}
theorem body_matrix {f C : Addr} (cl : Cls K C) (nk : NoAttr K C "kept") (hl : mg "len" = none) (GN : PropG P w K mg base 1 C "names" (cNames C)) : BodyOk P w K mg base 2 ["book", "rest", "names", "found", "name", "start", "formulas", "line", "coefficient", "other"] ["book", "rest"] "matrix_of" s_matrix_of f (cMatrix C) := by
  intro cdv A outer s H E hr args M P0 ⟨g, b, rows, r, e1, e2, ok, hrb, hP⟩
  subst e1
  subst e2
  have few := ok.few
  have hnl : (names rows).length = rows.length := by simp [names]
  refine sds_cons (sd_par (i := 2) (j := 3) (ad_cons (ed_propp GN hr (ev 0 rfl ⟨_, rfl, insR_dat (by decide), b, rows, rfl, rfl, few, ad_cons (ed_new (en_lst (ad_nil ⟨[], rfl, Nat.zero_le _, ad_nil ⟨_, _, rfl, ?_⟩⟩)))⟩))) sc_matrix_of.nd)
  refine sds_cons (sd_forF (t := .tup [4, 5, 6]) (tg_tup (tgs_cons (tgs_cons (tgs_cons tgs_nil sc_matrix_of.nd) sc_matrix_of.nd) sc_matrix_of.nd)) (id_tup (ed_fld cl nk (ev 0 rfl (.inl ⟨_, _, _, rfl, rfl, rows.map dNRT, rfl, ?_⟩)))))
  refine ⟨fun i c => c = ([.dat (dBook C b rows), .dat (.int (r : Nat)), .dat (.lst ((names rows).map .str)), .cel 0, .un, .un, .un, .un, .un, .un], [.lst (((matOf rows r).take i).map dI)]), .of rfl, fun i c d hd hI => ?_, fun c hI => ?_⟩
  · subst hI
    obtain ⟨nr, hx, rfl⟩ := map_get hd
    have hm := List.mem_of_getElem? hx
    have hi := (List.getElem?_eq_some_iff.mp hx).1
    obtain ⟨f1, f2⟩ := ok.form hm hrb
    obtain ⟨t1, t2⟩ := ok.tm nr hm _ f2
    have hmat : (matOf rows r)[i]? = some (lineOf (names rows) (nr.forms.getD r [])) := by rw [matOf, List.getElem?_map, hx]; rfl
    refine ⟨rfl, _, rfl, ?_⟩
    refine sds_cons (sd_set (i := 7) (ed_new (en_rep (ed_lst (ad_cons (ed_int (ad_nil ⟨[_], rfl, by decide, ed_len hl (ev 2 rfl ⟨.lst ((names rows).map .str), (names rows).length, rfl, by simp [LenOk], _, _, rfl, rfl, by omega, by omega, ?_, ?_⟩)⟩)))))) sc_matrix_of.nd)
    · simp only [List.length_cons, List.length_nil, Int.toNat_natCast]
      exact szl (by omega)
    generalize hfo : nr.forms.getD r [] = fo at *
    have g0 : L2.atI (nr.forms.map dFormT) (r : Int) = some (dFormT fo) := atI_nat (by rw [List.getElem?_map, f1]; rfl)
    refine sds_cutF (fun c => c = ([.dat (dBook C b rows), .dat (.int (r : Nat)), .dat (.lst ((names rows).map .str)), .cel 0, .un, .un, .un, .cel 1, .un, .un], [.lst (((matOf rows r).take i).map dI), .lst ((lineOf (names rows) fo).map .int)])) (sd_forF (t := .tup [8, 9]) (tg_tup (tgs_cons (tgs_cons tgs_nil sc_matrix_of.nd) sc_matrix_of.nd)) (id_tup (ed_ix (ev 6 rfl (ev 1 rfl ⟨_, g0, fo.map dTerm, rfl, ?_⟩))))) ?_
    · refine ⟨fun j c => c = ([.dat (dBook C b rows), .dat (.int (r : Nat)), .dat (.lst ((names rows).map .str)), .cel 0, .un, .un, .un, .cel 1, .un, .un], [.lst (((matOf rows r).take i).map dI), .lst (((fo.take j).foldl (bump (names rows)) (List.replicate (names rows).length 0)).map .int)]), UpF.by (e0 := [.dat (dBook C b rows), .dat (.int (r : Nat)), .dat (.lst ((names rows).map .str)), .cel 0, .un, .un, .un, .cel 1, .un, .un]) ?_ ⟨.inl rfl, .inl rfl, .inl rfl, .inl rfl, .inr rfl, .inr rfl, .inr rfl, .inl rfl, .inl rfl, .inl rfl, trivial⟩, fun j c d hd hI => ?_, fun c hI => ?_⟩
      · simp
        rfl
      · subst hI
        obtain ⟨t, ht, rfl⟩ := map_get hd
        have htm := List.mem_of_getElem? ht
        obtain ⟨i1, i2⟩ := idx_str (t2 t htm).1
        have ixl := List.idxOf_lt_length_of_mem (t2 t htm).1
        have step := foldl_take (f := bump (names rows)) (b := List.replicate (names rows).length 0) ht
        have ul : ((fo.take j).foldl (bump (names rows)) (List.replicate (names rows).length 0)).length = (names rows).length := by rw [bumps_len]; simp
        generalize (fo.take j).foldl (bump (names rows)) (List.replicate (names rows).length 0) = u at *
        refine ⟨rfl, _, rfl, ?_⟩
        refine sds_one (sd_iaddix (ev 7 rfl ⟨1, rfl, ed_index (ev 2 rfl ⟨(names rows).map .str, by rw [ofV_str]; rfl, flat_str _, ev 9 rfl ⟨.str t.2, (names rows).idxOf t.2, .str t.2, by rw [ofV_str]; rfl, rfl, rfl, i1, by simp [eqV], i2, _, _, u.getD ((names rows).idxOf t.2) 0, (names rows).idxOf t.2, rfl, rfl, ?_, ?_, ev 8 rfl ⟨_, rfl, rfl, ?_⟩⟩⟩)⟩))
        · simp [ixN, ul]
          omega
        · simp [List.getElem?_eq_getElem (show (names rows).idxOf t.2 < u.length by omega)]
        · refine UpG.by (e0 := [.dat (dBook C b rows), .dat (.int (r : Nat)), .dat (.lst ((names rows).map .str)), .cel 0, .un, .un, .un, .cel 1, .un, .un]) ?_ ⟨.inl rfl, .inl rfl, .inl rfl, .inl rfl, .inl rfl, .inl rfl, .inl rfl, .inl rfl, .inr rfl, .inr rfl, trivial⟩
          show (_, [_, Cell.lst ((u.map D.int).set ((names rows).idxOf t.2) (.int (u.getD ((names rows).idxOf t.2) 0 + t.1)))]) = (_, [_, Cell.lst _])
          rw [step, bump, List.map_set]
      · subst hI
        rw [List.length_map, List.take_length]
        exact ⟨rfl, .of rfl⟩
    · rintro c rfl
      refine sds_one (sd_expr (ed_append (ev 3 rfl ⟨0, _, rfl, rfl, ed_frz (i := 7) rfl rfl (Nat.zero_le _) ⟨_, _, rfl, rfl, ?_, ?_⟩⟩)))
      · rw [List.length_map, List.length_take]
        have : (matOf rows r).length = rows.length := by simp [matOf]
        exact szlt (by omega)
      · refine UpG.gc (e0 := [.dat (dBook C b rows), .dat (.int (r : Nat)), .dat (.lst ((names rows).map .str)), .cel 0, .un, .un, .un, .un, .un, .un]) (M0 := [.lst (((matOf rows r).take (i + 1)).map dI)]) rfl ⟨.inl rfl, .inl rfl, .inl rfl, .inl rfl, .inl rfl, .inl rfl, .inl rfl, .inr rfl, .inl rfl, .inl rfl, trivial⟩ (M1 := [.dead (dI (lineOf (names rows) fo))]) ?_ (by simp) ?_
        · rw [take_snoc hmat, List.map_append]
          rfl
        · intro e he
          simp at he
          rcases he with rfl | rfl | rfl | rfl | rfl
          · trivial
          · trivial
          · trivial
          · exact Nat.zero_lt_one
          · trivial
  · subst hI
    rw [List.length_map, show rows.length = (matOf rows r).length by simp [matOf], List.take_length]
    exact ⟨rfl, sds_one (sd_ret (ev 3 rfl (ret_cel (Nat.le_refl _) rfl rfl (po0 hP))))⟩
end
end Fb
set_option Elab.async false
set_option linter.all false
set_option maxRecDepth 100000
set_option maxHeartbeats 2000000
/-! Rows, blocks. -/
namespace Fb
open PySem L2 Dl
def cRowInit (CR CB : Addr) : Ct := fun args M P => ∃ b rows shares, args = [.cel 0, .dat (dBook CB b rows), .dat (dI shares)] ∧ M = [.ins CR [] []] ∧ rows.length ≤ 26 ∧ shares.length = rows.length ∧ P false .non [.ins CR ["told_by", "shares"] [dBook CB b rows, .tup (shares.map .int)]]
def cBook (CR CB : Addr) : Ct := fun args M P => ∃ b rows shares, args = [.dat (dRow CR CB b rows shares)] ∧ M = [] ∧ P false (dBook CB b rows) []
def cCoefs (CR CB : Addr) : Ct := fun args M P => ∃ b rows shares, args = [.dat (dRow CR CB b rows shares)] ∧ M = [] ∧ P true (dI shares) []
def unitRow (rows : List NR) (x : Str) : List Int := (List.range rows.length).map fun i => if (names rows).idxOf x = i then 1 else 0
def cNamed (CR CB : Addr) : Ct := fun args M P => ∃ b rows x, args = [.dat (dBook CB b rows), .dat (.str x)] ∧ M = [] ∧ rows.length ≤ 26 ∧ x ∈ names rows ∧ P true (dRow CR CB b rows (unitRow rows x)) []
def cChkNum : Ct := fun args M P => ∃ a l : Int, args = [.dat (.int a), .dat (.int l)] ∧ M = [] ∧ l ≤ a ∧ P false .non []
def cChkMod : Ct := fun args M P => ∃ a : Int, args = [.dat (.int a)] ∧ M = [] ∧ 1 ≤ a ∧ P false .non []
structure RowOk (g b : Nat) (rows : List NR) (shares : List Int) : Prop where
  bk : BookOk g b rows
  len : shares.length = rows.length
  bd : Bd (g + 7) shares
theorem RowOk.sys {g b : Nat} {rows : List NR} {shares : List Int} (h : RowOk g b rows shares) : (sysOf b rows shares).mats.length = b := by simp [sysOf]
def cSystem (CR CB CS : Addr) : Ct := fun args M P => ∃ g b rows shares, args = [.dat (dRow CR CB b rows shares)] ∧ M = [] ∧ RowOk g b rows shares ∧ P true (dSys CS (sysOf b rows shares)) []
def cChkBlock (CR CB : Addr) : Ct := fun args M P => ∃ b rows shares, ∃ (head : Nat) (bl : List Nat), args = [.dat (dRow CR CB b rows shares), .dat (.int (head : Nat)), .dat (dN bl)] ∧ M = [] ∧ bl ≠ [] ∧ bl.length ≤ 1000 ∧ (∀ r ∈ bl, r < b) ∧ P false .non []
def cBehind (CS : Addr) : Ct := fun args M P => ∃ (S : Sys) (n g b : Nat) (col : List Int) (bl : List Nat), args = [.dat (dSys CS S), .dat (dI col), .dat (dN bl)] ∧ M = [] ∧ SysOk n g S ∧ Bd b col ∧ (∀ r ∈ bl, r < S.mats.length) ∧ b + (bl.length + 1) * (g + 7) ≤ 134000000 ∧ P false (dI (S.behind col bl)) []
def Sys.rep (S : Sys) (bl : List Nat) : Nat → List Int → List Int
  | 0, c => c
  | t + 1, c => S.behind (S.rep bl t c) bl
theorem rep_ok {n g : Nat} {S : Sys} (h : SysOk n g S) {bl : List Nat} (hr : ∀ r ∈ bl, r < S.mats.length) {b : Nat} {col : List Int} (hl : col.length = n) (hc : Bd b col) : ∀ t, (S.rep bl t col).length = n ∧ Bd (b + t * (bl.length * (g + 7))) (S.rep bl t col)
  | 0 => ⟨hl, by simpa [Sys.rep] using hc⟩
  | t + 1 => by
    obtain ⟨h1, h2⟩ := rep_ok h hr hl hc t
    obtain ⟨h3, h4⟩ := behind_ok h bl hr h1 h2
    refine ⟨h3, h4.mono ?_⟩
    rw [Nat.succ_mul]
    omega
/-- figures of a head and a block t times, all within the bits -/
structure FarOk (g b head : Nat) (bl : List Nat) (t : Nat) : Prop where
  few : (figR b head).length ≤ 100000
  ne : bl ≠ []
  len : bl.length ≤ 1000
  lt : ∀ r ∈ bl, r < b
  bits : ((figR b head).length + (t + 1) * bl.length + 5) * (g + 14) ≤ 134000000
def cRepeated (CR CB : Addr) : Ct := fun args M P => ∃ g b rows shares, ∃ (head : Nat) (bl : List Nat) (t : Nat), args = [.dat (dRow CR CB b rows shares), .dat (.int (head : Nat)), .dat (dN bl), .dat (.int (t : Nat))] ∧ M = [] ∧ RowOk g b rows shares ∧ FarOk g b head bl t ∧ t ≤ 1000000000 ∧ P false (.int (dot shares ((sysOf b rows shares).rep bl t ((sysOf b rows shares).col head)))) []
end Fb
set_option Elab.async false
set_option linter.all false
set_option maxRecDepth 100000
set_option maxHeartbeats 4000000
namespace Fb
open PySem L2 Dl
section
variable {P : Program} {w : World} {K : PySem.W.Frag} {mg : Str → Option Value} {base : Heap}
theorem body_bookinit {f C : Addr} (cl : Cls K C) (nf : NoAttr K C "figures") (nk : NoAttr K C "kept") (ht : mg "tuple" = none) (hB : GlobD K mg "BASES" (.tup [.int 2, .int 3, .int 4])) (G1 : FnG P w K mg base 2 "check_names" cChkNames) (G2 : FnG P w K mg base 1 "check_formulas" cChkForms) (G3 : FnG P w K mg base 1 "check_starts" cChkNames) :
    BodyOk P w K mg base 2 ["self", "base", "rows", "name", "start", "formulas", "one"] ["self", "base", "rows"] "Book.__init__" s_BookI_initI f (cBookInit C) := by
  intro cdv A outer s H E hr args M P0 ⟨g, b, rows, e1, e2, ok, hP⟩
  subst e1
  subst e2
  have few := ok.few
  have hb := ok.base
  refine sds_cons (sd_if (td_notin (ev 1 rfl (ed_gl hB ⟨.int b, [.int 2, .int 3, .int 4], _, rfl, rfl, rfl, rfl, rfl, _, rfl, fun hb' => ?_, fun _ => sds_nil ?_⟩))))
  · exfalso
    have : b = 2 ∨ b = 3 ∨ b = 4 := by omega
    rcases this with rfl | rfl | rfl <;> simp [inV, eqV] at hb'
  refine sds_cons (sd_expr (ed_callp G1 (hr.mono (by decide)) (ad_cons (ev 2 rfl (ad_nil ⟨[_], rfl, g, b, rows, rfl, rfl, ok, ?_⟩)))))
  refine sds_cons (sd_expr (ed_callp G2 (hr.mono (by decide)) (ad_cons (ev 1 rfl (ad_cons (ev 2 rfl (ad_nil ⟨[_, _], rfl, g, b, rows, rfl, rfl, ok, ?_⟩)))))))
  refine sds_cons (sd_expr (ed_callp G3 (hr.mono (by decide)) (ad_cons (ev 2 rfl (ad_nil ⟨[_], rfl, g, b, rows, rfl, rfl, ok, ?_⟩)))))
  refine sds_cons (sd_fldN cl nf (ev 1 rfl (ev 0 rfl ⟨_, _, _, _, rfl, rfl, rfl, by decide, by decide, ?_⟩)))
  refine sds_one (sd_fldN cl nk (ed_tuple ht (ed_of_en (en_lc (own := [("name", 3), ("start", 4), ("formulas", 5)]) (t := .tup [3, 4, 5]) sc_BookI_initI.nd (blkOk_by (N := ["self", "base", "rows", "name", "start", "formulas", "one"]) (sc := defScope s_BookI_initI) (by decide +kernel)) (fun s H C cl fp => tg_tup (tgs_cons (tgs_cons (tgs_cons tgs_nil sc_BookI_initI.nd) sc_BookI_initI.nd) sc_BookI_initI.nd)) ?_))))
  refine id_list (ev 2 rfl ⟨rows.map dNR, rfl, ?_⟩)
  refine lcd_map rows dNR dNRT rfl (szl (by omega)) ?_ (fun acc => rfl) ?_
  · intro r hm acc
    have tm := ok.tm r hm
    have fl := ok.fl r hm
    refine ⟨_, rfl, fun s H C cl fp => ed_tup (ad_cons (ev 3 rfl (ad_cons (ev 4 rfl (ad_cons (ed_tuple ht (ed_of_en (en_lc (own := [("one", 6)]) (t := .one 6) sc_BookI_initI.nd (blkOk_by (N := ["self", "base", "rows", "name", "start", "formulas", "one"]) (by rfl)) (fun s H C cl fp => tg_name sc_BookI_initI.nd) ?_))))))))⟩
    refine id_list (ev 5 rfl ⟨r.forms.map dForm, rfl, ?_⟩)
    refine lcd_map r.forms dForm dFormT rfl (szl (by omega)) ?_ (fun acc => rfl) ?_
    · intro fo hf acc
      exact ⟨_, rfl, fun s H C cl fp => ed_tuple ht (ev 6 rfl ⟨_, rfl, rfl, rfl⟩)⟩
    · exact ⟨_, rfl, ad_nil ⟨[_, _, _], rfl, szl (by simp), rfl, rfl⟩⟩
  · refine ⟨_, rfl, ev 0 rfl ⟨_, _, _, _, rfl, rfl, rfl, by decide, by decide, ?_⟩⟩
    exact pn1 hP rfl
theorem body_rowinit {f CR CB : Addr} (cl : Cls K CR) (nt : NoAttr K CR "told_by") (ns : NoAttr K CR "shares") (hl : mg "len" = none) (ht : mg "tuple" = none) (GN : PropG P w K mg base 1 CB "names" (cNames CB)) :
    BodyOk P w K mg base 2 ["self", "book", "coefficients"] ["self", "book", "coefficients"] "Row.__init__" s_RowI_initI f (cRowInit CR CB) := by
  intro cdv A outer s H E hr args M P0 ⟨b, rows, shares, e1, e2, few, hs, hP⟩
  subst e1
  subst e2
  have hu := hr.units
  refine sds_cons (sd_if (td_neI hu (ed_len hl (ev 2 rfl ⟨dI shares, shares.length, rfl, by simp [LenOk, dI], ed_len hl (ed_propp GN hr (ev 1 rfl ⟨_, rfl, insR_dat (by decide), b, rows, rfl, rfl, few, .lst ((names rows).map .str), rows.length, rfl, by simp [LenOk, names], _, _, rfl, rfl, fun hb => ?_, fun hb => sds_nil ?_⟩))⟩))))
  · rw [hs] at hb
    simp at hb
  refine sds_cons (sd_fldN cl nt (ev 1 rfl (ev 0 rfl ⟨_, _, _, _, rfl, rfl, rfl, by decide, by decide, ?_⟩)))
  refine sds_one (sd_fldN cl ns (ed_tuple ht (ev 2 rfl ⟨_, rfl, ev 0 rfl ⟨_, _, _, _, rfl, rfl, rfl, by decide, by decide, ?_⟩⟩)))
  exact pn1 hP rfl
theorem body_book {f CR CB : Addr} (cl : Cls K CR) (nt : NoAttr K CR "told_by") : BodyOk P w K mg base 0 ["self"] ["self"] "Row.book" s_Row_book f (cBook CR CB) := by
  intro cdv A outer s H E hr args M P0 ⟨b, rows, shares, e1, e2, hP⟩
  subst e1
  subst e2
  exact sds_one (sd_ret (ed_fld cl nt (ev 0 rfl (.inl ⟨_, _, _, rfl, rfl, ret_dat (po0 hP)⟩))))
theorem body_coefs {f CR CB : Addr} (cl : Cls K CR) (nt : NoAttr K CR "shares") (hl : mg "list" = none) : BodyOk P w K mg base 0 ["self"] ["self"] "Row.coefficients" s_Row_coefficients f (cCoefs CR CB) := by
  intro cdv A outer s H E hr args M P0 ⟨b, rows, shares, e1, e2, hP⟩
  subst e1
  subst e2
  exact sds_one (sd_retn (en_list hl (ed_fld cl nt (ev 0 rfl (.inl ⟨_, _, _, rfl, rfl, _, _, rfl, rfl, rfl, Nat.zero_le _, po0 hP⟩)))))
theorem body_chknum {f : Addr} : BodyOk P w K mg base 0 ["number", "least"] ["number", "least"] "check_number" s_check_number f cChkNum := by
  intro cdv A outer s H E hr args M P0 ⟨a, l, e1, e2, h, hP⟩
  subst e1
  subst e2
  refine sds_one (sd_if (td_lt (ev 0 rfl (ev 1 rfl ⟨_, _, rfl, rfl, trivial, _, rfl, fun hb => ?_, fun _ => sds_nil (pn0 hP)⟩))))
  have := of_decide_eq_true hb
  omega
theorem body_system {f CR CB CS : Addr} (hrg : mg "range" = none) (GB : PropG P w K mg base 1 CR "book" (cBook CR CB)) (GC : PropG P w K mg base 1 CR "coefficients" (cCoefs CR CB)) (Gb : PropG P w K mg base 1 CB "base" (cBase CB)) (GS : FnG P w K mg base 1 "starts_of" (cStarts CB)) (GM : FnG P w K mg base 3 "matrix_of" (cMatrix CB)) (GI : MakeG P w K mg base 1 "System" CS (cSysInit CS)) :
    BodyOk P w K mg base 3 ["row", "book", "rest"] ["row"] "system_of" s_system_of f (cSystem CR CB CS) := by
  intro cdv A outer s H E hr args M P0 ⟨g, b, rows, shares, e1, e2, ok, hP⟩
  subst e1
  subst e2
  have few := ok.bk.few
  have hb := ok.bk.base
  refine sds_cons (sd_set (i := 1) (ed_propp GB (hr.mono (by decide)) (ev 0 rfl ⟨_, rfl, insR_dat (by decide), b, rows, shares, rfl, rfl, ?_⟩)) sc_system_of.nd)
  refine sds_one (sd_retn (en_make GI (hr.mono (by decide)) (ad_cons (ed_callp GS (hr.mono (by decide)) (ad_cons (ev 1 rfl (ad_nil ⟨[_], rfl, b, rows, rfl, rfl, few, ad_cons (ed_of_en (en_lc (own := [("rest", 2)]) (t := .one 2) sc_system_of.nd (blkOk_by (N := ["row", "book", "rest"]) (sc := defScope s_system_of) (by decide +kernel)) (fun s H C cl fp => tg_name sc_system_of.nd) ?_))⟩)))))))
  refine id_range1 hrg (ed_propp Gb (hr.mono (by decide)) (ev 1 rfl ⟨_, rfl, insR_dat (by decide), b, rows, rfl, rfl, b, rfl, by omega, by omega, ?_⟩))
  refine lcd_map (List.range b) (fun i => .int (0 + (i : Nat))) (fun i => dM (matOf rows i)) rfl (by rw [List.length_range]; exact szl (by omega)) ?_ (fun acc => trivial) ?_
  · intro i hi acc
    have hi := List.mem_range.mp hi
    refine ⟨_, rfl, fun s H C cl fp => ed_callp GM hr (ad_cons (ev 1 rfl (ad_cons (ev 2 rfl (ad_nil ⟨[_, _], rfl, g, b, rows, i, ?_, rfl, ok.bk, hi, rfl, rfl⟩)))))⟩
    simp
  · refine ad_cons (ed_propp GC (hr.mono (by decide)) (ev 0 rfl ⟨_, rfl, insR_dat (by decide), b, rows, shares, rfl, rfl, ad_nil ⟨[_, _, _], rfl, _, _, _, rfl, rfl, rfl, _, _, rfl, rfl, Nat.zero_le _, po0 ?_⟩⟩))
    simpa [dSys, sysOf, dMs, Function.comp_def] using hP
end
end Fb
set_option Elab.async false
set_option linter.all false
set_option maxRecDepth 100000
set_option maxHeartbeats 2000000
/-! The recurrence. -/
namespace Fb
open PySem L2 Dl
def vals (S : Sys) (bl : List Nat) (col : List Int) (m : Nat) : List Int := (List.range m).map fun t => dot S.factors (S.rep bl t col)
def unitL (n t : Nat) : List Int := (List.range n).map fun i => if t = i then 1 else 0
def vecAt (vs : List Int) (size t : Nat) : List Int := (vs.drop t).take size ++ unitL (size + 1) t
def recOut (shares : List Int) (t : Nat) : List Int := (List.range t).map fun back => (-(shares.getD (t - 1 - back) 0)).fdiv (shares.getD t 0)
def recGo (size : Nat) (vs : List Int) : Nat → Nat → Lines → List Int
  | 0, _, _ => []
  | f + 1, t, ls =>
    if ((restV ls (vecAt vs size t)).take size).any (· != 0) = true then recGo size vs f (t + 1) (takeV ls (restV ls (vecAt vs size t))).2
    else recOut ((restV ls (vecAt vs size t)).drop size) t
/-- a line's reduction stays within the model -/
structure StepOk (n : Nat) (ls : Lines) (v : List Int) : Prop where
  ex : ∃ b, LinesOk n b ls ∧ Bd b v ∧ (ls.length + 2) * (b + 2) ≤ 60000000
  dv : DivOk (ls.foldl redBy v)
def RecOk (size : Nat) (vs : List Int) : Nat → Nat → Lines → Prop
  | 0, _, _ => True
  | f + 1, t, ls => StepOk (2 * size + 1) ls (vecAt vs size t) ∧
    (((restV ls (vecAt vs size t)).take size).any (· != 0) = true → StepOk (2 * size + 1) ls (restV ls (vecAt vs size t)) ∧ RecOk size vs f (t + 1) (takeV ls (restV ls (vecAt vs size t))).2) ∧
    (((restV ls (vecAt vs size t)).take size).any (· != 0) = false → (restV ls (vecAt vs size t)).getD (size + t) 0 ≠ 0 ∧ ∀ i, i < t → Builtin.divisionGoesByPylong (-((restV ls (vecAt vs size t)).getD (size + i) 0)) ((restV ls (vecAt vs size t)).getD (size + t) 0) = false)
def recOf (size : Nat) (vs : List Int) : List Int := recGo size vs (size + 1) 0 []
def rowVals (b : Nat) (rows : List NR) (shares : List Int) (head : Nat) (bl : List Nat) : List Int := vals (sysOf b rows shares) bl ((sysOf b rows shares).col head) (2 * rows.length + 1)
def cRecur (CR CB : Addr) : Ct := fun args M P => ∃ g b rows shares, ∃ (head : Nat) (bl : List Nat), args = [.dat (dRow CR CB b rows shares), .dat (.int (head : Nat)), .dat (dN bl)] ∧ M = [] ∧ RowOk g b rows shares ∧ FarOk g b head bl (2 * rows.length + 1) ∧ RecOk rows.length (rowVals b rows shares head bl) (rows.length + 1) 0 [] ∧ P true (dI (recOf rows.length (rowVals b rows shares head bl))) []
end Fb
set_option Elab.async false
set_option linter.all false
set_option maxRecDepth 100000
set_option maxHeartbeats 4000000
namespace Fb
open PySem L2 Dl
theorem eqD_dN (xs ys : List Nat) : eqD (dN xs) (dN ys) = decide (xs = ys) := eqD_map (fun a b => by
  rw [eqD_int']
  by_cases h : a = b <;> simp [h]
  omega) xs ys
theorem okD_dN (xs : List Nat) : okD (dN xs) = true := (okN_map (k := 0) fun x _ => okN_int).ok
section
variable {P : Program} {w : World} {K : PySem.W.Frag} {mg : Str → Option Value} {base : Heap}
theorem body_chkblock {f CR CB : Addr} (he : mg "enumerate" = none) (GN : FnG P w K mg base 1 "check_number" cChkNum) (GB : PropG P w K mg base 1 CR "book" (cBook CR CB)) (Gb : PropG P w K mg base 1 CB "base" (cBase CB)) : BodyOk P w K mg base 2 ["row", "head", "block", "spot", "figure"] ["row", "head", "block"] "check_block" s_check_block f (cChkBlock CR CB) := by
  intro cdv A outer s H E hr args M P0 ⟨b, rows, shares, head, bl, e1, e2, hne, hl, hlt, hP⟩
  subst e1
  subst e2
  have hu := hr.units
  refine sds_cons (sd_expr (ed_callp GN (hr.mono (by decide)) (ad_cons (ev 1 rfl (ad_cons (ed_int (ad_nil ⟨[_, _], rfl, head, 0, rfl, rfl, by omega, ?_⟩)))))))
  refine sds_cons (sd_if (td_eq hu (ev 2 rfl (ed_lst (ad_nil ⟨[], rfl, Nat.zero_le _, dN bl, dN [], rfl, rfl, okD_dN _, okD_dN _, _, rfl, fun hb => ?_, fun hb => sds_nil ?_⟩)))))
  · rw [eqD_dN] at hb
    simp [hne] at hb
  refine sds_one (sd_forF (t := .tup [3, 4]) (tg_tup (tgs_cons (tgs_cons tgs_nil sc_check_block.nd) sc_check_block.nd)) (id_enum he (ev 2 rfl ⟨_, rfl, ?_⟩)))
  refine ⟨fun i c => c = ([.dat (dRow CR CB b rows shares), .dat (.int (head : Nat)), .dat (dN bl), .un, .un], []), .of rfl, fun i c d hd hI => ?_, fun c hI => ?_⟩
  · subst hI
    rw [enumD_get] at hd
    cases hx : (bl.map fun n => D.int (n : Nat))[i]? with
    | none =>
      rw [hx] at hd
      cases hd
    | some x =>
      rw [hx] at hd
      cases hd
      obtain ⟨r, hx', rfl⟩ := map_get hx
      have hrb := hlt r (List.mem_of_getElem? hx')
      refine ⟨rfl, _, rfl, ?_⟩
      refine sds_one (sd_if (td_not (td_chain op_le op_lt (ed_int (ev 4 rfl ⟨_, _, rfl, rfl, fun _ => ?_, fun hb => ?_⟩)))))
      · refine ed_propp Gb (hr.mono (by decide)) (ed_propp GB (hr.mono (by decide)) (ev 0 rfl ⟨_, rfl, insR_dat (by decide), b, rows, shares, rfl, rfl, _, rfl, insR_dat (by decide), b, rows, rfl, rfl, _, rfl, fun hb => ?_, fun _ => sds_nil ?_⟩))
        · simp at hb
          omega
        · exact UpG.by rfl ⟨.inl rfl, .inl rfl, .inl rfl, .inr rfl, .inr rfl, trivial⟩
      · simp at hb
  · subst hI
    exact ⟨rfl, pn0 hP⟩
theorem body_behind {f CS : Addr} (GO : MethG P w K mg base 2 CS "follower" (cFol CS)) : BodyOk P w K mg base 2 ["system", "column", "block", "figure"] ["system", "column", "block"] "behind_block" s_behind_block f (cBehind CS) := by
  intro cdv A outer s H E hr args M P0 ⟨S, n, g, b, col, bl, e1, e2, ok, hc, hlt, hg, hP⟩
  subst e1
  subst e2
  refine sds_cons (sd_forF (t := .one 3) (tg_name sc_behind_block.nd) (id_list (ev 2 rfl ⟨_, rfl, ?_⟩)))
  refine ⟨fun i c => c = ([.dat (dSys CS S), .dat (dI ((bl.take i).foldl S.fol col)), .dat (dN bl), .un], []), .of rfl, fun i c d hd hI => ?_, fun c hI => ?_⟩
  · subst hI
    obtain ⟨x, hx, rfl⟩ := map_get hd
    have hi := (List.getElem?_eq_some_iff.mp hx).1
    have hxm := List.mem_of_getElem? hx
    have step := foldl_take (f := S.fol) (b := col) hx
    have key : ∀ j, j ≤ bl.length → Bd (b + j * (g + 7)) ((bl.take j).foldl S.fol col) := by
      intro j
      induction j with
      | zero => intro _; simpa using hc
      | succ j ih =>
        intro hj
        have hy : bl[j]? = some bl[j] := List.getElem?_eq_getElem (by omega)
        rw [foldl_take hy]
        refine (fol_ok ok (hlt _ (List.getElem_mem (by omega))) (ih (by omega))).2.mono ?_
        rw [Nat.succ_mul]
        omega
    have k2 := key i (by omega)
    have hm : (i + 1) * (g + 7) ≤ (bl.length + 1) * (g + 7) := Nat.mul_le_mul_right _ (by omega)
    rw [Nat.succ_mul] at hm
    generalize (bl.take i).foldl S.fol col = u at *
    refine ⟨rfl, _, rfl, ?_⟩
    refine sds_one (sd_set (i := 1) (ed_methp GO hr (ev 0 rfl ⟨_, rfl, insR_dat (by decide), ad_cons (ev 1 rfl (ad_cons (ev 3 rfl (ad_nil ⟨[_, _], rfl, S, n, g, _, x, u, rfl, rfl, ok, k2, by omega, hlt x hxm, ?_⟩))))⟩)) sc_behind_block.nd)
    refine UpG.by rfl ⟨.inl rfl, .inl ?_, .inl rfl, .inr rfl, trivial⟩
    rw [step]
  · subst hI
    rw [List.length_map, List.take_length]
    exact ⟨rfl, sds_one (sd_ret (ev 1 rfl (ret_dat (po0 hP))))⟩
end
end Fb
set_option Elab.async false
set_option linter.all false
set_option maxRecDepth 100000
set_option maxHeartbeats 4000000
namespace Fb
open PySem L2 Dl
theorem cut_mid (xs : List D) (t k : Nat) (h : t + k ≤ xs.length) : cutD xs (some (t : Nat)) (some ((t : Int) + (k : Nat))) = (xs.drop t).take k := by
  unfold cutD
  rw [show ((t : Int) + (k : Nat)) = ((t + k : Nat) : Int) by omega, HT.sIx_nat, HT.sIx_nat, Nat.min_eq_left h, Nat.min_eq_left (show t ≤ xs.length by omega), Nat.add_sub_cancel_left]
theorem cut_take (xs : List D) (k : Nat) (h : k ≤ xs.length) : cutD xs none (some (k : Nat)) = xs.take k := by
  unfold cutD
  rw [HT.sIx_nat, HT.sIx_none, Nat.min_eq_left h]
  simp
theorem cut_drop (xs : List D) (k : Nat) (h : k ≤ xs.length) : cutD xs (some (k : Nat)) none = xs.drop k := by
  unfold cutD
  rw [HT.sIx_nat, HT.sIx_none, Nat.min_eq_left h]
  rw [List.take_of_length_le (by simp)]
theorem vecAt_len {vs : List Int} {size t : Nat} (h : t + size ≤ vs.length) : (vecAt vs size t).length = 2 * size + 1 := by
  simp [vecAt, unitL]
  omega
theorem restV_len {ls : Lines} {v : List Int} {n b : Nat} (hv : v.length = n) (hb : Bd b v) (lo : LinesOk n b ls) : (restV ls v).length = n := by
  obtain ⟨o1, _⟩ := fold_ok hv hb lo ls.length (Nat.le_refl _)
  rw [List.take_length] at o1
  rw [restV, primitive]
  split
  · rw [List.length_map, o1]
  · exact o1
section
variable {P : Program} {w : World} {K : PySem.W.Frag} {mg : Str → Option Value} {base : Heap}
theorem body_recurrence {f CR CB CS CP : Addr} (cl : Cls K CS) (nf : NoAttr K CS "factors") (ns : NoAttr K CS "starts") (hrg : mg "range" = none) (hl : mg "len" = none) (hi : mg "int" = none) (hany : mg "any" = none)
    (G1 : FnG P w K mg base 3 "check_block" (cChkBlock CR CB)) (G3 : FnG P w K mg base 4 "system_of" (cSystem CR CB CS)) (G4 : MethG P w K mg base 3 CS "column_at" (cColAt CS)) (G5 : FnG P w K mg base 3 "behind_block" (cBehind CS)) (G6 : FnG P w K mg base 1 "dot" cDot) (G7 : SpnG P w K mg base 1 "Span" CP "lines") (G8 : MethG P w K mg base 2 CP "rest" (cRest CP)) (G9 : MethG P w K mg base 3 CP "take" (cTake CP)) :
    BodyOk P w K mg base 4 ["row", "head", "block", "system", "size", "column", "values", "turn", "span", "units", "left", "shares", "other", "back"] ["row", "head", "block"] "recurrence" s_recurrence f (cRecur CR CB) := by
  intro cdv A outer s H E hr args M P0 ⟨g, b, rows, shares, head, bl, e1, e2, ok, far, rok, hP⟩
  subst e1
  subst e2
  have hu := hr.units
  have sok := sysOf_ok ok.bk ok.len ok.bd
  have few := ok.bk.few
  have hm := ok.sys
  have hf := far.few
  have hbits := far.bits
  refine sds_cons (sd_expr (ed_callp G1 (hr.mono (by decide)) (ad_cons (ev 0 rfl (ad_cons (ev 1 rfl (ad_cons (ev 2 rfl (ad_nil ⟨[_, _, _], rfl, b, rows, shares, head, bl, rfl, rfl, far.ne, far.len, far.lt, ?_⟩)))))))))
  refine sds_cons (sd_set (i := 3) (ed_callp G3 hr (ad_cons (ev 0 rfl (ad_nil ⟨[_], rfl, g, b, rows, shares, rfl, rfl, ok, ?_⟩)))) sc_recurrence.nd)
  have hcol := col_ok sok head
  rw [hm] at hcol
  have hfl : (figL b head).length = (figR b head).length := by simp [figL]
  rw [hfl] at hcol
  generalize hn : rows.length = n at *
  have hmul : ((figR b head).length + (2 * n + 1 + 1) * bl.length + 5) * (g + 14) = (figR b head).length * (g + 14) + (2 * n + 1 + 1) * (bl.length * (g + 14)) + 5 * (g + 14) := by
    rw [Nat.add_mul, Nat.add_mul, Nat.mul_assoc]
  refine sds_cons (sd_pars (i := 4) (j := 5) (l := 6) (ad_cons (ed_len hl (ed_fld cl ns (ev 3 rfl (.inl ⟨_, _, _, rfl, rfl, dI (rows.map NR.start), n, rfl, by simp [LenOk, dI, hn], ad_cons (ed_methp G4 (hr.mono (by decide)) (ev 3 rfl ⟨_, rfl, insR_dat (by decide), ad_cons (ev 1 rfl (ad_nil ⟨[_], rfl, sysOf b rows shares, n, g + 7, head, rfl, rfl, sok, by rw [hm]; exact hf, ?_, ad_cons (ed_new (en_lst (ad_nil ⟨[], rfl, Nat.zero_le _, ad_nil ⟨_, _, _, rfl, ?_⟩⟩)))⟩))⟩))⟩))))) sc_recurrence.nd)
  · rw [hm, show g + 7 + 7 = g + 14 from rfl, Nat.add_mul]
    omega
  have hrep := fun j => rep_ok sok (bl := bl) (by rw [hm]; exact far.lt) hcol.1 hcol.2 j
  simp only [show g + 7 + 7 = g + 14 from rfl] at hrep
  generalize hS : sysOf b rows shares = S at *
  have hSf : S.factors = shares := by rw [← hS]; rfl
  generalize hc0 : S.col head = c0 at *
  refine sds_cutF (fun c => c = ([.dat (dRow CR CB b rows shares), .dat (.int (head : Nat)), .dat (dN bl), .dat (dSys CS S), .dat (.int (n : Nat)), .un, .cel 0, .un, .un, .un, .un, .un, .un, .un], [.lst ((vals S bl c0 (2 * n + 1)).map .int)])) (sd_forF (t := .one 7) (tg_name sc_recurrence.nd) (id_range1 hrg (ed_add (ed_mul (ed_int (ev 4 rfl ⟨mulB_of (a := 2) (b := 10) (by decide) (by omega) (by decide), ed_int ?_⟩))))) ) ?_
  · refine ⟨_, rfl, by omega, by omega, ?_⟩
    refine ⟨fun i c => c = ([.dat (dRow CR CB b rows shares), .dat (.int (head : Nat)), .dat (dN bl), .dat (dSys CS S), .dat (.int (n : Nat)), .dat (dI (S.rep bl i c0)), .cel 0, .un, .un, .un, .un, .un, .un, .un], [.lst ((vals S bl c0 i).map .int)]), .of rfl, fun i c d hd hI => ?_, fun c hI => ?_⟩
    · subst hI
      rw [rangeD_map] at hd
      obtain ⟨x, hx, rfl⟩ := map_get hd
      have hi : i < 2 * n + 1 := by
        have := (List.getElem?_eq_some_iff.mp hx).1
        simp at this
        omega
      refine ⟨trivial, _, rfl, ?_⟩
      obtain ⟨r1, r2⟩ := hrep i
      have hle : (i + 1 + 1) * (bl.length * (g + 14)) ≤ (2 * n + 1 + 1) * (bl.length * (g + 14)) := Nat.mul_le_mul_right _ (by omega)
      rw [Nat.succ_mul, Nat.succ_mul] at hle
      have hvl : ((vals S bl c0 i).map D.int).length = i := by simp [vals]
      refine sds_cons (sd_expr (ed_append (ev 6 rfl ⟨0, _, rfl, rfl, ed_callp G6 (hr.mono (by decide)) (ad_cons (ed_fld cl nf (ev 3 rfl (.inl ⟨_, _, _, rfl, rfl, ad_cons (ev 5 rfl (ad_nil ⟨[_, _], rfl, S.factors, _, g + 7, _, .inl rfl, rfl, by rw [hSf]; exact ok.bd, r2, by omega, ?_, _, _, rfl, rfl, ?_, ?_⟩))⟩))))⟩)))
      · rw [hSf, ok.len]
        omega
      · rw [hvl]
        exact szlt (by omega)
      · refine sds_one (sd_set (i := 5) (ed_callp G5 (hr.mono (by decide)) (ad_cons (ev 3 rfl (ad_cons (ev 5 rfl (ad_cons (ev 2 rfl (ad_nil ⟨[_, _, _], rfl, S, n, g + 7, _, _, bl, rfl, rfl, sok, r2, by rw [hm]; exact far.lt, ?_, ?_⟩)))))))) sc_recurrence.nd)
        · rw [show g + 7 + 7 = g + 14 from rfl, Nat.succ_mul bl.length]
          omega
        · refine UpG.by (e0 := [.dat (dRow CR CB b rows shares), .dat (.int (head : Nat)), .dat (dN bl), .dat (dSys CS S), .dat (.int (n : Nat)), .dat (dI (S.rep bl (i + 1) c0)), .cel 0, .un, .un, .un, .un, .un, .un, .un]) ?_ ⟨.inl rfl, .inl rfl, .inl rfl, .inl rfl, .inl rfl, .inl rfl, .inl rfl, .inr rfl, .inl rfl, .inl rfl, .inl rfl, .inl rfl, .inl rfl, .inl rfl, trivial⟩
          show (_, [Cell.lst ((vals S bl c0 i).map D.int ++ [D.int (dot S.factors (S.rep bl i c0))])]) = (_, [Cell.lst ((vals S bl c0 (i + 1)).map D.int)])
          rw [vals, vals, List.range_succ]
          simp
    · subst hI
      rw [show (rangeD 0 ((2 * (n : Int) + 1)).toNat).length = 2 * n + 1 by simp [rangeD]; omega]
      refine ⟨trivial, UpF.by rfl ⟨.inl rfl, .inl rfl, .inl rfl, .inl rfl, .inl rfl, .inr rfl, .inl rfl, .inl rfl, .inl rfl, .inl rfl, .inl rfl, .inl rfl, .inl rfl, .inl rfl, trivial⟩⟩
  · rintro c rfl
    have hvs : rowVals b rows shares head bl = vals S bl c0 (2 * n + 1) := by rw [rowVals, hS, hc0, hn]
    rw [hvs] at rok hP
    have hvl : (vals S bl c0 (2 * n + 1)).length = 2 * n + 1 := by simp [vals]
    generalize vals S bl c0 (2 * n + 1) = vs at *
    refine sds_cons (sd_set (i := 8) (ed_mkspn G7 (hr.mono (by decide)) ?_) sc_recurrence.nd)
    refine sds_cons (sd_forF (t := .one 7) (tg_name sc_recurrence.nd) (id_range1 hrg (ed_add (ev 4 rfl (ed_int ⟨_, rfl, by omega, by omega, ?_⟩)))))
    refine ⟨fun i c => ∃ ls, c = ([.dat (dRow CR CB b rows shares), .dat (.int (head : Nat)), .dat (dN bl), .dat (dSys CS S), .dat (.int (n : Nat)), .un, .cel 0, .un, .spn CP "lines" 1, .un, .un, .un, .un, .un], [.lst (vs.map .int), .lst (dLines ls)]) ∧ recGo n vs (n + 1 - i) i ls = recGo n vs (n + 1) 0 [] ∧ RecOk n vs (n + 1 - i) i ls, .of ⟨[], rfl, rfl, rok⟩, fun i c d hd hI => ?_, fun c hI => ?_⟩
    · obtain ⟨ls, hI, hgo, hok⟩ := hI
      subst hI
      rw [rangeD_map] at hd
      obtain ⟨x, hx, ed⟩ := map_get hd
      rw [Int.zero_add] at ed
      subst ed
      have hi' := (List.getElem?_eq_some_iff.mp hx).1
      have hin : i < n + 1 := by
        simp at hi'
        omega
      have hxi : x = i := by
        have := (List.getElem?_eq_some_iff.mp hx).2
        simpa using this.symm
      subst hxi
      refine ⟨trivial, _, rfl, ?_⟩
      rw [show n + 1 - x = (n - x) + 1 by omega] at hgo hok
      obtain ⟨⟨⟨B, lo, hb, hz⟩, hdv⟩, ok1, ok2⟩ := hok
      have vl := vecAt_len (size := n) (t := x) (vs := vs) (by omega)
      have rl := restV_len vl hb lo
      rw [recGo] at hgo
      refine sds_cons (sd_setLc (i := 9) (own := [("other", 12)]) (t := .one 12) sc_recurrence.nd (blkOk_by (N := ["row", "head", "block", "system", "size", "column", "values", "turn", "span", "units", "left", "shares", "other", "back"]) (sc := defScope s_recurrence) (by decide +kernel)) (fun s H C cl fp => tg_name sc_recurrence.nd) ?_)
      refine id_range1 hrg (ed_add (ev 4 rfl (ed_int ⟨_, rfl, by omega, by omega, ?_⟩)))
      refine lcd_map (List.range (n + 1)) (fun i => .int (0 + (i : Nat))) (fun i => .int (if x = i then 1 else 0)) ?_ (by rw [List.length_range]; exact szl (by omega)) ?_ (fun acc => trivial) (.inr ?_)
      · rw [rangeD_map]
        congr 2
      · intro j _ acc
        refine ⟨_, rfl, fun s H C cl fp => ed_int1 hi (ed_eqI hu (ev 7 rfl (ev 12 rfl ⟨_, _, rfl, rfl, _, _, rfl, rfl, ?_, rfl⟩)))⟩
        by_cases e : x = j
        · subst e
          simp
        · have e3 : ¬ (x : Int) = (j : Int) := by omega
          rw [if_neg e]
          simp [e3]
      have eun : D.lst ((List.range (n + 1)).map fun i => .int (if x = i then 1 else 0)) = dI (unitL (n + 1) x) := by simp [dI, unitL, Function.comp_def]
      rw [eun]
      have hvec : ∀ d, d = D.lst (((vs.map D.int).drop x).take n ++ (unitL (n + 1) x).map .int) → d = dI (vecAt vs n x) := by
        intro d e
        rw [e, dI, vecAt, List.map_append, List.map_take, List.map_drop]
      refine sds_cons (sd_set (i := 10) (ed_meth G8 (hr.mono (by decide)) (ev 8 rfl ⟨.inr ⟨_, _, rfl, by decide +kernel⟩, ad_cons (ed_of_en (en_cat (ed_of_en (en_slice (ev 6 rfl (od_some (ev 7 rfl ⟨_, rfl, od_some (ed_add (ev 7 rfl (ev 4 rfl ⟨_, rfl, _, rfl, ev 9 rfl ⟨_, _, rfl, rfl, ?_, ad_nil ⟨[1], [.spn CP "lines" 0, .dat (dI (vecAt vs n x))], ⟨?_, by decide, fun k hk => ⟨_, by cases List.mem_singleton.mp hk; rfl, rfl⟩, fun e he => ?_⟩, ls, vecAt vs n x, 2 * n + 1, B, rfl, rfl, vl, by omega, lo, hb, hz, hdv, ?_⟩⟩⟩)))⟩)))))))⟩)) sc_recurrence.nd)
      · rw [cut_mid _ _ _ (by rw [List.length_map]; omega)]
        simp [unitL]
        exact szl (by omega)
      · rw [cut_mid _ _ _ (by rw [List.length_map]; omega), hvec _ rfl]
        rfl
      · rcases List.mem_cons.mp he with rfl | he
        · exact Nat.zero_lt_one
        · cases List.mem_singleton.mp he
          trivial
      generalize hL : restV ls (vecAt vs n x) = L at *
      have hLn : (L.map D.int).length = 2 * n + 1 := by rw [List.length_map, rl]
      refine sds_cons (sd_if (td_not (td_val (ed_anyI hany (ed_of_en (en_slice (ev 10 rfl (od_none (od_some (ev 4 rfl ⟨_, rfl, _, rfl, L.take n, ?_, _, rfl, fun hb => ?_, fun hb => ?_⟩))))))))))
      · rw [cut_take _ _ (by omega), ← List.map_take]
        rfl
      · have hb' : (L.take n).any (· != 0) = false := by simpa using hb
        obtain ⟨d1, d2⟩ := ok2 hb'
        rw [if_neg (by rw [hb']; decide)] at hgo
        have hg : ∀ i, i ≤ n → L2.atI ((L.drop n).map D.int) (i : Nat) = some (.int (L.getD (n + i) 0)) := by
          intro i hi
          refine atI_nat ?_
          rw [List.getElem?_map, List.getElem?_drop, List.getD_eq_getElem?_getD, List.getElem?_eq_getElem (show n + i < L.length by omega)]
          rfl
        refine sds_cons (sd_set (i := 11) (ed_of_en (en_slice (ev 10 rfl (od_some (ev 4 rfl ⟨_, rfl, od_none ⟨_, rfl, ?_⟩⟩))))) sc_recurrence.nd)
        rw [cut_drop _ _ (by omega), ← List.map_drop]
        refine sds_one (sd_retn (en_lc (own := [("back", 13)]) (t := .one 13) sc_recurrence.nd (blkOk_by (N := ["row", "head", "block", "system", "size", "column", "values", "turn", "span", "units", "left", "shares", "other", "back"]) (sc := defScope s_recurrence) (by decide +kernel)) (fun s H C cl fp => tg_name sc_recurrence.nd) ?_))
        refine id_range1 hrg (ev 7 rfl ⟨_, rfl, by omega, by omega, ?_⟩)
        refine lcd_map (List.range x) (fun i => .int (0 + (i : Nat))) (fun back => .int ((-((L.drop n).getD (x - 1 - back) 0)).fdiv ((L.drop n).getD x 0))) rfl (by rw [List.length_range]; exact szl (by omega)) ?_ (fun acc => trivial) ?_
        · intro j hj acc
          have hj := List.mem_range.mp hj
          have ix : ((x : Int) - 1 - (0 + (j : Nat))) = ((x - 1 - j : Nat) : Int) := by omega
          have gd : ∀ i, (L.drop n).getD i 0 = L.getD (n + i) 0 := by
            intro i
            rw [List.getD_eq_getElem?_getD, List.getElem?_drop, List.getD_eq_getElem?_getD]
          refine ⟨_, rfl, fun s H C cl fp => ed_fdiv (ed_neg (ed_ix (ev 11 rfl (ed_sub (ed_sub (ev 7 rfl (ed_int ⟨_, _, rfl, rfl, trivial, ev 13 rfl ⟨_, _, rfl, rfl, trivial, _, by rw [ix]; exact hg _ (by omega), _, rfl, ed_ix (ev 11 rfl (ev 7 rfl ⟨_, hg x (by omega), _, _, rfl, rfl, ⟨d1, d2 _ (by omega)⟩, ?_, rfl⟩))⟩⟩)))))))⟩
          rw [gd, gd]
        · refine ⟨rfl, Nat.zero_le _, po0 ?_⟩
          have e : D.lst ((List.range x).map fun back => .int ((-((L.drop n).getD (x - 1 - back) 0)).fdiv ((L.drop n).getD x 0))) = dI (recOf n vs) := by
            rw [recOf, ← hgo, recOut, dI, List.map_map]
            rfl
          rw [e]
          exact hP
      · have hb' : (L.take n).any (· != 0) = true := by simpa using hb
        obtain ⟨⟨⟨B', lo', hbl, hz'⟩, hdv'⟩, ok3⟩ := ok1 hb'
        rw [if_pos hb'] at hgo
        refine sds_nil (sds_one (sd_expr (ed_meth G9 (hr.mono (by decide)) (ev 8 rfl ⟨.inr ⟨_, _, rfl, by decide +kernel⟩, ad_cons (ev 10 rfl (ad_nil ⟨[1], [.spn CP "lines" 0, .dat (dI L)], ⟨rfl, by decide, fun k hk => ⟨_, by cases List.mem_singleton.mp hk; rfl, rfl⟩, fun e he => ?_⟩, ls, L, 2 * n + 1, B', rfl, rfl, rl, by omega, lo', hbl, hz', hdv', ?_⟩))⟩))))
        · rcases List.mem_cons.mp he with rfl | he
          · exact Nat.zero_lt_one
          · cases List.mem_singleton.mp he
            trivial
        · refine UpG.by (e0 := [.dat (dRow CR CB b rows shares), .dat (.int (head : Nat)), .dat (dN bl), .dat (dSys CS S), .dat (.int (n : Nat)), .un, .cel 0, .un, .spn CP "lines" 1, .un, .un, .un, .un, .un]) ⟨_, rfl, ?_, ?_⟩ ⟨.inl rfl, .inl rfl, .inl rfl, .inl rfl, .inl rfl, .inl rfl, .inl rfl, .inr rfl, .inl rfl, .inr rfl, .inr rfl, .inl rfl, .inl rfl, .inl rfl, trivial⟩
          · rw [show n + 1 - (x + 1) = n - x by omega]
            exact hgo
          · rw [show n + 1 - (x + 1) = n - x by omega]
            exact ok3
    · obtain ⟨ls, hI, hgo, hok⟩ := hI
      subst hI
      rw [show (rangeD 0 ((n : Int) + 1).toNat).length = n + 1 by simp [rangeD], Nat.sub_self, recGo] at hgo
      refine ⟨trivial, sds_one (sd_retn (en_lst (ad_nil ⟨[], rfl, Nat.zero_le _, rfl, Nat.zero_le _, po0 ?_⟩)))⟩
      rw [recOf, ← hgo] at hP
      exact hP
end
end Fb
set_option Elab.async false
set_option linter.all false
set_option maxRecDepth 100000
set_option maxHeartbeats 2000000
/-! Remainders far away. -/
namespace Fb
open PySem L2 Dl
def applyM (m : List (List Int)) (c : List Int) (q : Int) : List Int := m.map fun l => (dot l c).fmod q
def transp (n : Nat) (m : List (List Int)) : List (List Int) := (List.range n).map fun j => m.map fun l => l.getD j 0
def chain (n : Nat) (a b : List (List Int)) (q : Int) : List (List Int) := a.map fun l => (transp n b).map fun c => (dot l c).fmod q
def farGo (n : Nat) (q : Int) (left : Nat) (m : List (List Int)) (c : List Int) : List Int :=
  if h : left = 0 then c else farGo n q (left / 2) (chain n m m q) (if left % 2 = 1 then applyM m c q else c)
termination_by left
decreasing_by exact Nat.div_lt_self (by omega) (by decide)
theorem farGo_zero {n : Nat} {q : Int} {m : List (List Int)} {c : List Int} : farGo n q 0 m c = c := by rw [farGo]; simp
theorem farGo_pos {n : Nat} {q : Int} {left : Nat} {m : List (List Int)} {c : List Int} (h : 0 < left) : farGo n q left m c = farGo n q (left / 2) (chain n m m q) (if left % 2 = 1 then applyM m c q else c) := by
  rw [farGo, dif_neg (by omega)]
/-- n lines of n numbers, all of at most b bits -/
structure MatOk (n b : Nat) (m : List (List Int)) : Prop where
  len : m.length = n
  row : ∀ l ∈ m, l.length = n ∧ Bd b l
theorem fmod_bd {x q : Int} {b : Nat} (h1 : 1 ≤ q) (h2 : q.natAbs < 2 ^ b) : (x.fmod q).natAbs < 2 ^ b := by
  have e : x.fmod q = x % q := Int.fmod_eq_emod_of_nonneg _ (by omega)
  have h3 := Int.emod_nonneg x (show q ≠ 0 by omega)
  have h4 := Int.emod_lt_of_pos x (show 0 < q by omega)
  rw [e]
  omega
theorem transp_ok {n b : Nat} {m : List (List Int)} (h : MatOk n b m) : MatOk n b (transp n m) where
  len := by simp [transp]
  row := fun l hl => by
    obtain ⟨j, _, rfl⟩ := List.mem_map.mp hl
    refine ⟨by rw [List.length_map, h.len], fun x hx => ?_⟩
    obtain ⟨r, hr, rfl⟩ := List.mem_map.mp hx
    exact getD_bd (h.row r hr).2 j
theorem chain_ok {n b c : Nat} {a m : List (List Int)} {q : Int} (ha : MatOk n b a) (h1 : 1 ≤ q) (h2 : q.natAbs < 2 ^ c) : MatOk n c (chain n a m q) where
  len := by rw [chain, List.length_map, ha.len]
  row := fun l hl => by
    obtain ⟨r, _, rfl⟩ := List.mem_map.mp hl
    refine ⟨by simp [transp], fun x hx => ?_⟩
    obtain ⟨y, _, rfl⟩ := List.mem_map.mp hx
    exact fmod_bd h1 h2
theorem applyM_ok {n b c : Nat} {m : List (List Int)} {v : List Int} {q : Int} (hm : MatOk n b m) (h1 : 1 ≤ q) (h2 : q.natAbs < 2 ^ c) : (applyM m v q).length = n ∧ Bd c (applyM m v q) := by
  refine ⟨by rw [applyM, List.length_map, hm.len], fun x hx => ?_⟩
  obtain ⟨y, _, rfl⟩ := List.mem_map.mp hx
  exact fmod_bd h1 h2
def cApplied : Ct := fun args M P => ∃ m v q n a b, args = [.dat (dM m), .dat (dI v), .dat (.int q)] ∧ M = [] ∧ MatOk n a m ∧ n ≤ 100 ∧ Bd b v ∧ a + b ≤ 134000000 ∧ q ≠ 0 ∧ P true (dI (applyM m v q)) []
def cChained : Ct := fun args M P => ∃ m v q n a b, args = [.dat (dM m), .dat (dM v), .dat (.int q)] ∧ M = [] ∧ MatOk n a m ∧ MatOk n b v ∧ 1 ≤ n ∧ n ≤ 12 ∧ a + b ≤ 134000000 ∧ q ≠ 0 ∧ P true (dM (chain n m v q)) []
/-- the block's matrix: the first figure's, the others' before it -/
def blockM (S : Sys) (n : Nat) (q : Int) (bl : List Nat) : List (List Int) := (bl.drop 1).foldl (fun m f => chain n (S.mats.getD f []) m q) (S.mats.getD (bl.getD 0 0) [])
def farOf (S : Sys) (n : Nat) (head : Nat) (bl : List Nat) (t : Nat) (q : Int) : Int := (dot S.factors (farGo n q t (blockM S n q bl) ((S.col head).map (·.fmod q)))).fmod q
def cFar (CR CB : Addr) : Ct := fun args M P => ∃ g b rows shares, ∃ (head : Nat) (bl : List Nat) (t : Nat) (q : Int), args = [.dat (dRow CR CB b rows shares), .dat (.int (head : Nat)), .dat (dN bl), .dat (.int (t : Nat)), .dat (.int q)] ∧ M = [] ∧ RowOk g b rows shares ∧ FarOk g b head bl 0 ∧ 1 ≤ rows.length ∧ rows.length ≤ 12 ∧ 1 ≤ q ∧ q.natAbs < 2 ^ 1000 ∧ P false (.int (farOf (sysOf b rows shares) rows.length head bl t q)) []
end Fb
set_option Elab.async false
set_option linter.all false
set_option maxRecDepth 100000
set_option maxHeartbeats 4000000
namespace Fb
open PySem L2 Dl
theorem toNat_fmod2 {n : Nat} : (n : Int).fmod 2 = ((n % 2 : Nat) : Int) := by
  rw [Int.fmod_eq_emod_of_nonneg _ (by omega)]
  rfl
theorem toNat_fdiv2 {n : Nat} : (n : Int).fdiv 2 = ((n / 2 : Nat) : Int) := by
  rw [Int.fdiv_eq_ediv_of_nonneg _ (by omega)]
  rfl
section
variable {P : Program} {w : World} {K : PySem.W.Frag} {mg : Str → Option Value} {base : Heap}
theorem sys_mat {n g : Nat} {S : Sys} (h : SysOk n g S) {r : Nat} (hr : r < S.mats.length) : MatOk n g (S.mats.getD r []) := ⟨(h.mem hr).1, (h.mem hr).2⟩
end
end Fb
set_option Elab.async false
set_option linter.all false
set_option maxRecDepth 100000
set_option maxHeartbeats 2000000
/-! The draws of a law. -/
namespace Fb
open PySem L2 Dl
/-- the digits left, the mixed number, how often it was mixed -/
def PoolOk (k : Nat) (d : List D) : Prop := ∃ a b c : Int, d = [.int a, .int b, .int c] ∧ 0 ≤ b ∧ b < 2 ^ 100 ∧ 0 ≤ c ∧ c ≤ (k : Nat)
theorem PoolOk.mono {j k : Nat} {d : List D} (h : PoolOk j d) (l : j ≤ k) : PoolOk k d := by
  obtain ⟨a, b, c, e, h1, h2, h3, h4⟩ := h
  exact ⟨a, b, c, e, h1, h2, h3, by omega⟩
def cPool : Ct := fun args M P => ∃ (ns : List Int) (spot : Nat), args = [.dat (.scr ns), .dat (.int (spot : Nat))] ∧ M = [] ∧ spot ≤ 1000 ∧ ∀ d, PoolOk 0 d → P true (.lst d) []
def cDraw : Ct := fun args M P => ∃ (k : Nat) (m : Int) (d : List D), args = [.cel 0, .dat (.int m)] ∧ M = [.lst d] ∧ PoolOk k d ∧ k ≤ 1000000000 ∧ 1 ≤ m ∧ m < 2 ^ 200 ∧ ∀ (v : Int) (d' : List D), 0 ≤ v → v < m → PoolOk (k + 1) d' → P false (.int v) [.lst d']
def cFigs : Ct := fun args M P => ∃ place base : Nat, args = [.dat (.int (place : Nat)), .dat (.int (base : Nat))] ∧ M = [] ∧ 2 ≤ base ∧ base ≤ 100 ∧ (figR base place).length ≤ 100000 ∧ P true (dN (figL base place)) []
def cTwice : Ct := fun args M P => ∃ many : Nat, args = [.dat (.int (many : Nat))] ∧ M = [] ∧ many ≤ 100000 ∧ P false (.int (2 ^ many : Nat)) []
end Fb
set_option Elab.async false
set_option linter.all false
set_option maxRecDepth 100000
set_option maxHeartbeats 4000000
namespace Fb
open PySem L2 Dl
theorem pow_ok {i : Int} {k : Nat} (h : i.natAbs < 2 ^ k) (hk : k ≤ 40000000) : CPowX i 3 := by
  refine ⟨by decide, ?_⟩
  have := intBits_le_iff.mpr h
  omega
section
variable {P : Program} {w : World} {K : PySem.W.Frag} {mg : Str → Option Value} {base : Heap}
theorem body_pool {f : Addr} (hl : mg "len" = none) (hmx : mg "max" = none) (ha : mg "abs" = none) (hi : mg "int" = none) : BodyOk P w K mg base 0 ["script", "spot", "cell"] ["script", "spot"] "_law_pool" s_Lpool f cPool := by
  intro cdv A outer s H E hr args M P0 ⟨ns, spot, e1, e2, hs, hP⟩
  subst e1
  subst e2
  refine sds_cons (sd_set (i := 2) (ed_int ?_) sc_Lpool.nd)
  refine sds_cutF (fun c => ∃ x : Int, c = ([.dat (.scr ns), .dat (.int (spot : Nat)), .dat (.int x)], [])) (sd_if (td_lt (ev 1 rfl (ed_len hl (ev 0 rfl ⟨_, ns.length, rfl, rfl, _, _, rfl, rfl, trivial, _, rfl, fun ht => ?_, fun hf => sds_nil (.of ⟨0, rfl⟩)⟩))))) ?_
  · have hlt : spot < ns.length := by
      have := of_decide_eq_true ht
      omega
    have g0 : L2.atI ns (spot : Int) = some ns[spot] := atI_nat (List.getElem?_eq_getElem hlt)
    exact sds_one (sd_set (i := 2) (ed_ix (ev 0 rfl (ev 1 rfl ⟨_, g0, .of ⟨_, rfl⟩⟩))) sc_Lpool.nd)
  · rintro c ⟨x, rfl⟩
    refine sds_one (sd_retn (en_lst (ad_cons (ed_max2 hmx (ed_int (ed_sub (ed_abs ha (ev 2 rfl ⟨x, rfl, ed_pow (ed_int (ed_int ⟨10, 18, rfl, rfl, ⟨by decide, by decide +kernel⟩, _, _, rfl, rfl, trivial, _, _, rfl, rfl, ad_cons ?_⟩))⟩))))))))
    refine ed_add (ed_mod (ed_int1 hi (ev 2 rfl ⟨_, x, rfl, rfl, ed_int ⟨_, _, rfl, rfl, show (2305843009213693951 : Int) ≠ 0 by decide, ed_mul (ed_int (ed_add (ev 1 rfl (ed_int ⟨mulB_of (a := 30) (b := 30) (by decide) (by omega) (by decide), ad_cons (ed_int (ad_nil ⟨[_, _, _], rfl, szl (by simp), rfl, Nat.zero_le _, po0 (hP _ ⟨_, _, 0, rfl, ?_, ?_, Int.le_refl _, Int.le_refl _⟩)⟩))⟩))))⟩⟩)))
    · rw [Int.fmod_eq_emod_of_nonneg _ (by decide)]
      have := Int.emod_nonneg x (show (2305843009213693951 : Int) ≠ 0 by decide)
      omega
    · rw [Int.fmod_eq_emod_of_nonneg _ (by decide)]
      have := Int.emod_lt_of_pos x (show (0 : Int) < 2305843009213693951 by decide)
      omega
theorem body_draw {f : Addr} (hi : mg "int" = none) : BodyOk P w K mg base 0 ["pool", "many", "drawn", "mixed"] ["pool", "many"] "_law_draw" s_Ldraw f cDraw := by
  intro cdv A outer s H E hr args M P0 ⟨k, m, d, e1, e2, ⟨a, b, c, e3, b1, b2, c1, c2⟩, hk, hm1, hm2, hP⟩
  subst e1
  subst e2
  subst e3
  have hm0 : m ≠ 0 := by omega
  have pyl : ∀ x : Int, Builtin.divisionGoesByPylong x m = false := fun x => PyProof.noPylong_of_log2 (by
    have h1 : m.natAbs < 2 ^ 200 := by omega
    have h2 := Nat.log2_lt (n := m.natAbs) (k := 200) (by omega)
    have h3 := h2.mpr h1
    omega)
  have rng : ∀ x : Int, 0 ≤ x.fmod m ∧ x.fmod m < m := fun x => by
    rw [Int.fmod_eq_emod_of_nonneg _ (by omega)]
    exact ⟨Int.emod_nonneg x hm0, Int.emod_lt_of_pos x (by omega)⟩
  refine sds_cons (sd_if (td_gt (ed_ix (ev 0 rfl (ed_int ⟨.int a, rfl, ed_int ⟨_, _, rfl, rfl, trivial, _, rfl, fun ht => ?_, fun hf => sds_nil ?_⟩⟩)))))
  · refine sds_cons (sd_set (i := 2) (ed_mod (ed_int1 hi (ed_ix (ev 0 rfl (ed_int ⟨.int a, rfl, _, a, rfl, rfl, ev 1 rfl ⟨_, _, rfl, rfl, hm0, ?_⟩⟩))))) sc_Ldraw.nd)
    refine sds_cons (sd_setix (ed_fdiv (ed_ix (ev 0 rfl (ed_int ⟨.int a, rfl, ev 1 rfl ⟨_, _, rfl, rfl, ⟨hm0, pyl a⟩, ev 0 rfl ⟨0, rfl, ed_int ⟨_, _, 0, 0, rfl, rfl, rfl, rfl, ?_⟩⟩⟩⟩)))))
    exact sds_one (sd_ret (ev 2 rfl (ret_dat (po1 (hP _ _ (rng a).1 (rng a).2 ⟨_, b, c, rfl, b1, b2, c1, by omega⟩) rfl))))
  · have k1 : (162259276829213363391578010288127 : Int) ≠ 0 := by decide
    have k2 : (170141183460469231731687303715884105727 : Int) ≠ 0 := by decide
    have n1 : b.natAbs < 2 ^ 100 := by omega
    have n2 : (c + 1).natAbs < 2 ^ 31 := by omega
    refine sds_cons (sd_setix (ed_add (ed_ix (ev 0 rfl (ed_int ⟨.int c, rfl, ed_int (ev 0 rfl ⟨0, rfl, ed_int ⟨_, _, 2, 2, rfl, rfl, rfl, rfl, ?_⟩⟩)⟩)))))
    refine sds_cons (sd_set (i := 3) (ed_mod (ed_int1 hi (ed_pow (ed_add (ed_ix (ev 0 rfl (ed_int ⟨.int b, rfl, ed_mul (ed_int (ed_ix (ev 0 rfl (ed_int ⟨.int (c + 1), rfl, mulB_of (a := 24) (b := 31) (by decide) n2 (by decide), ed_int ⟨_, _, rfl, rfl, pow_ok (k := 110) ?_ (by decide), _, _, rfl, rfl, ed_int ⟨_, _, rfl, rfl, k1, ?_⟩⟩⟩))))⟩))))))) sc_Ldraw.nd)
    · omega
    have m1 : ∀ x : Int, (x.fmod 162259276829213363391578010288127).natAbs < 2 ^ 107 := fun x => by
      rw [Int.fmod_eq_emod_of_nonneg _ (by decide)]
      have h1 := Int.emod_nonneg x k1
      have h2 := Int.emod_lt_of_pos x (show (0 : Int) < 162259276829213363391578010288127 by decide)
      omega
    have m1' := m1 ((b + 15485863 * (c + 1)) ^ (3 : Int).toNat)
    refine sds_cons (sd_set (i := 3) (ed_mod (ed_int1 hi (ed_pow (ed_add (ev 3 rfl (ed_mul (ed_int (ed_ix (ev 0 rfl (ed_int ⟨.int (c + 1), rfl, mulB_of (a := 25) (b := 31) (by decide) n2 (by decide), ed_int ⟨_, _, rfl, rfl, pow_ok (k := 110) ?_ (by decide), _, _, rfl, rfl, ed_int ⟨_, _, rfl, rfl, k2, ?_⟩⟩⟩)))))))))) sc_Ldraw.nd)
    · show (((b + 15485863 * (c + 1)) ^ (3 : Int).toNat).fmod 162259276829213363391578010288127 + 32452843 * (c + 1)).natAbs < 2 ^ 110
      omega
    have hq : ∀ x2 : Int, Builtin.divisionGoesByPylong x2 1048576 = false := fun x2 => PyProof.noPylong_small (by decide)
    refine sds_one (sd_ret (ed_mod (ed_int1 hi (ed_fdiv (ev 3 rfl (ed_int ⟨_, _, rfl, rfl, ⟨show (1048576 : Int) ≠ 0 by decide, hq _⟩, _, _, rfl, rfl, ev 1 rfl ⟨_, _, rfl, rfl, hm0, ret_dat (po1 (hP _ _ (rng _).1 (rng _).2 ⟨a, b, c + 1, rfl, b1, b2, by omega, by omega⟩) rfl)⟩⟩))))))
theorem body_lfigs {f : Addr} (hi : mg "int" = none) : BodyOk P w K mg base 0 ["number_here", "base_here", "found"] ["number_here", "base_here"] "_law_figures" s_Lfigures f cFigs := by
  intro cdv A outer s H E hr args M P0 ⟨place, b, e1, e2, hb, hb2, hf, hP⟩
  subst e1
  subst e2
  refine sds_cons (sd_set (i := 2) (ed_new (en_lst (ad_nil ⟨[], rfl, Nat.zero_le _, ?_⟩))) sc_Lfigures.nd)
  refine sds_cutF (fun c => c = ([.dat (.int (0 : Nat)), .dat (.int (b : Nat)), .cel 0], [.lst ((figL b place).map fun n => .int (n : Nat))])) (sd_whileF (m0 := place) (fun m c => ∃ ds : List Nat, c = ([.dat (.int (m : Nat)), .dat (.int (b : Nat)), .cel 0], [.lst (ds.map fun n => .int (n : Nat))]) ∧ (figR b m).reverse ++ ds = figL b place) ?_ ?_) ?_
  · exact .of ⟨[], rfl, by simp [figL]⟩
  · rintro m c ⟨ds, rfl, hd⟩
    refine td_gt (ev 0 rfl (ed_int ⟨_, _, rfl, rfl, trivial, _, rfl, fun ht => ?_, fun hf' => ?_⟩))
    · have hm : 0 < m := by
        have := of_decide_eq_true ht
        omega
      have hfm := figR_pos hm hb
      refine sds_cons (sd_expr (ed_insert (ev 2 rfl ⟨0, _, rfl, rfl, ed_int (ed_mod (ed_int1 hi (ev 0 rfl ⟨_, _, rfl, rfl, ev 1 rfl ⟨_, _, rfl, rfl, by omega, ?_⟩⟩)))⟩)))
      refine ⟨_, _, 0, rfl, rfl, rfl, ?_, by decide, by decide, ?_⟩
      · rw [List.length_map]
        have : ((figR b m).reverse ++ ds).length ≤ 100000 := by
          rw [hd]
          simpa [figL] using hf
        rw [hfm] at this
        simp at this
        exact szlt (by omega)
      · refine sds_one (sd_set (i := 0) (ed_fdiv (ev 0 rfl (ev 1 rfl ⟨_, _, rfl, rfl, ⟨by omega, PyProof.noPylong_small (by omega)⟩, ?_⟩))) sc_Lfigures.nd)
        refine UpG.of ⟨m / b, Nat.div_lt_self hm (by omega), m % b :: ds, ?_, ?_⟩
        · have e1 : (m : Int).fmod (b : Int) = ((m % b : Nat) : Int) := by
            rw [Int.fmod_eq_emod_of_nonneg _ (by omega)]
            rfl
          have e2 : (m : Int).fdiv (b : Int) = ((m / b : Nat) : Int) := by
            rw [Int.fdiv_eq_ediv_of_nonneg _ (by omega)]
            rfl
          show (_, _) = (_, _)
          simp [e1, e2]
        · rw [← hd, hfm]
          simp
    · have hm : m = 0 := by
        have := of_decide_eq_false hf'
        omega
      subst hm
      rw [figR_zero] at hd
      rw [← hd]
      exact .of rfl
  · rintro c rfl
    exact sds_one (sd_ret (ev 2 rfl (ret_cel (Nat.zero_le _) rfl rfl (po0 hP))))
end
end Fb
set_option Elab.async false
set_option linter.all false
set_option maxRecDepth 100000
set_option maxHeartbeats 2000000
/-! Dl part 16: the facts of the top, by names; the law's end. -/
namespace Dl
open PySem L2
/-- a def of the top -/
def FF (K : PySem.W.Frag) (mg : Str → Option Value) (x : Str) (st : Stmt) : Prop := ∃ f, mg x = some (.ref f) ∧ FunX K x x st f
section
variable {K : PySem.W.Frag} {h : Heap} {mg : Str → Option Value} {x qual : Str} {st : Stmt} {f p C : Addr} {oc : Value} {od an : Option Addr} {osl : Array (Option Value)} {kV doc pm cdv ct : Value}
theorem fx_fn (X : K.In h) (G : h.Ns mainGlobals mg) (a : PySem.W.nsIn K mainGlobals x = some (some (.ref f))) (l : K.lookup f = some ⟨oc, od, .func (PySem.W.fnOf x x (defArgs st) (defBody st) (defScope st) .none kV doc pm an cdv ct), osl⟩)
    (c : PySem.W.codeIn K cdv x = true) (k : PySem.W.keepIn K (.ref f) = true) : FF K mg x st := ⟨f, PySem.W.mg_of X G a, ⟨_, fun_mk l c k⟩⟩
/-- the defs of a class -/
def FI (K : PySem.W.Frag) (C : Addr) (qual : Str) (st : Stmt) : Prop := ∃ f, FunX K "__init__" qual st f ∧ Mk K C f
def FM (K : PySem.W.Frag) (C : Addr) (x qual : Str) (st : Stmt) : Prop := ∃ f, FunX K x qual st f ∧ Meth K C x f
def FP (K : PySem.W.Frag) (C : Addr) (x qual : Str) (st : Stmt) : Prop := ∃ p f, FunX K x qual st f ∧ PropOf K C x p f
theorem fx_init (a : PySem.W.findIn K (.ref C) "__init__" = some (some (.ref f))) (m : PySem.W.makesIn K C = true) (i : PySem.W.isFn K (.ref f) = true) (kc : PySem.W.keepIn K (.ref C) = true)
    (l : K.lookup f = some ⟨oc, od, .func (PySem.W.fnOf "__init__" qual (defArgs st) (defBody st) (defScope st) .none kV doc pm an cdv ct), osl⟩) (c : PySem.W.codeIn K cdv qual = true) (k : PySem.W.keepIn K (.ref f) = true) : FI K C qual st :=
  ⟨f, ⟨_, fun_mk l c k⟩, ⟨m, a, i, kc⟩⟩
theorem fx_meth (a : PySem.W.findIn K (.ref C) x = some (some (.ref f))) (i : PySem.W.isFn K (.ref f) = true)
    (l : K.lookup f = some ⟨oc, od, .func (PySem.W.fnOf x qual (defArgs st) (defBody st) (defScope st) .none kV doc pm an cdv ct), osl⟩) (c : PySem.W.codeIn K cdv qual = true) (k : PySem.W.keepIn K (.ref f) = true) : FM K C x qual st :=
  ⟨f, ⟨_, fun_mk l c k⟩, ⟨a, i, k⟩⟩
theorem fx_prop {rest : List Value} (a : PySem.W.findIn K (.ref C) x = some (some (.ref p))) (g : PySem.W.specialIn K (.ref p) "__get__" = some (some (.builtin "property.__get__"))) (t : PySem.W.takesIn K (.ref p) = some true) (r : PySem.W.recIn K p "property" = some (.ref f :: rest))
    (l : K.lookup f = some ⟨oc, od, .func (PySem.W.fnOf x qual (defArgs st) (defBody st) (defScope st) .none kV doc pm an cdv ct), osl⟩) (c : PySem.W.codeIn K cdv qual = true) (k : PySem.W.keepIn K (.ref f) = true) : FP K C x qual st :=
  ⟨p, f, ⟨_, fun_mk l c k⟩, ⟨a, g, t, ⟨rest, r⟩⟩⟩
/-- a class of the top -/
def FC (K : PySem.W.Frag) (mg : Str → Option Value) (x : Str) (R : Addr → Prop) : Prop := ∃ C, mg x = some (.ref C) ∧ Cls K C ∧ R C
theorem fx_cls {R : Addr → Prop} (X : K.In h) (G : h.Ns mainGlobals mg) (a : PySem.W.nsIn K mainGlobals x = some (some (.ref C))) (pg : PySem.W.plainGet K C Str.empty = true) (hd : PySem.W.hasDictIn K C = true) (po : PySem.W.plainOver K C = true)
    (sa : PySem.W.findIn K (.ref C) "__setattr__" = some (some (.builtin "object.__setattr__"))) (r : R C) : FC K mg x R := ⟨C, PySem.W.mg_of X G a, ⟨pg, hd, po, sa⟩, r⟩
/-- constants -/
theorem fx_str {s : Str} {t : Tok} (X : K.In h) (G : h.Ns mainGlobals mg) (a : PySem.W.nsIn K mainGlobals x = some (some (.str s t))) : GlobD K mg x (.str s) := ⟨.str s, _, PySem.W.mg_of X G a, ⟨t, rfl⟩, fun _ _ => rfl⟩
theorem fx_int {i : Int} {t : Tok} (X : K.In h) (G : h.Ns mainGlobals mg) (a : PySem.W.nsIn K mainGlobals x = some (some (.int i t))) : GlobD K mg x (.int i) := ⟨.int i, _, PySem.W.mg_of X G a, ⟨t, rfl⟩, fun _ _ => rfl⟩
theorem vals_ints : ∀ {ns : List Int} {us : List Value}, Vals (ns.map V.int) us → True := fun _ => trivial
theorem fx_ints {ns : List Int} {c : Value} {its : Array Value} {n : Nat} (X : K.In h) (G : h.Ns mainGlobals mg) (a : PySem.W.nsIn K mainGlobals x = some (some (.ref p))) (l : K.lookup p = some ⟨c, od, .seq its n, osl⟩) (hc : c = .type "tuple")
    (hs : its.size ≤ 1000) (hv : Vals (ns.map V.int) its.toList) : GlobD K mg x (.tup (ns.map .int)) :=
  ⟨.ref p, _, PySem.W.mg_of X G a, rfl, fun N H => ⟨p, _, rfl, .inr (.inr ⟨_, its, n, l, hc, rfl, Nat.le_trans hs (by decide), hv⟩), DVs.ints ns⟩⟩
end
def cLaw : Ct := fun args M P => ∃ ns : List Int, args = [.dat (.scr ns)] ∧ M = [] ∧ P false (.bl true) []
theorem law_sp {K : PySem.W.Frag} {H : Hp} {a : Addr} {ns : List Int} {E : XK} (hS : SqL K H a (ns.map V.int)) : SpD K cLaw [.ref a] H (fun v _ => v = .bl true) E :=
  ⟨fun _ => False, [], [.dat (.scr ns)], [], fun fr d _ => fr = false ∧ d = .bl true, ⟨rfl, List.nodup_nil, fun _ z => z.elim, fun _ z => by simp at z, fun _ z => by simp at z, fun _ _ _ e _ => by simp at e, ⟨_, _, rfl, ⟨a, rfl, hS.imp (fun r => ⟨id, r⟩) fun z => .inr z⟩, rfl⟩⟩,
    ⟨ns, rfl, rfl, rfl, rfl⟩, fun fr d M' ⟨e1, e2⟩ v H' x => by
      subst e1
      subst e2
      exact x.res⟩
theorem binds_law {K : PySem.W.Frag} {st : Stmt} {f : Addr} {fd : FuncData} (F : Fun K "law" "law" st f fd) (hb : BindOk "law" "law" st ["script"]) : ∀ (s : Shared) (v : Value), BindsTo s fd ⟨[v], []⟩ [("script", v)] := fun s v => by
  obtain ⟨oc, od, kV, doc, pm, an, cdv, ct, osl, rfl, _, _⟩ := F.ex
  exact .of_eq (hb kV doc pm an cdv ct [v] rfl)
theorem law_end {l : PySem.W.OpenLaw} {q : Program} {loose : List Str} {XP : (Str → Option Value) → Heap → Prop} {YP : World → Heap → Prop} {d : DefRec} {K : Params → PySem.W.Frag} {k : Nat} (hn : l.most = some 63) (hdf : d.params.defaults = []) (hr : Room k callerA)
    (hY : ∀ (w : World) (h : Heap), YP w h → (K w.params).In h)
    (F : ∀ (w : World) (mg : Str → Option Value) (fa : Addr) (h : Heap), (K w.params).In h → h.Ns mainGlobals mg → mg d.name = some (.ref fa) →
      ∃ fd : FuncData, (∀ (s : Shared) (u : Value), BindsTo s fd ⟨[u], []⟩ [("script", u)]) ∧ ∀ base : Heap, (K w.params).In base → base.Ns mainGlobals mg → FnOk l.prog w (K w.params) mg base CX0 k fa fd ["script"] (SpD (K w.params) cLaw)) :
    PySem.W.WalkO q loose XP YP l.row.toRowW d [] (fun f vs => PySem.call f vs) :=
  L2.walk_of (n := 63) (k := k) (x := "script") (CX := fun _ => CX0) (sp := fun w => SpD (K w.params) cLaw) hn (by decide) hdf hr hY F (fun _ _ a ns hl _ hS => law_sp hS) fun _ _ _ _ _ z => z
end Dl
set_option Elab.async false
set_option linter.all false
set_option maxRecDepth 100000
set_option maxHeartbeats 2000000
/-! Dl part 17: dicts that are walked (locked the while), stored into, sorted; draws within comprehensions. -/
namespace Dl
open PySem L2 PyProof.Rows
section
variable {K : PySem.W.Frag} {B : Bs} {as : List Addr} {σ : L2.St} {H H' : Hp} {N : Addr → Prop}
variable {X : Cx} {n : Nat} {env : EnvD} {M : Mem} {c : Conf} {P : PP} {e a b o : Expr} {es : List Expr} {pos apos p : Pos} {k : Nat} {x m : Str} {scope : Scope} {nx : Conf → Prop} {rt : Bool → D → Mem → Prop} {bk ct : Conf → Prop}
theorem set_set {α : Type} (xs : List α) (i : Nat) (x y : α) : (xs.set i x).set i y = xs.set i y := by
  induction xs generalizing i with
  | nil => rfl
  | cons z xs ih => cases i with
    | zero => rfl
    | succ i => simp [ih]
/-- the cell k, a dict, is locked while the statement runs -/
def lockPo (k : Nat) (od : Obj) (kvs : List (Key × V)) (ds : List D) (po : Po) : Po :=
  ⟨fun c => c.2[k]? = some (.fz od kvs ds) ∧ po.nx (c.1, c.2.set k (.dic (kvs.map (·.1)) ds)), fun fr d M => M[k]? = some (.fz od kvs ds) ∧ po.rt fr d (M.set k (.dic (kvs.map (·.1)) ds)),
    fun c => c.2[k]? = some (.fz od kvs ds) ∧ po.bk (c.1, c.2.set k (.dic (kvs.map (·.1)) ds)), fun c => c.2[k]? = some (.fz od kvs ds) ∧ po.ct (c.1, c.2.set k (.dic (kvs.map (·.1)) ds))⟩
theorem CF.unlock {od : Obj} {kvs : List (Key × V)} {ds : List D} {p : Addr} (C : CF K B as (env, M) σ H) (ha : as[k]? = some p) (hk : M[k]? = some (.fz od kvs ds)) :
    H p = some (.frz od (.dK kvs)) ∧ CF K B as (env, M.set k (.dic (kvs.map (·.1)) ds)) σ (upd H p (.dK kvs)) := by
  obtain ⟨e, dv⟩ := C.cells k p _ ha hk
  exact ⟨e, C.put ha hk rfl rfl fun kp => ⟨kvs, upd_same, rfl, DVs.kp kp _ _ dv⟩⟩
theorem sd_lockC {st : Stmt} {ks : List Key} {ds : List D} {po : Po} (hk : M[k]? = some (.dic ks ds)) (h : ∀ od kvs, kvs.map (·.1) = ks → SD n X (env, M.set k (.fz od kvs ds)) st (lockPo k od kvs ds po)) : SD n X (env, M) st po := by
  intro B as σ H hn C Dd w
  have hl : as.length = M.length := C.len
  have hkl : k < M.length := (List.getElem?_eq_some_iff.mp hk).1
  obtain ⟨p, ha⟩ : ∃ p, as[k]? = some p := ⟨as[k], List.getElem?_eq_getElem (by omega)⟩
  obtain ⟨kvs, e, ek, dv⟩ := C.cells k p _ ha hk
  refine wpS_of (ps_lock wpS_ok) ⟨p, .dK kvs, e, trivial, fun od => ?_⟩
  have C' : CF X.K B as (env, M.set k (.fz od kvs ds)) σ (upd H p (.frz od (.dK kvs))) := C.put ha hk rfl rfl fun kp => ⟨upd_same, DVs.kp kp _ _ dv⟩
  have at_ : ∀ {as' : List Addr} {c' : Conf} {σ' : L2.St} {H' : Hp}, CG X.K B as as' c' σ' H' → as'[k]? = some p := fun {as' c' σ' H'} G => by
    obtain ⟨r, er⟩ := G.px
    rw [← er, List.getElem?_append_left (by omega)]
    exact ha
  refine h od kvs ek B as σ _ hn C' _ ⟨fun c' as' σ' H' q G => ?_, fun fr d env' M' as' σ' H' v q G ro => ?_, fun c' as' σ' H' q G => ?_, fun c' as' σ' H' q G => ?_⟩
  · obtain ⟨e1, C2⟩ := G.cf.unlock (at_ G) q.1
    exact ⟨e1, w.nx _ as' σ' _ q.2 ⟨G.px, C2⟩⟩
  · obtain ⟨q1, q2⟩ := q
    cases fr with
    | false =>
      unfold RetOk at ro
      rw [if_neg (by decide)] at ro
      obtain ⟨e1, C2⟩ := CF.unlock (B := B.add (.dat d, v)) (G.cf.add (r := .dat d) ro) (at_ G) q1
      refine ⟨e1, w.rt false d env' _ as' σ' _ v q2 ⟨G.px, C2.pop⟩ ?_⟩
      unfold RetOk
      rw [if_neg (by decide)]
      exact C2.top
    | true =>
      unfold RetOk at ro
      rw [if_pos rfl] at ro
      obtain ⟨k', p', c', h1, h2, h3, h4, h5, h6⟩ := ro
      obtain ⟨e1, C2⟩ := G.cf.unlock (at_ G) q1
      refine ⟨e1, w.rt true d env' _ as' σ' _ v q2 ⟨G.px, C2⟩ ?_⟩
      unfold RetOk
      rw [if_pos rfl]
      refine ⟨k', p', c', h1, h2, h3, ?_, h5, h6⟩
      have : k' ≠ k := fun z => by
        rw [z, q1] at h4
        cases h4
        cases h5
      rw [List.getElem?_set_ne (Ne.symm this)]
      exact h4
  · obtain ⟨e1, C2⟩ := G.cf.unlock (at_ G) q.1
    exact ⟨e1, w.bk _ as' σ' _ q.2 ⟨G.px, C2⟩⟩
  · obtain ⟨e1, C2⟩ := G.cf.unlock (at_ G) q.1
    exact ⟨e1, w.ct _ as' σ' _ q.2 ⟨G.px, C2⟩⟩
theorem relKey (k : Key) : DV K N H (keyD k) (kV k) := by
  cases k <;> rfl
/-- for k in d, the dict a locked cell -/
theorem wk_keys {r : EI} {q : Addr} {od : Obj} {kvs : List (Key × V)} {ds : List D} (hr : r = .cel k) (hg : (r, V.ref q) ∈ B.G) : WkD K B as (Itk q od kvs) (kvs.map fun kv => keyD kv.1) (fun M => M[k]? = some (.fz od kvs ds)) := ⟨fun as' c σ H C s i => by
  subst hr
  obtain ⟨q', ea, ev⟩ := C.cf.gh _ hg
  have ev : q = q' := by injection ev
  subst ev
  obtain ⟨e1, dv⟩ := C.cf.cells k q _ ea s
  refine ⟨fun hi => ⟨e1, by simp at hi; omega⟩, fun d hd => ?_⟩
  rw [List.getElem?_map] at hd
  cases ekv : kvs[i]? with
  | none => rw [ekv] at hd; cases hd
  | some kv =>
    rw [ekv] at hd
    cases hd
    refine ⟨⟨e1, (List.getElem?_eq_some_iff.mp ekv).1⟩, fun x H' ⟨e2, ky, v, e3, e4⟩ => ?_⟩
    subst e2
    subst e4
    rw [ekv] at e3
    cases e3
    exact ⟨fun _ _ z => z, relKey _⟩⟩
theorem id_keys {tg iter : Expr} {P : List D → (Mem → Prop) → Mem → Prop} (h : ED n X (env, M) iter fun r M' => ∃ k od kvs ds, r = .cel k ∧ M'[k]? = some (.fz od kvs ds) ∧ P (kvs.map fun kv => keyD kv.1) (fun M => M[k]? = some (.fz od kvs ds)) M') : ID n X (env, M) tg iter P := fun B as σ H hn C R q => wpI_of (pi_keys wpE_ok) (by
  refine h B as σ H hn C _ fun r v M1 as1 H1 ⟨k, od, kvs, ds, er, ek, hp⟩ C1 o1 => ?_
  subst er
  obtain ⟨y, ea, ev⟩ := id o1
  subst ev
  obtain ⟨e1, dv⟩ := C1.cf.cells k y _ ea ek
  refine ⟨y, od, rfl, .inl ⟨kvs, e1, ?_⟩⟩
  exact q _ _ [(EI.cel k, V.ref y)] M1 as1 H1 _ hp ⟨C1.px, (C1.cf.add o1).gs1⟩ (wk_keys rfl (List.mem_append_left _ List.mem_cons_self)))
/-- d[i] = e, the dict a cell -/
theorem sd_dput {i : Expr} {pos' : Pos} (hu : X.A.units + 64 < cLine) (h : ED n X (env, M) e fun r M1 => ED n X (env, M1) o fun r0 M2 => ∃ k, r0 = .cel k ∧ ED n X (env, M2) i fun ri M3 => ∃ d ks ds ky, r = .dat d ∧ rdD M3 ri = some (keyD ky) ∧ M3[k]? = some (.dic ks ds) ∧ ds.length < sizeLine ∧ nx (env, M3.set k (.dic (putKey ks ky) (putVal ks ds ky d))))
    (hs : swapsWith e (some (.Subscript o i pos')) pos.line X.env = pure false := by rfl) : SD n X (env, M) (.Assign [.Subscript o i pos'] e pos) ⟨nx, rt, bk, ct⟩ := fun B as σ H hn C Dd w => wpS_of (ps_dput (by omega) wpE_ok wpE_ok wpE_ok hs) (by
  refine h B as σ H hn C _ fun r v M1 as1 H1 h1 C1 o1 => ?_
  refine h1 (B.add (r, v)) as1 σ H1 hn (C1.cf.add o1) _ fun r0 v0 M2 as2 H2 ⟨k, e0, h2⟩ C2 o2 => ?_
  subst e0
  refine h2 ((B.add (r, v)).add (.cel k, v0)) as2 σ H2 hn (C2.cf.add o2) _ fun ri vi M3 as3 H3 ⟨d, ks, ds, ky, er, ei, ek, hl, q⟩ C3 o3 => ?_
  subst er
  obtain ⟨y, ea, ev⟩ := C3.cf.top
  subst ev
  have C4 := C3.cf.pop
  have dvd : DV X.K (Ne B as3 M3) H3 d v := C4.top
  have C5 := C4.pop
  obtain ⟨kvs, e1, e2, dv⟩ := C5.cells k y _ ea ek
  have evi : vi = kV ky := rd_key C3.cf o3 ei
  subst evi
  have hl2 : kvs.length < sizeLine := by
    have := dv.length
    simp at this
    omega
  refine ⟨y, _, rfl, DPut.k e1 hl2, ?_⟩
  have put := C5.put (y := .dic (putKey ks ky) (putVal ks ds ky d)) (o := .dK (putK kvs ky v)) ea ek rfl rfl fun kp => by
    obtain ⟨a1, a2⟩ := put_dvs (DV.kp kp _ _ dvd) e2 (DVs.kp kp _ _ dv)
    exact ⟨_, upd_same, a1, a2⟩
  exact w.nx _ as3 σ _ q ⟨(C1.px.trans C2.px).trans C3.px, put⟩)
/-- {} -/
theorem en_dnew {P : D → Mem → Prop} (h : P (.dic [] []) M) : EN n X (env, M) (.Dict [] [] pos) P := fun B as σ H hn C Q q => wpE_of pe_dnewK (fun p hp => by
  have C1 := C.grow (grow_new (o := HO.dK []) hp)
  refine q _ p M as _ h ⟨List.prefix_refl _, C1⟩ ⟨p, [], rfl, C.ne_new hp, .inl upd_same, rfl, .nil⟩ (C.new hp (fun _ => ⟨[], upd_same, rfl, .nil⟩) (fun z => by cases z)))
/-- sorted(d), the keys texts -/
theorem en_sortedD (hm : X.mg "sorted" = none) {P : D → Mem → Prop} (h : ED n X (env, M) a fun r M => ∃ (ks : List Str) (ds : List D), rdD M r = some (.dic (ks.map Sum.inr) ds) ∧ ks.length < 64 ∧ ∀ ys : List Str, ys.Perm ks → sortedS ys = true → P (.lst (ys.map .str)) M)
    (hc : X.calm = true := by rfl) (hg : Gl X "sorted" := by rfl) (he : starEach (a :: []) X.env = (false, eval a X.env) :: starEach [] X.env := by rfl) (hpl : (backTo pos (starEach [] X.env)).any (·.1) = false := by rfl) : EN n X (env, M) (.Call (.Name "sorted" p) [a] [] pos) P := fun B as σ H hn C Q q =>
  wpE_of (pe_callB (call_sortedD hc) hg hm (by decide +kernel) (pa_cons wpE_ok pa_nil he) (by decide) (by decide) he hpl) (by
    refine h B as σ H hn C _ fun r v M' as' H' ⟨ks, ds, e, hl, p⟩ C' o => ?_
    obtain ⟨y, kvs, rfl, rd, ek, dv⟩ := rd_dic C'.cf o e
    refine ⟨y, kvs, ks, rfl, rd, ek, hl, fun ys l hp hs hl' => ?_⟩
    have dvs : DVs X.K (Ne B as' M') H' (ys.map D.str) (ys.map V.str) := by
      clear hp hs
      induction ys with
      | nil => exact .nil
      | cons y ys ih => exact .cons rfl ih
    obtain ⟨a1, a2, a3⟩ := dv_new_lst C'.cf hl' dvs
    exact q _ l M' as' _ (p ys hp hs) ⟨C'.px, a1⟩ a2 a3)
theorem pairs_of : ∀ {xs : List (Key × D)} {vs : List V}, DVs K N H (xs.map fun x => D.tup [keyD x.1, x.2]) vs → ∃ (ps : List Addr) (kvs : List (Key × V)), vs = ps.map V.ref ∧ Paired (fun p kv => SqT K H p [kV kv.1, kv.2]) ps kvs ∧ kvs.map (·.1) = xs.map (·.1) ∧ DVs K N H (xs.map (·.2)) (kvs.map (·.2))
  | [], vs, h => ⟨[], [], h, .nil, rfl, .nil⟩
  | x :: xs, vs, h => by
    obtain ⟨v, r, rfl, d1, d2⟩ := h
    obtain ⟨ps, kvs, rfl, h1, h2, h3⟩ := pairs_of d2
    obtain ⟨p, us, rfl, sq, z⟩ := d1
    obtain ⟨u, r1, rfl, a1, z⟩ := z
    obtain ⟨v2, r2, rfl, a2, z⟩ := z
    have z : r2 = [] := z
    subst z
    have e1 := dv_key a1
    subst e1
    exact ⟨p :: ps, (x.1, v2) :: kvs, rfl, .cons sq.sq h1, by simp [h2], .cons a2 h3⟩
theorem putK_fresh {kvs : List (Key × V)} {k : Key} {v : V} (h : k ∉ kvs.map (·.1)) : putK kvs k v = kvs ++ [(k, v)] := by
  unfold putK
  rw [if_neg]
  intro z
  rw [List.any_eq_true] at z
  obtain ⟨kv, h1, h2⟩ := z
  exact h (List.mem_map.mpr ⟨kv, h1, of_decide_eq_true h2⟩)
theorem mergeK_nd : ∀ (more kvs : List (Key × V)), ((kvs ++ more).map (·.1)).Nodup → mergeK kvs more = kvs ++ more
  | [], kvs, _ => by simp [mergeK]
  | kv :: more, kvs, h => by
    have h1 : kv.1 ∉ kvs.map (·.1) := by
      intro z
      rw [List.map_append, List.nodup_append] at h
      exact h.2.2 _ z _ (by simp) rfl
    have e : mergeK kvs (kv :: more) = mergeK (kvs ++ [kv]) more := by
      show mergeK (putK kvs kv.1 kv.2) more = _
      rw [putK_fresh h1]
    rw [e, mergeK_nd more (kvs ++ [kv]) (by simpa using h)]
    simp
/-- dict(list of pairs) -/
theorem en_dictP (hm : X.mg "dict" = none) {P : D → Mem → Prop} (h : ED n X (env, M) a fun r M => ∃ xs : List (Key × D), rdD M r = some (.lst (xs.map fun x => D.tup [keyD x.1, x.2])) ∧ (xs.map (·.1)).Nodup ∧ P (.dic (xs.map (·.1)) (xs.map (·.2))) M)
    (hc : X.calm = true := by rfl) (hg : Gl X "dict" := by rfl) (he : starEach (a :: []) X.env = (false, eval a X.env) :: starEach [] X.env := by rfl) (hpl : (backTo pos (starEach [] X.env)).any (·.1) = false := by rfl) : EN n X (env, M) (.Call (.Name "dict" p) [a] [] pos) P := fun B as σ H hn C Q q =>
  wpE_of (pe_callTy (call_dictP hc) hg hm (by decide +kernel) (pa_cons wpE_ok pa_nil he) (by decide) (by decide) he hpl) (by
    refine h B as σ H hn C _ fun r v M' as' H' ⟨xs, e, nd, p⟩ C' o => ?_
    obtain ⟨y, vs, rfl, e1, dv⟩ := rd_lst C'.cf o e
    obtain ⟨ps, kvs, rfl, h1, h2, h3⟩ := pairs_of dv
    refine ⟨y, ps, kvs, rfl, SqL.of e1, h1, fun l hl => ?_⟩
    have em : mergeK [] kvs = kvs := by
      rw [mergeK_nd kvs [] (by rw [List.nil_append, h2]; exact nd)]
      rfl
    rw [em]
    have g := grow_new (o := HO.dK kvs) hl
    have C1 := C'.cf.grow g
    refine q _ l M' as' _ p ⟨C'.px, C1⟩ ⟨l, kvs, rfl, C'.cf.ne_new hl, .inl upd_same, h2, DVs.kp ⟨fun a z => .inl z, fun a o _ z => g a o z⟩ _ _ h3⟩ (C'.cf.new hl (fun _ => ⟨kvs, upd_same, h2, ?_⟩) (fun z => by cases z))
    exact DVs.kp ⟨fun a z => z.imp id fun e => by rw [e]; exact hl, fun a o _ z => g a o z⟩ _ _ h3)
/-- a comprehension whose element changes cells: a word over turn, cells, what is gathered -/
theorem lcd_any {α : Type} {items : List D} {S : Mem → Prop} {M1 : Mem} {t : Tg} {vs : List Nat} {elt : Expr} {P : D → Mem → Prop} (xs : List α) (enc : α → D) (I : Nat → Mem → List D → Prop) (hi : items = xs.map enc) (h0 : I 0 M1 []) (hl : ∀ i M acc, I i M acc → i < xs.length → acc.length < sizeLine)
    (el : ∀ i x M2 acc, xs[i]? = some x → I i M2 acc → ∃ env', t.setE (enc x) (wipeE env vs) = some env' ∧ EDu n X scope (env', M2 ++ [.lst acc]) elt fun r M4 => ∃ d' M5, r = .dat d' ∧ M4 = M5 ++ [.lst acc] ∧ M5.length = M2.length ∧ I (i + 1) M5 (acc ++ [d']))
    (hS : ∀ i M2 acc, I i M2 acc → S (M2 ++ [.lst acc])) (hP : ∀ M2 acc, I xs.length M2 acc → P (.lst acc) M2) : LcBody n X scope t vs env elt [] P items S M1 := by
  subst hi
  refine ⟨I, h0, fun i M2 acc d hd h => ?_, fun M2 acc h => ?_⟩
  · rw [List.getElem?_map] at hd
    cases ex : xs[i]? with
    | none => rw [ex] at hd; cases hd
    | some x =>
      rw [ex] at hd
      cases hd
      obtain ⟨env', e1, e2⟩ := el i x M2 acc ex h
      refine ⟨hS i M2 acc h, env', e1, tsu_nil ⟨fun _ => ?_, fun z => by cases z⟩⟩
      intro s H C cl fp
      refine ed_imp (e2 s H C cl fp) fun r M4 ⟨d', M5, h1, h2, h3, h4⟩ => ⟨d', M5, h1, h2, h3, hl i M2 acc h (List.getElem?_eq_some_iff.mp ex).1, h4⟩
  · rw [List.length_map] at h
    exact ⟨hS _ M2 acc h, hP M2 acc h⟩
end
end Dl
set_option Elab.async false
set_option linter.all false
set_option maxRecDepth 100000
set_option maxHeartbeats 2000000
/-! The drawn books and rows of the laws: what their helpers promise. -/
namespace Fb
open PySem L2 Dl
/-- a drawn term -/
def TermOk (ls : List Str) (t : Int × Str) : Prop := t.2 ∈ ls ∧ t.1 ≠ 0 ∧ t.1.natAbs ≤ 9
def dStrs (ls : List Str) : D := .lst (ls.map .str)
def cFactor : Ct := fun args M P => ∃ (k : Nat) (d : List D), args = [.cel 0] ∧ M = [.lst d] ∧ PoolOk k d ∧ k ≤ 990000000 ∧ ∀ (v : Int) (d' : List D), v ≠ 0 → v.natAbs ≤ 9 → PoolOk (k + 5) d' → P false (.int v) [.lst d']
def cTerms : Ct := fun args M P => ∃ (k : Nat) (d : List D) (ls : List Str) (many : Nat), args = [.cel 0, .dat (dStrs ls), .dat (.int (many : Nat))] ∧ M = [.lst d] ∧ PoolOk k d ∧ k ≤ 980000000 ∧ 1 ≤ ls.length ∧ ls.length ≤ 30 ∧ many ≤ 10 ∧
  ∀ (f : List (Int × Str)) (d' : List D), f.length ≤ many → (∀ t ∈ f, TermOk ls t) → PoolOk (k + 100) d' → P true (dForm f) [.lst d']
/-- drawn starts -/
abbrev Sts := List (Str × Int)
def look (st : Sts) (x : Str) : Int := ((st.find? fun r => decide (r.1 = x)).map (·.2)).getD 0
def ksOf (st : Sts) : List Key := st.map fun r => Sum.inr r.1
def dsOf (st : Sts) : List D := st.map fun r => .int r.2
structure StsOk (st : Sts) : Prop where
  nd : (st.map (·.1)).Nodup
  few : st.length ≤ 26
  bd : ∀ r ∈ st, r.2.natAbs ≤ 9
  nm : ∀ r ∈ st, isName r.1 = true
def sumAt (st : Sts) (f : List (Int × Str)) : Int := (f.map fun t => t.1 * look st t.2).sum
def cFirstF : Ct := fun args M P => ∃ (k : Nat) (d : List D) (st : Sts) (x : Str), args = [.cel 0, .cel 1, .dat (.str x)] ∧ M = [.lst d, .dic (ksOf st) (dsOf st)] ∧ PoolOk k d ∧ k ≤ 980000000 ∧ StsOk st ∧ x ∈ st.map (·.1) ∧
  ∀ (f : List (Int × Str)) (d' : List D), f.length ≤ 5 → (∀ t ∈ f, TermOk (st.map (·.1)) t) → sumAt st f = look st x → PoolOk (k + 100) d' → P true (dForm f) [.lst d', .dic (ksOf st) (dsOf st)]
def dKind (b : Nat) (rows : List NR) : D := .tup [.int (b : Nat), .lst (rows.map dNR)]
/-- a drawn book: what the laws lean on -/
structure KindOk (b : Nat) (rows : List NR) (many : Nat) : Prop where
  bk : BookOk 5 b rows
  some : 1 ≤ rows.length
  few : rows.length ≤ many
  terms : ∀ r ∈ rows, ∀ f ∈ r.forms, f.length ≤ 5
  small : ∀ r ∈ rows, r.start.natAbs ≤ 9 ∧ ∀ f ∈ r.forms, ∀ t ∈ f, t.1.natAbs ≤ 9 ∧ t.1 ≠ 0
def cKindF : Ct := fun args M P => ∃ (k : Nat) (d : List D) (many : Nat), args = [.cel 0, .dat (.int (many : Nat))] ∧ M = [.lst d] ∧ PoolOk k d ∧ k ≤ 970000000 ∧ 1 ≤ many ∧ many ≤ 6 ∧
  ∀ (b : Nat) (rows : List NR) (d' : List D), KindOk b rows many → PoolOk (k + 5000) d' → P false (dKind b rows) [.lst d']
def cMade (CB : Addr) : Ct := fun args M P => ∃ g b rows, args = [.dat (dKind b rows)] ∧ M = [] ∧ BookOk g b rows ∧ P true (dBook CB b rows) []
def cShares : Ct := fun args M P => ∃ (k : Nat) (d : List D) (b : Nat) (rows : List NR), args = [.cel 0, .dat (dKind b rows)] ∧ M = [.lst d] ∧ PoolOk k d ∧ k ≤ 980000000 ∧ 1 ≤ rows.length ∧ rows.length ≤ 26 ∧
  ∀ (sh : List Int) (d' : List D), sh.length = rows.length → (∀ x ∈ sh, x.natAbs ≤ 9) → PoolOk (k + 100) d' → P true (dI sh) [.lst d']
def cKnown : Ct := fun args M P => ∃ (k : Nat) (d : List D), args = [.cel 0] ∧ M = [.lst d] ∧ PoolOk k d ∧ k ≤ 980000000 ∧
  ∀ (rows : List NR) (x : Str) (d' : List D), KindOk 2 rows 3 → x ∈ names rows → PoolOk (k + 5) d' → P false (.tup [dKind 2 rows, .str x]) [.lst d']
/-- (kind, shares) -/
def dTold (b : Nat) (rows : List NR) (sh : List Int) : D := .tup [dKind b rows, dI sh]
def cRowMade (CR CB : Addr) : Ct := fun args M P => ∃ g b rows sh, args = [.dat (dTold b rows sh)] ∧ M = [] ∧ BookOk g b rows ∧ sh.length = rows.length ∧ P true (dRow CR CB b rows sh) []
def cRowed (CR CB : Addr) : Ct := fun args M P => ∃ g b rows sh, args = [.dat (dKind b rows), .dat (dI sh)] ∧ M = [] ∧ BookOk g b rows ∧ sh.length = rows.length ∧ P true (dRow CR CB b rows sh) []
def cSmall : Ct := fun args M P => ∃ (k : Nat) (d : List D) (many : Nat), args = [.cel 0, .dat (.int (many : Nat))] ∧ M = [.lst d] ∧ PoolOk k d ∧ k ≤ 960000000 ∧ 1 ≤ many ∧ many ≤ 6 ∧
  ∀ (b : Nat) (rows : List NR) (sh : List Int) (d' : List D), KindOk b rows (max many 3) → sh.length = rows.length → (∀ x ∈ sh, x.natAbs ≤ 9) → PoolOk (k + 6000) d' → P false (dTold b rows sh) [.lst d']
def cSpotF : Ct := fun args M P => ∃ (k : Nat) (d : List D), args = [.cel 0] ∧ M = [.lst d] ∧ PoolOk k d ∧ k ≤ 980000000 ∧ ∀ (v : Nat) (d' : List D), v ≤ 10 ^ 30 → PoolOk (k + 100) d' → P false (.int (v : Nat)) [.lst d']
end Fb
set_option Elab.async false
set_option linter.all false
set_option maxRecDepth 100000
set_option maxHeartbeats 4000000
namespace Fb
open PySem L2 Dl
/-- _law_draw(pool, e), the pool the cell 0 -/
theorem ed_draw {n : Nat} {X : Cx} {env : EnvD} {M : Mem} {P : PP} {e : Expr} {x : Str} {p q pos : Pos} (G : FnG X.prog X.w X.K X.mg X.base 1 "_law_draw" cDraw) (hr : Room 1 X.A) (i : Nat) (h0 : env[i]? = some (.cel 0))
    (h : ED n X (env, M) e fun r M1 => ∃ (m : Int) (k : Nat) (d : List D) (M2 : Mem), r = .dat (.int m) ∧ M1 = .lst d :: M2 ∧ PoolOk k d ∧ k ≤ 1000000000 ∧ 1 ≤ m ∧ m < 2 ^ 200 ∧ ∀ (v : Int) (d' : List D), 0 ≤ v → v < m → PoolOk (k + 1) d' → P (.dat (.int v)) (.lst d' :: M2))
    (hN : X.N[i]? = some x := by rfl) (hv : Vis X.env.scope x := by first | exact Or.inl rfl | exact Or.inr (Or.inl rfl) | exact Or.inr (Or.inr rfl)) (hd : (x == ("__debug__" : Str)) = false := by decide) (hcd : (x == ("__classdict__" : Str)) = false := by decide)
    (hg : Gl X "_law_draw" := by rfl) (he : starEach [.Name x q, e] X.env = (false, eval (.Name x q) X.env) :: starEach [e] X.env := by rfl) (he2 : starEach [e] X.env = (false, eval e X.env) :: starEach [] X.env := by rfl) (hpl : (backTo pos (starEach [e] X.env)).any (·.1) = false := by rfl) :
    ED n X (env, M) (.Call (.Name "_law_draw" p) [.Name x q, e] [] pos) P := by
  refine ed_call G hr (ad_cons (ed_var h0 (by intro z; cases z) ?_ hN hv hd hcd) he) hg (by decide) he hpl
  refine ad_cons (ed_imp h fun r M1 ⟨m, k, d, M2, e1, e2, hp, hk, h1, h2, hP⟩ => ?_) he2
  subst e1
  subst e2
  refine ad_nil ⟨[0], [.cel 0, .dat (.int m)], ⟨rfl, by decide, fun k hk => ⟨_, by cases List.mem_singleton.mp hk; rfl, rfl⟩, fun e he => by
    rcases List.mem_cons.mp he with rfl | he
    · exact Nat.zero_lt_one
    · cases List.mem_singleton.mp he
      trivial⟩, k, m, d, rfl, rfl, hp, hk, h1, h2, hP⟩
/-- f(pool), the pool the cell 0 -/
theorem ed_drawn {n : Nat} {X : Cx} {env : EnvD} {M : Mem} {P : PP} {x fn : Str} {p q pos : Pos} {lv : Nat} {F : Ct} (G : FnG X.prog X.w X.K X.mg X.base lv fn F) (hr : Room lv X.A) (i : Nat) (h0 : env[i]? = some (.cel 0)) {d : List D} {M2 : Mem} (hM : M = .lst d :: M2)
    (h : F [.cel 0] [.lst d] fun fr v M' => ∃ d', M' = [.lst d'] ∧ P (.dat v) (.lst d' :: M2))
    (hN : X.N[i]? = some x := by rfl) (hv : Vis X.env.scope x := by first | exact Or.inl rfl | exact Or.inr (Or.inl rfl) | exact Or.inr (Or.inr rfl)) (hd : (x == ("__debug__" : Str)) = false := by decide) (hcd : (x == ("__classdict__" : Str)) = false := by decide)
    (hg : Gl X fn := by rfl) (hdb : (fn == ("__debug__" : Str)) = false := by decide) (he : starEach [.Name x q] X.env = (false, eval (.Name x q) X.env) :: starEach [] X.env := by rfl) (hpl : (backTo pos (starEach [] X.env)).any (·.1) = false := by rfl) 
    (mono : ∀ {a M} {P P' : Bool → D → Mem → Prop}, F a M P → (∀ fr v M', P fr v M' → P' fr v M') → F a M P') : ED n X (env, M) (.Call (.Name fn p) [.Name x q] [] pos) P := by
  subst hM
  refine ed_call G hr (ad_cons (ed_var h0 (by intro z; cases z) ?_ hN hv hd hcd) he) hg hdb he hpl
  refine ad_nil ⟨[0], [.cel 0], ⟨rfl, by decide, fun k hk => ⟨_, by cases List.mem_singleton.mp hk; rfl, rfl⟩, fun e he => by
    cases List.mem_singleton.mp he
    exact Nat.zero_lt_one⟩, mono h fun fr v M' ⟨d', e1, hp⟩ => ?_⟩
  subst e1
  exact hp
theorem fmono : ∀ {a M} {P P' : Bool → D → Mem → Prop}, cFactor a M P → (∀ fr v M', P fr v M' → P' fr v M') → cFactor a M P' := fun ⟨k, d, e1, e2, e3, e4, h⟩ i => ⟨k, d, e1, e2, e3, e4, fun v d' h1 h2 h3 => i _ _ _ (h v d' h1 h2 h3)⟩
/-- one of four -/
theorem four {P : D → Prop} {a b c d : D} {j : Int} (h0 : 0 ≤ j) (h1 : j < 4) (ha : P a) (hb : P b) (hc : P c) (hd : P d) : ∃ x, L2.atI [a, b, c, d] j = some x ∧ P x := by
  have : j = 0 ∨ j = 1 ∨ j = 2 ∨ j = 3 := by omega
  rcases this with rfl | rfl | rfl | rfl
  · exact ⟨a, rfl, ha⟩
  · exact ⟨b, rfl, hb⟩
  · exact ⟨c, rfl, hc⟩
  · exact ⟨d, rfl, hd⟩
section
variable {P : Program} {w : World} {K : PySem.W.Frag} {mg : Str → Option Value} {base : Heap}
theorem body_factor {f : Addr} (GD : FnG P w K mg base 1 "_law_draw" cDraw) : BodyOk P w K mg base 1 ["pool", "size"] ["pool"] "_law_factor" s_Lfactor f cFactor := by
  intro cdv A outer s H E hr args M P0 ⟨k, d, e1, e2, hp, hk, hP⟩
  subst e1
  subst e2
  have nd := sc_Lfactor.nd
  refine sds_cons (sd_set (i := 1) (ed_ix (ed_lst (ad_cons (ed_int (ad_cons (ed_int (ad_cons (ed_add (ed_int (ed_draw GD hr 0 rfl (ed_int ⟨3, k, d, [], rfl, rfl, hp, by omega, by decide, by decide, fun v1 d1 a1 b1 hp1 => ?_⟩))))))))))) nd)
  refine ad_cons (ed_add (ed_int (ed_draw GD hr 0 rfl (ed_int ⟨9, _, _, [], rfl, rfl, hp1, by omega, by decide, by decide, fun v2 d2 a2 b2 hp2 => ?_⟩))))
  refine ad_nil ⟨[_, _, _, _], rfl, szl (by simp), ?_⟩
  refine ed_draw GD hr 0 rfl (ed_int ⟨4, _, _, [], rfl, rfl, hp2, by omega, by decide, by decide, fun v3 d3 a3 b3 hp3 => ?_⟩)
  obtain ⟨x, hx, sz, rfl, s1, s2⟩ := four (P := fun x => ∃ sz : Int, x = .int sz ∧ 1 ≤ sz ∧ sz ≤ 9) a3 b3 ⟨1, rfl, by decide, by decide⟩ ⟨1, rfl, by decide, by decide⟩ ⟨1 + v1, rfl, by omega, by omega⟩ ⟨1 + v2, rfl, by omega, by omega⟩
  refine ⟨_, hx, ?_⟩
  refine sds_one (sd_ret (ed_mul (ev 1 rfl (ed_sub (ed_int (ed_mul (ed_int (ed_draw GD hr 0 rfl (ed_int ⟨2, _, _, [], rfl, rfl, hp3, by omega, by decide, by decide, fun v4 d4 a4 b4 hp4 => ?_⟩)))))))))
  have h01 : v4 = 0 ∨ v4 = 1 := by omega
  refine ⟨mulB_of (a := 3) (b := 3) (by decide) (by omega) (by decide), _, _, rfl, rfl, trivial, mulB_of (a := 4) (b := 3) (by omega) (by omega) (by decide), ret_dat (po1 (hP _ d4 ?_ ?_ (hp4.mono (by omega))) rfl)⟩
  · rcases h01 with rfl | rfl <;> omega
  · rcases h01 with rfl | rfl <;> omega
theorem body_terms {f : Addr} (hl : mg "len" = none) (hrg : mg "range" = none) (GD : FnG P w K mg base 1 "_law_draw" cDraw) (GF : FnG P w K mg base 2 "_law_factor" cFactor) : BodyOk P w K mg base 2 ["pool", "letters", "many", "turn"] ["pool", "letters", "many"] "_law_terms" s_Lterms f cTerms := by
  intro cdv A outer s H E hr args M P0 ⟨k, d, ls, many, e1, e2, hp, hk, l1, l2, hm, hP⟩
  subst e1
  subst e2
  have nd := sc_Lterms.nd
  refine sds_one (sd_retn (en_lc (own := [("turn", 3)]) (t := .one 3) nd (blkOk_by (N := ["pool", "letters", "many", "turn"]) (sc := defScope s_Lterms) (by decide +kernel)) (fun s H C cl fp => tg_name nd) ?_))
  refine id_range1 hrg (ed_draw GD (hr.mono (by decide)) 0 rfl (ed_add (ev 2 rfl (ed_int ⟨_, k, d, [], rfl, rfl, hp, by omega, by omega, by omega, fun v d1 a1 b1 hp1 => ?_⟩))))
  refine ⟨v, rfl, by omega, by omega, ?_⟩
  refine lcd_any (List.range v.toNat) _ (fun i M2 acc => ∃ d f, M2 = [.lst d] ∧ acc = f.map dTerm ∧ f.length = i ∧ PoolOk (k + 1 + 6 * i) d ∧ ∀ t ∈ f, TermOk ls t) (rangeD_map _ _) ⟨d1, [], rfl, rfl, rfl, hp1, by simp⟩ (fun i M acc ⟨d, f, _, e, e2, _⟩ hi => by
    rw [e, List.length_map, e2]
    exact szlt (by simp at hi; omega)) ?_ (fun _ _ _ _ => trivial) ?_
  · rintro i x M2 acc hx ⟨d2, f, rfl, rfl, hfl, hp2, hf⟩
    have hi : i < v.toNat := by
      have := (List.getElem?_eq_some_iff.mp hx).1
      simpa using this
    refine ⟨_, rfl, fun s H C cl fp => ?_⟩
    refine ed_tup (ad_cons (ed_drawn GF (hr.mono (by decide)) 0 rfl rfl ⟨_, d2, rfl, rfl, hp2, by omega, fun c d3 c1 c2 hp3 => ⟨d3, rfl, ?_⟩⟩ (mono := fmono)))
    refine ad_cons (ed_ix (ev 1 rfl (ed_draw GD (hr.mono (by decide)) 0 rfl (ed_len hl (ev 1 rfl ⟨dStrs ls, ls.length, rfl, by simp [LenOk, dStrs], _, _, d3, _, rfl, rfl, hp3, by omega, by omega, by omega, fun j d4 j1 j2 hp4 => ?_⟩)))))
    obtain ⟨jn, rfl⟩ : ∃ jn : Nat, j = (jn : Nat) := ⟨j.toNat, by omega⟩
    have hj : jn < ls.length := by omega
    refine ⟨.str ls[jn], atI_nat (by simp [List.getElem?_eq_getElem hj]), ?_⟩
    refine ad_nil ⟨[_, _], rfl, szl (by simp), _, [.lst d4], rfl, rfl, rfl, d4, f ++ [(c, ls[jn])], rfl, by simp [dTerm], by simp [hfl], hp4.mono (by omega), fun t ht => ?_⟩
    rcases List.mem_append.mp ht with ht | ht
    · exact hf t ht
    · rw [List.mem_singleton.mp ht]
      exact ⟨List.getElem_mem hj, c1, c2⟩
  · rintro M2 acc ⟨d2, f, rfl, rfl, hfl, hp2, hf⟩
    rw [List.length_range] at hfl hp2
    exact ⟨rfl, Nat.le_refl _, po1 (hP f d2 (by omega) hf (hp2.mono (by omega))) rfl⟩
end
end Fb
set_option Elab.async false
set_option linter.all false
set_option maxRecDepth 100000
set_option maxHeartbeats 4000000
namespace Fb
open PySem L2 Dl
theorem eqD_str {i j : Str} : eqD (.str i) (.str j) = decide (i = j) := by
  show (PyData.str i).eqv (.str j) = _
  by_cases h : i = j
  · subst h
    simp [PyData.eqv]
  · simp [PyData.eqv, h]
theorem okN_name {i : Str} (h : isName i = true) : OkN 0 (.str i) := by
  refine ⟨rfl, ?_, Nat.le_refl _⟩
  unfold isName at h
  show PyData.canLay0 (.str i) = true
  rw [PyData.canLay0, PyData.strOk]
  split at h
  · rename_i c hc
    have h := of_decide_eq_true h
    have all : ∀ c ∈ letters.cps.toList, c < 0x110000 := by decide +kernel
    have e : i.cps = #[c] := by
      rw [← Array.toList_inj, hc]
    rw [e]
    simpa using all c h
  · cases h
theorem eqD_strs (xs ys : List Str) : eqD (dStrs xs) (dStrs ys) = decide (xs = ys) := eqD_map (fun a b => eqD_str) xs ys
theorem okD_strs (xs : List Str) (h : ∀ x ∈ xs, isName x = true) : okD (dStrs xs) = true := (okN_map (k := 0) fun x hx => okN_name (h x hx)).ok
theorem look_mem {st : Sts} (h : StsOk st) {r : Str × Int} (hr : r ∈ st) : look st r.1 = r.2 := by
  unfold look
  have nd := h.nd
  clear h
  induction st with
  | nil => cases hr
  | cons a st ih =>
    rw [List.map_cons, List.nodup_cons] at nd
    rcases List.mem_cons.mp hr with e | hr
    · subst e
      simp
    · have : ¬ a.1 = r.1 := fun z => nd.1 (z ▸ List.mem_map_of_mem hr)
      rw [List.find?_cons_of_neg (by simpa using this)]
      exact ih hr nd.2
theorem look_val {st : Sts} (h : StsOk st) {x : Str} (hx : x ∈ st.map (·.1)) : valD (ksOf st) (dsOf st) (Sum.inr x) = some (.int (look st x)) := by
  obtain ⟨r, hr, rfl⟩ := List.mem_map.mp hx
  rw [look_mem h hr]
  refine valD_map (kf := fun r : Str × Int => (Sum.inr r.1 : Key)) (vf := fun r => D.int r.2) ?_ hr
  exact List.pairwise_map.mpr ((List.pairwise_map.mp h.nd).imp fun h z => h (by injection z))
theorem look_bd {st : Sts} (h : StsOk st) {x : Str} (hx : x ∈ st.map (·.1)) : (look st x).natAbs ≤ 9 := by
  obtain ⟨r, hr, rfl⟩ := List.mem_map.mp hx
  rw [look_mem h hr]
  exact h.bd r hr
theorem sumAt_app (st : Sts) (f g : List (Int × Str)) : sumAt st (f ++ g) = sumAt st f + sumAt st g := by
  rw [sumAt, List.map_append, List.sum_append]
  rfl
theorem sumAt_filter (st : Sts) (f : List (Int × Str)) : sumAt st (f.filter fun t => t.1 != 0) = sumAt st f := by
  induction f with
  | nil => rfl
  | cons t f ih =>
    by_cases h : t.1 = 0
    · rw [List.filter_cons_of_neg (by simp [h]), ih]
      show _ = t.1 * look st t.2 + sumAt st f
      rw [h]
      omega
    · rw [List.filter_cons_of_pos (by simp [h])]
      show t.1 * look st t.2 + sumAt st _ = t.1 * look st t.2 + sumAt st f
      rw [ih]
def TermZ (ls : List Str) (t : Int × Str) : Prop := t.2 ∈ ls ∧ t.1.natAbs ≤ 9
section
variable {P : Program} {w : World} {K : PySem.W.Frag} {mg : Str → Option Value} {base : Heap}
abbrev nsFirst : List Str := ["pool", "starts", "letter", "found", "noughts", "turn", "others", "one", "two", "other", "term"]
theorem body_lfirst {f : Addr} (hl : mg "len" = none) (hrg : mg "range" = none) (hso : mg "sorted" = none) (hmx : mg "max" = none) (hab : mg "abs" = none) (GD : FnG P w K mg base 1 "_law_draw" cDraw) (GF : FnG P w K mg base 2 "_law_factor" cFactor) : BodyOk P w K mg base 2 nsFirst ["pool", "starts", "letter"] "_law_first" s_Lfirst f cFirstF := by
  intro cdv A outer s H E hr args M P0 ⟨k, d, st, x, e1, e2, hp, hk, so, hx, hP⟩
  subst e1
  subst e2
  have hu := hr.units
  have nd := sc_Lfirst.nd
  have hr1 := hr.mono (show 1 ≤ 2 by decide)
  show SDs _ _ ([.cel 0, .cel 1, .dat (.str x), .un, .un, .un, .un, .un, .un, .un, .un], [.lst d, .dic (ksOf st) (dsOf st)]) _ _
  refine sds_cutF (fun c => ∃ d' f0, c = ([.cel 0, .cel 1, .dat (.str x), .cel 2, .un, .un, .un, .un, .un, .un, .un], [.lst d', .dic (ksOf st) (dsOf st), .lst (List.map dTerm f0)]) ∧ PoolOk (k + 1) d' ∧ f0.length ≤ 1 ∧ (∀ t ∈ f0, TermZ (st.map (·.1)) t) ∧ sumAt st f0 = look st x) (sd_set (i := 3) (ed_new (en_if ?_)) nd) ?_
  · refine td_w (wd_or (td_neI hu (ed_dget hu (ev 1 rfl (ev 2 rfl ⟨_, _, Sum.inr x, _, rfl, rfl, look_val so hx, ed_int ⟨_, _, rfl, rfl, fun hb => ?_, fun hb => ⟨fun _ => ?_, fun z => by cases z⟩⟩⟩)))))
    · refine wd_or1 (td_eqI hu (ed_draw GD hr1 0 rfl (ed_int ⟨2, k, d, _, rfl, rfl, hp, by omega, by decide, by decide, fun v d' v0 v1 hp' => ed_int ⟨_, _, rfl, rfl, fun hv => ?_, fun hv => ?_⟩⟩)))
      · refine en_lst (ad_cons (ed_tup (ad_cons (ed_int (ad_cons (ev 2 rfl (ad_nil ⟨[_, _], rfl, szl (by simp), ad_nil ⟨[_], rfl, szl (by simp), .of ⟨d', [(1, x)], rfl, hp', by simp, ?_, ?_⟩⟩⟩)))))))
        · intro t ht
          rw [List.mem_singleton.mp ht]
          exact ⟨hx, show (1 : Int).natAbs ≤ 9 by decide⟩
        · simp [sumAt]
      · refine en_lst (ad_nil ⟨[], rfl, Nat.zero_le _, .of ⟨d', [], rfl, hp', by simp, by simp, ?_⟩⟩)
        have : look st x = 0 := by simpa using hb
        rw [this]
        rfl
    · refine en_lst (ad_cons (ed_tup (ad_cons (ed_int (ad_cons (ev 2 rfl (ad_nil ⟨[_, _], rfl, szl (by simp), ad_nil ⟨[_], rfl, szl (by simp), .of ⟨d, [(1, x)], rfl, hp.mono (by omega), by simp, ?_, ?_⟩⟩⟩)))))))
      · intro t ht
        rw [List.mem_singleton.mp ht]
        exact ⟨hx, show (1 : Int).natAbs ≤ 9 by decide⟩
      · simp [sumAt]
  rintro c ⟨d', f0, rfl, hp', hf0, hz0, hs0⟩
  refine sds_cons (sd_lockC (k := 1) rfl fun od kvs ek => ?_)
  refine sd_setLc (i := 4) (own := [("other", 9)]) (t := .one 9) nd (blkOk_by (N := nsFirst) (sc := defScope s_Lfirst) (by decide +kernel)) (fun s H C cl fp => tg_name nd) ?_
  have eit : kvs.map (fun kv => keyD kv.1) = st.map fun r => D.str r.1 := by
    have : (kvs.map (·.1)).map keyD = (ksOf st).map keyD := by rw [ek]
    rw [List.map_map] at this
    rw [ksOf, List.map_map] at this
    exact this
  refine id_keys (ev 1 rfl ⟨1, od, kvs, dsOf st, rfl, rfl, ?_⟩)
  refine lcd_filter st (fun r => .str r.1) (fun r => r.2 == 0) (fun r => .str r.1) eit (szl (by have := so.few; omega)) ?_ (fun acc => rfl) ?_
  · intro r hrm acc
    refine ⟨_, rfl, fun s H C cl fp => ?_, fun _ s H C cl fp => ev 9 rfl ⟨rfl, rfl⟩⟩
    refine td_eqI hu (ed_dget hu (ev 1 rfl (ev 9 rfl ⟨ksOf st, dsOf st, Sum.inr r.1, .int r.2, ?_, rfl, ?_, ed_int ⟨_, _, rfl, rfl, rfl, rfl⟩⟩)))
    · show some (D.dic (kvs.map (·.1)) (dsOf st)) = _
      rw [ek]
    · have := look_val so (List.mem_map_of_mem (f := (·.1)) hrm)
      rw [look_mem so hrm] at this
      exact this
  refine .inr ⟨rfl, ?_⟩
  generalize hns : (st.filter fun r => r.2 == 0).map (·.1) = ns
  have hnm : ∀ y ∈ ns, y ∈ st.map (·.1) ∧ look st y = 0 := by
    intro y hy
    rw [← hns] at hy
    obtain ⟨r, hr', rfl⟩ := List.mem_map.mp hy
    obtain ⟨h1, h2⟩ := List.mem_filter.mp hr'
    exact ⟨List.mem_map_of_mem h1, by rw [look_mem so h1]; simpa using h2⟩
  have ens : (st.filter fun r => r.2 == 0).map (fun r => D.str r.1) = ns.map .str := by
    rw [← hns, List.map_map]
    rfl
  rw [ens, ek]
  have hnn : ∀ y ∈ ns, isName y = true := by
    intro y hy
    obtain ⟨r, hr', e⟩ := List.mem_map.mp (hnm y hy).1
    rw [← e]
    exact so.nm r hr'
  have hnl : ns.length ≤ 26 := by
    rw [← hns, List.length_map]
    exact Nat.le_trans (List.length_filter_le _ _) so.few
  show SDs _ _ ([.cel 0, .cel 1, .dat (.str x), .cel 2, .dat (dStrs ns), .un, .un, .un, .un, .un, .un], [.lst d', .dic (ksOf st) (dsOf st), .lst (List.map dTerm f0)]) _ _
  refine sds_cons (sd_forF (t := .one 5) (tg_name nd) (id_range1 hrg (ed_draw GD hr1 0 rfl (ed_int ⟨3, _, d', _, rfl, rfl, hp', by omega, by decide, by decide, fun v d1 v0 v1 hp1 => ?_⟩))))
  refine ⟨v, rfl, by omega, by omega, ?_⟩
  refine ⟨fun i c => ∃ d f Mx j, c = ([.cel 0, .cel 1, .dat (.str x), .cel (j + 2), .dat (dStrs ns), .un, .un, .un, .un, .un, .un], .lst d :: .dic (ksOf st) (dsOf st) :: Mx) ∧ Mx[j]? = some (.lst (List.map dTerm f)) ∧ PoolOk (k + 2 + 10 * i) d ∧ f.length ≤ 1 + 2 * i ∧ (∀ t ∈ f, TermZ (st.map (·.1)) t) ∧ sumAt st f = look st x, .of ⟨d1, f0, [.lst (List.map dTerm f0)], 0, rfl, rfl, hp1, hf0, hz0, hs0⟩, ?_, ?_⟩
  · rintro i c dd hdd ⟨d2, f, Mx, j, rfl, hj, hp2, hfl, hz, hs⟩
    rw [rangeD_map] at hdd
    obtain ⟨y, hy, rfl⟩ := map_get hdd
    have hi : i < v.toNat := by
      have := (List.getElem?_eq_some_iff.mp hy).1
      simpa using this
    refine ⟨trivial, _, rfl, ?_⟩
    show SDs _ _ ([.cel 0, .cel 1, .dat (.str x), .cel (j + 2), .dat (dStrs ns), .dat _, .un, .un, .un, .un, .un], .lst d2 :: .dic (ksOf st) (dsOf st) :: Mx) _ _
    refine sds_one (sd_if (td_imp (P := fun b M1 => ∃ d3, M1 = .lst d3 :: .dic (ksOf st) (dsOf st) :: Mx ∧ PoolOk (k + 3 + 10 * i) d3 ∧ (b = true → ns ≠ [])) ?_ ?_))
    · refine td_w (wd_and (td_ne hu (ev 4 rfl (ed_lst (ad_nil ⟨[], rfl, Nat.zero_le _, dStrs ns, dStrs [], rfl, rfl, okD_strs _ fun y hy => hnn y hy, okD_strs _ (by simp), _, rfl, fun hb => ?_, fun hb => ⟨d2, rfl, hp2.mono (by omega), fun z => by cases z⟩⟩)))))
      have hne : ns ≠ [] := by
        rw [eqD_strs] at hb
        simpa using hb
      exact wd_and1 (td_eqI hu (ed_draw GD hr1 0 rfl (ed_int ⟨2, _, d2, _, rfl, rfl, hp2, by omega, by decide, by decide, fun v2 d3 a2 b2 hp3 => ed_int ⟨_, _, rfl, rfl, d3, rfl, hp3.mono (by omega), fun _ => hne⟩⟩)))
    rintro b M1 ⟨d3, rfl, hp3, hne⟩
    refine ⟨fun hb => ?_, fun _ => ?_⟩
    · have hne := hne hb
      have hn1 : 1 ≤ ns.length := by
        cases ns with
        | nil => exact absurd rfl hne
        | cons => simp
      refine sds_one (sd_expr (ed_append (ev 3 rfl ⟨j + 2, List.map dTerm f, rfl, hj, ?_⟩)))
      refine ed_tup (ad_cons (ed_drawn GF hr 0 rfl rfl ⟨_, d3, rfl, rfl, hp3, by omega, fun c d4 c1 c2 hp4 => ⟨d4, rfl, ?_⟩⟩ (mono := fmono)))
      refine ad_cons (ed_ix (ev 4 rfl (ed_draw GD hr1 0 rfl (ed_len hl (ev 4 rfl ⟨dStrs ns, ns.length, rfl, by simp [LenOk, dStrs], _, _, d4, _, rfl, rfl, hp4, by omega, by omega, by omega, fun q d5 q1 q2 hp5 => ?_⟩)))))
      obtain ⟨qn, rfl⟩ : ∃ qn : Nat, q = (qn : Nat) := ⟨q.toNat, by omega⟩
      have hq : qn < ns.length := by omega
      refine ⟨.str ns[qn], atI_nat (by simp [List.getElem?_eq_getElem hq]), ?_⟩
      obtain ⟨m1, m2⟩ := hnm ns[qn] (List.getElem_mem hq)
      refine ad_nil ⟨[_, _], rfl, szl (by simp), _, List.map dTerm f, rfl, hj, szlt (by rw [List.length_map]; omega), ?_⟩
      refine UpG.by (e0 := [.cel 0, .cel 1, .dat (.str x), .cel (j + 2), .dat (dStrs ns), .un, .un, .un, .un, .un, .un]) ⟨d5, f ++ [(c, ns[qn])], Mx.set j (.lst (List.map dTerm f ++ [.tup [.int c, .str ns[qn]]])), j, rfl, ?_, hp5.mono (by omega), by simp; omega, ?_, ?_⟩ ⟨.inl rfl, .inl rfl, .inl rfl, .inl rfl, .inl rfl, .inr rfl, .inr rfl, .inr rfl, .inr rfl, .inr rfl, .inr rfl, trivial⟩
      · rw [List.getElem?_set_self (List.getElem?_eq_some_iff.mp hj).1]
        simp [dTerm]
      · intro t ht
        rcases List.mem_append.mp ht with ht | ht
        · exact hz t ht
        · rw [List.mem_singleton.mp ht]
          exact ⟨m1, c2⟩
      · rw [sumAt_app, hs]
        simp [sumAt, m2]
    · have hst : 1 ≤ st.length := by
        cases st with
        | nil => cases hx
        | cons => simp
      refine sds_cons (sd_set (i := 6) (ed_of_en (en_sortedD hso (ev 1 rfl ⟨st.map (·.1), dsOf st, by rw [ksOf, List.map_map]; rfl, by have := so.few; rw [List.length_map]; omega, fun ys hys _ => ?_⟩))) nd)
      have hyl : ys.length = st.length := by rw [hys.length_eq, List.length_map]
      have hym : ∀ y ∈ ys, y ∈ st.map (·.1) := fun y hy => hys.mem_iff.mp hy
      have pick : ∀ q : Int, 0 ≤ q → q < ys.length → ∃ y, y ∈ st.map (·.1) ∧ L2.atI (ys.map D.str) q = some (.str y) := fun q q1 q2 => by
        obtain ⟨qn, rfl⟩ : ∃ qn : Nat, q = (qn : Nat) := ⟨q.toNat, by omega⟩
        have hq : qn < ys.length := by omega
        exact ⟨ys[qn], hym _ (List.getElem_mem hq), atI_nat (by simp [List.getElem?_eq_getElem hq])⟩
      have sf := so.few
      refine sds_cons (sd_par (i := 7) (j := 8) ?_ nd)
      refine ad_cons (ed_ix (ev 6 rfl (ed_draw GD hr1 0 rfl (ed_len hl (ev 6 rfl ⟨_, ys.length, rfl, by simp [LenOk], _, _, d3, _, rfl, rfl, hp3, by omega, by omega, by omega, fun q d4 q1 q2 hp4 => ?_⟩)))))
      obtain ⟨y1, hy1, e1⟩ := pick q q1 q2
      refine ⟨_, e1, ?_⟩
      refine ad_cons (ed_ix (ev 6 rfl (ed_draw GD hr1 0 rfl (ed_len hl (ev 6 rfl ⟨_, ys.length, rfl, by simp [LenOk], _, _, d4, _, rfl, rfl, hp4, by omega, by omega, by omega, fun q' d5 q3 q4 hp5 => ?_⟩)))))
      obtain ⟨y2, hy2, e2⟩ := pick q' q3 q4
      refine ⟨_, e2, ad_nil ⟨_, _, rfl, ?_⟩⟩
      have l1 := look_val so hy1
      have l2 := look_val so hy2
      have b1 := look_bd so hy1
      have b2 := look_bd so hy2
      refine sds_one (sd_if (td_lt (ed_max2 hmx (ed_abs hab (ed_dget hu (ev 1 rfl (ev 7 rfl ⟨_, _, Sum.inr y1, _, rfl, rfl, l1, look st y1, rfl, ed_abs hab (ed_dget hu (ev 1 rfl (ev 8 rfl ⟨_, _, Sum.inr y2, _, rfl, rfl, l2, look st y2, rfl, _, _, rfl, rfl, ed_int ⟨_, _, rfl, rfl, trivial, _, rfl, fun _ => ?_, fun _ => ?_⟩⟩)))⟩)))))))
      · refine sds_one (sd_set (i := 3) (ed_new (en_cat (ev 3 rfl (ed_lst (ad_cons (ed_tup (ad_cons (ed_dget hu (ev 1 rfl (ev 8 rfl ⟨_, _, Sum.inr y2, _, rfl, rfl, l2, ?_⟩))))))))) ) nd)
        refine ad_cons (ev 7 rfl (ad_nil ⟨[_, _], rfl, szl (by simp), ?_⟩))
        refine ad_cons (ed_tup (ad_cons (ed_sub (ed_int (ed_dget hu (ev 1 rfl (ev 7 rfl ⟨_, _, Sum.inr y1, _, rfl, rfl, l1, _, _, rfl, rfl, trivial, ?_⟩)))))))
        refine ad_cons (ev 8 rfl (ad_nil ⟨[_, _], rfl, szl (by simp), ?_⟩))
        refine ad_nil ⟨[_, _], rfl, szl (by simp), List.map dTerm f, _, ?_, rfl, szl (by simp; omega), ?_⟩
        · show (Cell.lst d5 :: .dic (ksOf st) (dsOf st) :: Mx)[j + 2]?.map Cell.toD = _
          rw [List.getElem?_cons_succ, List.getElem?_cons_succ, hj]
          rfl
        refine UpG.by (e0 := [.cel 0, .cel 1, .dat (.str x), .cel (Mx.length + 2), .dat (dStrs ns), .un, .un, .un, .un, .un, .un]) ⟨d5, f ++ [(look st y2, y1), (0 - look st y1, y2)], Mx ++ [.lst (List.map dTerm f ++ [.tup [.int (look st y2), .str y1], .tup [.int (0 - look st y1), .str y2]])], Mx.length, ?_, ?_, hp5.mono (by omega), by simp; omega, ?_, ?_⟩ ⟨.inl rfl, .inl rfl, .inl rfl, .inl rfl, .inl rfl, .inr rfl, .inr rfl, .inr rfl, .inr rfl, .inr rfl, .inr rfl, trivial⟩
        · simp [Dl.cellOf]
        · simp [dTerm]
        · intro t ht
          rcases List.mem_append.mp ht with ht | ht
          · exact hz t ht
          · simp at ht
            rcases ht with rfl | rfl
            · exact ⟨hy1, b2⟩
            · exact ⟨hy2, by show (-look st y1).natAbs ≤ 9; omega⟩
        · rw [sumAt_app, hs]
          simp only [sumAt, List.map_cons, List.map_nil, List.sum_cons, List.sum_nil]
          grind
      · refine sds_nil (UpG.by (e0 := [.cel 0, .cel 1, .dat (.str x), .cel (j + 2), .dat (dStrs ns), .un, .un, .un, .un, .un, .un]) ⟨d5, f, Mx, j, rfl, hj, hp5.mono (by omega), by omega, hz, hs⟩ ⟨.inl rfl, .inl rfl, .inl rfl, .inl rfl, .inl rfl, .inr rfl, .inr rfl, .inr rfl, .inr rfl, .inr rfl, .inr rfl, trivial⟩)
  · rintro c ⟨d2, f, Mx, j, rfl, hj, hp2, hfl, hz, hs⟩
    rw [show (rangeD 0 v.toNat).length = v.toNat by simp [rangeD]] at hp2 hfl
    refine ⟨trivial, sds_one (sd_retn (en_lc (own := [("term", 10)]) (t := .one 10) nd (blkOk_by (N := nsFirst) (sc := defScope s_Lfirst) (by decide +kernel)) (fun s H C cl fp => tg_name nd) ?_))⟩
    refine id_list (ev 3 rfl ⟨List.map dTerm f, ?_, ?_⟩)
    · show (Cell.lst d2 :: .dic (ksOf st) (dsOf st) :: Mx)[j + 2]?.map Cell.toD = _
      rw [List.getElem?_cons_succ, List.getElem?_cons_succ, hj]
      rfl
    refine lcd_filter f dTerm (fun t => t.1 != 0) dTerm rfl (szl (by omega)) ?_ (fun acc => ?_) ?_
    · intro t ht acc
      exact ⟨_, rfl, fun s H C cl fp => td_neI hu (ed_ix (ev 10 rfl (ed_int ⟨.int t.1, rfl, ed_int ⟨_, _, rfl, rfl, rfl, rfl⟩⟩))), fun _ s H C cl fp => ev 10 rfl ⟨rfl, rfl⟩⟩
    · show (((Cell.lst d2 :: .dic (ksOf st) (dsOf st) :: Mx) ++ [.lst acc])[j + 2]?).map Cell.toD = _
      rw [List.getElem?_append_left (by have := (List.getElem?_eq_some_iff.mp hj).1; simp; omega), List.getElem?_cons_succ, List.getElem?_cons_succ, hj]
      rfl
    · refine ⟨rfl, by simp, ?_⟩
      refine po2 (hP (f.filter fun t => t.1 != 0) d2 ?_ ?_ ?_ (hp2.mono (by omega))) rfl rfl
      · exact Nat.le_trans (List.length_filter_le _ _) (by omega)
      · intro t ht
        obtain ⟨h1, h2⟩ := List.mem_filter.mp ht
        exact ⟨(hz t h1).1, by simpa using h2, (hz t h1).2⟩
      · rw [sumAt_filter, hs]
end
end Fb
set_option Elab.async false
set_option linter.all false
set_option maxRecDepth 100000
set_option maxHeartbeats 4000000
namespace Fb
open PySem L2 Dl
def L6 : List Str := ["s", "d", "t", "e", "q", "z"]
theorem L6_nd : L6.Nodup := by decide +kernel
theorem L6_nm : ∀ x ∈ L6, isName x = true := by decide +kernel
theorem cut_takeN {α : Type} {xs : List α} {m : Nat} (h : m ≤ xs.length) : cutD xs none (some (m : Int)) = xs.take m := by
  unfold cutD
  rw [HT.sIx_nat, HT.sIx_none, Nat.min_eq_left h]
  simp
/-- cells 0, 1, 2 are handed on -/
theorem call01 {c c' : Cell} {M : Mem} {d : D} (h : c.live = true) (h' : c'.live = true) : CallAt [0, 1] [.cel 0, .cel 1, .dat d] [.cel 0, .cel 1, .dat d] (c :: c' :: M) := ⟨rfl, by decide, fun k hk => by
  rcases List.mem_cons.mp hk with rfl | hk
  · exact ⟨c, rfl, h⟩
  · cases List.mem_singleton.mp hk
    exact ⟨c', rfl, h'⟩, fun e he => by
  rcases List.mem_cons.mp he with rfl | he
  · exact (by decide : 0 < 2)
  · rcases List.mem_cons.mp he with rfl | he
    · exact (by decide : 1 < 2)
    · cases List.mem_singleton.mp he
      trivial⟩
theorem call0dd {c : Cell} {M : Mem} {d d' : D} (h : c.live = true) : CallAt [0] [.cel 0, .dat d, .dat d'] [.cel 0, .dat d, .dat d'] (c :: M) := ⟨rfl, by decide, fun k hk => ⟨c, by cases List.mem_singleton.mp hk; rfl, h⟩, fun e he => by
  rcases List.mem_cons.mp he with rfl | he
  · exact Nat.zero_lt_one
  · rcases List.mem_cons.mp he with rfl | he
    · trivial
    · cases List.mem_singleton.mp he
      trivial⟩
/-- a row of a drawn book, as it is made -/
structure RowMade (b : Nat) (st : Sts) (r : NR) : Prop where
  nm : r.name ∈ st.map (·.1)
  stt : r.start = look st r.name
  fl : r.forms.length = b
  tm : ∀ f ∈ r.forms, f.length ≤ 5 ∧ ∀ t ∈ f, TermOk (st.map (·.1)) t
  sum : sumAt st (r.forms.getD 0 []) = look st r.name
theorem sts_ok {st : Sts} {m : Nat} (h : st.map (·.1) = L6.take m) (hb : ∀ r ∈ st, r.2.natAbs ≤ 9) : StsOk st := by
  have hl : st.length ≤ 6 := by
    have := congrArg List.length h
    simp [L6] at this
    omega
  refine ⟨?_, by omega, hb, fun r hr => ?_⟩
  · rw [h]
    exact L6_nd.sublist (List.take_sublist _ _)
  · refine L6_nm _ (List.mem_of_mem_take (i := m) ?_)
    rw [← h]
    exact List.mem_map_of_mem hr
theorem kind_ok {b many : Nat} {st : Sts} {rows : List NR} (so : StsOk st) (hb : 2 ≤ b ∧ b ≤ 4) (hp : (names rows).Perm (st.map (·.1))) (h1 : 1 ≤ st.length) (h2 : st.length ≤ many) (hr : ∀ r ∈ rows, RowMade b st r) : KindOk b rows many := by
  have hl : rows.length = st.length := by
    have := hp.length_eq
    simpa [names] using this
  have nd : (names rows).Nodup := hp.nodup_iff.mpr so.nd
  have hn : ∀ x, x ∈ st.map (·.1) → x ∈ names rows := fun x hx => hp.mem_iff.mpr hx
  have hst : ∀ x, x ∈ names rows → startOf rows x = look st x := fun x hx => by
    obtain ⟨r, hr', rfl⟩ := List.mem_map.mp hx
    rw [startOf_mem nd hr', (hr r hr').stt]
  have sf := so.few
  refine ⟨⟨hb, fun r hr' => ?_, nd, fun r hr' => (hr r hr').fl, fun r hr' f hf => ⟨Nat.le_trans ((hr r hr').tm f hf).1 (by decide), fun t ht => ?_⟩, fun r hr' => ⟨?_, ?_⟩, by omega, by decide⟩, by omega, by omega, fun r hr' f hf => ((hr r hr').tm f hf).1, fun r hr' => ⟨?_, fun f hf t ht => ?_⟩⟩
  · obtain ⟨q, hq, e⟩ := List.mem_map.mp (hr r hr').nm
    rw [← e]
    exact so.nm q hq
  · obtain ⟨a1, a2, a3⟩ := ((hr r hr').tm f hf).2 t ht
    exact ⟨hn _ a1, Nat.lt_of_le_of_lt a3 (by decide)⟩
  · rw [(hr r hr').stt]
    exact Nat.lt_of_le_of_lt (look_bd so (hr r hr').nm) (by decide)
  · rw [(hr r hr').stt, ← (hr r hr').sum, sumAt, valAt]
    congr 1
    refine List.map_congr_left fun t ht => ?_
    have hm : r.forms.getD 0 [] ∈ r.forms := by
      have : 0 < r.forms.length := by rw [(hr r hr').fl]; omega
      rw [List.getD_eq_getElem?_getD, List.getElem?_eq_getElem this]
      exact List.getElem_mem this
    obtain ⟨a1, a2, a3⟩ := ((hr r hr').tm _ hm).2 t ht
    rw [hst _ (hn _ a1)]
  · rw [(hr r hr').stt]
    exact look_bd so (hr r hr').nm
  · obtain ⟨a1, a2, a3⟩ := ((hr r hr').tm f hf).2 t ht
    exact ⟨a3, a2⟩
section
variable {P : Program} {w : World} {K : PySem.W.Frag} {mg : Str → Option Value} {base : Heap}
theorem body_lkind {f : Addr} (hl : mg "len" = none) (hrg : mg "range" = none) (GD : FnG P w K mg base 1 "_law_draw" cDraw) (GF : FnG P w K mg base 3 "_law_first" cFirstF) (GT : FnG P w K mg base 3 "_law_terms" cTerms) : BodyOk P w K mg base 3 ["pool", "many", "base_here", "letters", "starts", "lines", "letter", "formulas", "figure_here"] ["pool", "many"] "_law_kind" s_Lkind f cKindF := by
  intro cdv A outer s H E hr args M P0 ⟨k, d, many, e1, e2, hp, hk, m1, m6, hP⟩
  subst e1
  subst e2
  have hu := hr.units
  have nd := sc_Lkind.nd
  have hr1 := hr.mono (show 1 ≤ 3 by decide)
  show SDs _ _ ([.cel 0, .dat (.int (many : Nat)), .un, .un, .un, .un, .un, .un, .un], [.lst d]) _ _
  refine sds_cons (sd_par (i := 2) (j := 3) ?_ nd)
  refine ad_cons (ed_ix (ed_lit 9 (d := .lst [.int 2, .int 2, .int 3, .int 4]) rfl (ed_draw GD hr1 0 rfl (ed_int ⟨4, k, d, _, rfl, rfl, hp, by omega, by decide, by decide, fun v d1 v0 v1 hp1 => ?_⟩))))
  obtain ⟨xb, hxb, b, rfl, hb⟩ := four (P := fun x => ∃ b : Nat, x = .int (b : Nat) ∧ 2 ≤ b ∧ b ≤ 4) v0 v1 ⟨2, rfl, by decide, by decide⟩ ⟨2, rfl, by decide, by decide⟩ ⟨3, rfl, by decide, by decide⟩ ⟨4, rfl, by decide, by decide⟩
  refine ⟨_, hxb, ?_⟩
  refine ad_cons (ed_of_en (en_slice (ed_lit 9 (d := dStrs L6) rfl (od_none (od_some (ed_add (ed_int (ed_draw GD hr1 0 rfl (ev 1 rfl ⟨_, _, d1, _, rfl, rfl, hp1, by omega, by omega, by omega, fun v2 d2 a2 b2 hp2 => ?_⟩)))))))))
  obtain ⟨m, hm, ml, mm⟩ : ∃ m : Nat, 1 + v2 = (m : Int) ∧ 1 ≤ m ∧ m ≤ many := ⟨(1 + v2).toNat, by omega, by omega, by omega⟩
  have m6' : m ≤ 6 := by omega
  refine ⟨1 + v2, rfl, L6.map .str, rfl, ad_nil ⟨_, _, rfl, ?_⟩⟩
  rw [hm, cut_takeN (by show m ≤ 6; exact m6'), ← List.map_take]
  have hls : (L6.take m).length = m := by
    rw [List.length_take]
    exact Nat.min_eq_left m6'
  have hlnd : (L6.take m).Nodup := L6_nd.sublist (List.take_sublist _ _)
  generalize hL : L6.take m = ls at *
  show SDs _ _ ([.cel 0, .dat (.int (many : Nat)), .dat (.int (b : Nat)), .dat (dStrs ls), .un, .un, .un, .un, .un], [.lst d2]) _ _
  refine sds_cons (sd_par (i := 4) (j := 5) (ad_cons (ed_new (en_dnew (ad_cons (ed_new (en_lst (ad_nil ⟨[], rfl, Nat.zero_le _, ad_nil ⟨_, _, rfl, ?_⟩⟩))))))) nd)
  show SDs _ _ ([.cel 0, .dat (.int (many : Nat)), .dat (.int (b : Nat)), .dat (dStrs ls), .cel 1, .cel 2, .un, .un, .un], [.lst d2, .dic [] [], .lst []]) _ _
  -- the starts
  refine sds_cons (sd_forF (t := .one 6) (tg_name nd) (id_list (ev 3 rfl ⟨ls.map .str, rfl, ?_⟩)))
  refine ⟨fun i c => ∃ d st, c = ([.cel 0, .dat (.int (many : Nat)), .dat (.int (b : Nat)), .dat (dStrs ls), .cel 1, .cel 2, .un, .un, .un], [.lst d, .dic (ksOf st) (dsOf st), .lst []]) ∧ PoolOk (k + 2 + 2 * i) d ∧ st.map (·.1) = ls.take i ∧ ∀ r ∈ st, r.2.natAbs ≤ 9, .of ⟨d2, [], rfl, hp2, rfl, by simp⟩, ?_, ?_⟩
  · rintro i c dd hdd ⟨d3, st, rfl, hp3, hst, hbd⟩
    obtain ⟨x, hx, rfl⟩ := map_get hdd
    have hi : i < ls.length := (List.getElem?_eq_some_iff.mp hx).1
    refine ⟨rfl, _, rfl, ?_⟩
    show SDs _ _ ([.cel 0, .dat (.int (many : Nat)), .dat (.int (b : Nat)), .dat (dStrs ls), .cel 1, .cel 2, .dat (.str x), .un, .un], [.lst d3, .dic (ksOf st) (dsOf st), .lst []]) _ _
    refine sds_one (sd_dput hu (ed_ix (ed_lst (ad_cons (ed_int (ad_cons (ed_int (ad_cons (ed_int (ad_cons (ed_sub (ed_draw GD hr1 0 rfl (ed_int ⟨19, _, d3, _, rfl, rfl, hp3, by omega, by decide, by decide, fun v4 d4 a4 b4 hp4 => ?_⟩)))))))))))))
    refine ed_int ⟨_, _, rfl, rfl, trivial, ad_nil ⟨[_, _, _, _], rfl, szl (by simp), ?_⟩⟩
    refine ed_draw GD hr1 0 rfl (ed_int ⟨4, _, d4, _, rfl, rfl, hp4, by omega, by decide, by decide, fun v5 d5 a5 b5 hp5 => ?_⟩)
    obtain ⟨xs, hxs, sv, rfl, hsv⟩ := four (P := fun x => ∃ sv : Int, x = .int sv ∧ sv.natAbs ≤ 9) a5 b5 ⟨0, rfl, by decide⟩ ⟨1, rfl, by decide⟩ ⟨1, rfl, by decide⟩ ⟨v4 - 9, rfl, by omega⟩
    refine ⟨_, hxs, ev 4 rfl ⟨1, rfl, ev 6 rfl ⟨_, ksOf st, dsOf st, Sum.inr x, rfl, rfl, rfl, ?_, ?_⟩⟩⟩
    · have := congrArg List.length hst
      rw [List.length_map] at this
      rw [dsOf, List.length_map]
      exact szlt (by rw [this, List.length_take]; omega)
    · have hfr : (Sum.inr x : Key) ∉ ksOf st := by
        intro z
        obtain ⟨r, hr', e⟩ := List.mem_map.mp z
        have ex : r.1 = x := by injection e
        have : x ∈ ls.take i := by
          rw [← hst, ← ex]
          exact List.mem_map_of_mem hr'
        obtain ⟨j, hj, ej⟩ := List.getElem_of_mem this
        rw [List.getElem_take] at ej
        have hij : j < i := by
          rw [List.length_take] at hj
          omega
        have := (List.pairwise_iff_getElem.mp hlnd) j i (by omega) hi hij
        rw [ej] at this
        have hx' := (List.getElem?_eq_some_iff.mp hx).2
        exact this hx'.symm
      rw [putKey_new hfr, putVal_new hfr]
      refine UpG.by (e0 := [.cel 0, .dat (.int (many : Nat)), .dat (.int (b : Nat)), .dat (dStrs ls), .cel 1, .cel 2, .un, .un, .un]) ⟨d5, st ++ [(x, sv)], ?_, hp5.mono (by omega), ?_, ?_⟩ ⟨.inl rfl, .inl rfl, .inl rfl, .inl rfl, .inl rfl, .inl rfl, .inr rfl, .inr rfl, .inr rfl, trivial⟩
      · simp [ksOf, dsOf]
      · rw [List.map_append, hst, take_snoc hx]
        rfl
      · intro r hr'
        rcases List.mem_append.mp hr' with h | h
        · exact hbd r h
        · rw [List.mem_singleton.mp h]
          exact hsv
  rintro c ⟨d3, st, rfl, hp3, hst, hbd⟩
  rw [List.length_map] at hp3 hst
  rw [List.take_length] at hst
  have so : StsOk st := sts_ok (m := m) (by rw [hst, hL]) hbd
  have hsl : st.length = m := by
    have := congrArg List.length hst
    rw [List.length_map] at this
    omega
  refine ⟨rfl, ?_⟩
  rw [hls] at hp3
  refine sds_cons (sd_forF (t := .one 6) (tg_name nd) (id_list (ev 3 rfl ⟨ls.map .str, rfl, ?_⟩)))
  refine ⟨fun i c => ∃ d rows, c = ([.cel 0, .dat (.int (many : Nat)), .dat (.int (b : Nat)), .dat (dStrs ls), .cel 1, .cel 2, .un, .un, .un], [.lst d, .dic (ksOf st) (dsOf st), .lst (List.map dNR rows)]) ∧ PoolOk (k + 20 + 600 * i) d ∧ (names rows).Perm (ls.take i) ∧ ∀ r ∈ rows, RowMade b st r, .of ⟨d3, [], rfl, hp3.mono (by omega), .nil, by simp⟩, ?_, ?_⟩
  · rintro i c dd hdd ⟨d4, rows, rfl, hp4, hpr, hrw⟩
    obtain ⟨x, hx, rfl⟩ := map_get hdd
    have hi : i < ls.length := (List.getElem?_eq_some_iff.mp hx).1
    have hxm : x ∈ st.map (·.1) := by
      rw [hst]
      exact List.mem_of_getElem? hx
    have hrl : rows.length = i := by
      have := hpr.length_eq
      rw [List.length_take] at this
      simp [names] at this
      omega
    refine ⟨rfl, _, rfl, ?_⟩
    show SDs _ _ ([.cel 0, .dat (.int (many : Nat)), .dat (.int (b : Nat)), .dat (dStrs ls), .cel 1, .cel 2, .dat (.str x), .un, .un], [.lst d4, .dic (ksOf st) (dsOf st), .lst (List.map dNR rows)]) _ _
    refine sds_cons (sd_set (i := 7) (ed_new (en_lst (ad_cons (ed_call GF hr (ad_cons (ev 0 rfl (ad_cons (ev 4 rfl (ad_cons (ev 6 rfl (ad_nil ⟨[0, 1], [.cel 0, .cel 1, .dat (.str x)], call01 rfl rfl, _, d4, st, x, rfl, rfl, hp4, by omega, so, hxm, fun f0 d5 f1 f2 f3 hp5 => ad_nil ⟨[dForm f0], rfl, szl (by simp), ?_⟩⟩))))))))))) nd)
    show SDs _ _ ([.cel 0, .dat (.int (many : Nat)), .dat (.int (b : Nat)), .dat (dStrs ls), .cel 1, .cel 2, .dat (.str x), .cel 3, .un], [.lst d5, .dic (ksOf st) (dsOf st), .lst (List.map dNR rows), .lst [dForm f0]]) _ _
    refine sds_cons (sd_forF (t := .one 8) (tg_name nd) (id_range2 hrg (ad_cons (ed_int (ad_cons (ev 2 rfl (ad_nil ⟨1, _, rfl, by omega, ?_⟩)))))))
    refine ⟨fun j c => ∃ d forms, c = ([.cel 0, .dat (.int (many : Nat)), .dat (.int (b : Nat)), .dat (dStrs ls), .cel 1, .cel 2, .dat (.str x), .cel 3, .un], [.lst d, .dic (ksOf st) (dsOf st), .lst (List.map dNR rows), .lst (List.map dForm forms)]) ∧ PoolOk (k + 20 + 600 * i + 100 + 100 * j) d ∧ forms.length = 1 + j ∧ forms.getD 0 [] = f0 ∧ ∀ f ∈ forms, f.length ≤ 5 ∧ ∀ t ∈ f, TermOk (st.map (·.1)) t, .of ⟨d5, [f0], rfl, hp5, rfl, rfl, ?_⟩, ?_, ?_⟩
    · intro f hf
      rw [List.mem_singleton.mp hf]
      exact ⟨f1, f2⟩
    · rintro j c dd hdd ⟨d6, forms, rfl, hp6, hfl, hf0, hft⟩
      rw [rangeD_map] at hdd
      obtain ⟨y, hy, rfl⟩ := map_get hdd
      have hj : j < b - 1 := by
        have := (List.getElem?_eq_some_iff.mp hy).1
        simp at this
        omega
      refine ⟨trivial, _, rfl, ?_⟩
      refine sds_one (sd_expr (ed_append (ev 7 rfl ⟨3, List.map dForm forms, rfl, rfl, ?_⟩)))
      refine ed_call GT hr (ad_cons (ev 0 rfl (ad_cons (ev 3 rfl (ad_cons (ed_int (ad_nil ⟨[0], [.cel 0, .dat (dStrs ls), .dat (.int 3)], call0dd rfl, _, d6, ls, 3, rfl, rfl, hp6, by omega, by omega, by omega, by decide, fun g d7 g1 g2 hp7 => ?_⟩)))))))
      refine ⟨dForm g, List.map dForm forms, rfl, rfl, szlt (by simp; omega), ?_⟩
      refine UpG.by (e0 := [.cel 0, .dat (.int (many : Nat)), .dat (.int (b : Nat)), .dat (dStrs ls), .cel 1, .cel 2, .dat (.str x), .cel 3, .un]) ⟨d7, forms ++ [g], by simp [updM], hp7.mono (by omega), by simp [hfl]; omega, ?_, ?_⟩ ⟨.inl rfl, .inl rfl, .inl rfl, .inl rfl, .inl rfl, .inl rfl, .inl rfl, .inl rfl, .inr rfl, trivial⟩
      · rw [← hf0, List.getD_eq_getElem?_getD, List.getD_eq_getElem?_getD, List.getElem?_append_left (by omega)]
      · intro f hf
        rcases List.mem_append.mp hf with h | h
        · exact hft f h
        · rw [List.mem_singleton.mp h]
          refine ⟨by omega, fun t ht => ?_⟩
          rw [hst]
          exact g2 t ht
    · rintro c ⟨d6, forms, rfl, hp6, hfl, hf0, hft⟩
      have eb : (rangeD 1 (((b : Nat) : Int) - 1).toNat).length = b - 1 := by
        simp [rangeD]
      rw [eb] at hp6 hfl
      refine ⟨trivial, ?_⟩
      refine sds_one (sd_expr (ed_insert (ev 5 rfl ⟨2, List.map dNR rows, rfl, rfl, ed_draw GD hr1 0 rfl (ed_add (ed_len hl (ev 5 rfl ⟨_, rows.length, rfl, by simp [LenOk, Cell.toD], ed_int ⟨_, _, d6, _, rfl, rfl, hp6, by omega, by omega, by omega, fun v7 d7 a7 b7 hp7 => ?_⟩⟩)))⟩)))
      refine ed_tup (ad_cons (ev 6 rfl (ad_cons (ed_dget hu (ev 4 rfl (ev 6 rfl ⟨ksOf st, dsOf st, Sum.inr x, _, rfl, rfl, look_val so hxm, ad_cons (ed_frz (i := 7) (k := 3) rfl rfl (show 1 ≤ 3 by decide) (ad_nil ⟨[_, _, _], rfl, szl (by simp), ?_⟩))⟩))))))
      refine ⟨_, List.map dNR rows, v7, rfl, rfl, rfl, szlt (by simp; omega), by omega, by omega, ?_⟩
      refine UpG.gc (M0 := [.lst d7, .dic (ksOf st) (dsOf st), .lst (List.map dNR (rows.take v7.toNat ++ [⟨x, look st x, forms⟩] ++ rows.drop v7.toNat))]) (M1 := [.dead (.lst (List.map dForm forms))]) (e0 := [.cel 0, .dat (.int (many : Nat)), .dat (.int (b : Nat)), .dat (dStrs ls), .cel 1, .cel 2, .un, .un, .un]) ⟨d7, _, rfl, hp7.mono (by omega), ?_, ?_⟩ ⟨.inl rfl, .inl rfl, .inl rfl, .inl rfl, .inl rfl, .inl rfl, .inr rfl, .inr rfl, .inr rfl, trivial⟩ ?_ (Nat.le_refl _) (fun e he => ?_)
      · rw [take_snoc hx]
        have e1 : names (rows.take v7.toNat ++ [⟨x, look st x, forms⟩] ++ rows.drop v7.toNat) = (names rows).take v7.toNat ++ ([x] ++ (names rows).drop v7.toNat) := by simp [names]
        rw [e1]
        refine (List.perm_append_comm_assoc _ _ _).trans ?_
        rw [List.take_append_drop]
        exact (List.perm_append_comm).trans (hpr.append_right [x])
      · intro r hr'
        have : r ∈ rows ∨ r = ⟨x, look st x, forms⟩ := by
          simp only [List.mem_append, List.mem_singleton] at hr'
          rcases hr' with (h | h) | h
          · exact .inl (List.mem_of_mem_take h)
          · exact .inr h
          · exact .inl (List.mem_of_mem_drop h)
        rcases this with h | rfl
        · exact hrw r h
        · exact ⟨hxm, rfl, by show forms.length = b; omega, hft, by show sumAt st (forms.getD 0 []) = _; rw [hf0]; exact f3⟩
      · show [Cell.lst d7, .dic (ksOf st) (dsOf st), .lst _, .dead _] = _
        simp [dNR, Cell.toD]
      · simp at he
        rcases he with rfl | rfl | rfl | rfl | rfl | rfl | rfl <;> first | trivial | exact (show 0 < 3 by decide) | exact (show 1 < 3 by decide) | exact (show 2 < 3 by decide)
  · rintro c ⟨d4, rows, rfl, hp4, hpr, hrw⟩
    rw [List.length_map] at hp4 hpr
    rw [List.take_length, ← hst] at hpr
    rw [hls] at hp4
    refine ⟨rfl, sds_one (sd_ret (ed_tup (ad_cons (ev 2 rfl (ad_cons (ed_frz (i := 5) (k := 2) rfl rfl (show 1 ≤ 2 by decide) (ad_nil ⟨[_, _], rfl, szl (by simp), ret_dat (po1 (hP b rows d4 ?_ (hp4.mono (by omega))) rfl)⟩)))))))⟩
    exact kind_ok so hb hpr (by omega) (by omega) hrw
end
end Fb
set_option Elab.async false
set_option linter.all false
set_option maxRecDepth 100000
set_option maxHeartbeats 4000000
namespace Fb
open PySem L2 Dl
section
variable {P : Program} {w : World} {K : PySem.W.Frag} {mg : Str → Option Value} {base : Heap}
theorem body_lmade {f CB : Addr} (hli : mg "list" = none) (GB : MakeG P w K mg base 3 "Book" CB (cBookInit CB)) : BodyOk P w K mg base 4 ["kind", "letter", "start", "formulas", "one"] ["kind"] "_law_made" s_Lmade f (cMade CB) := by
  intro cdv A outer s H E hr args M P0 ⟨g, b, rows, e1, e2, ok, hP⟩
  subst e1
  subst e2
  have nd := sc_Lmade.nd
  have hf := ok.few
  refine sds_one (sd_retn (en_make GB hr ?_))
  refine ad_cons (ed_ix (ev 0 rfl (ed_int ⟨.int (b : Nat), rfl, ?_⟩)))
  refine ad_cons (ed_of_en (en_lc (own := [("letter", 1), ("start", 2), ("formulas", 3)]) (t := .tup [1, 2, 3]) nd (blkOk_by (N := ["kind", "letter", "start", "formulas", "one"]) (sc := defScope s_Lmade) (by decide +kernel)) (fun s H C cl fp => tg_tup (tgs_cons (tgs_cons (tgs_cons tgs_nil nd) nd) nd)) ?_))
  refine id_list (ed_ix (ev 0 rfl (ed_int ⟨.lst (rows.map dNR), rfl, rows.map dNR, rfl, ?_⟩)))
  refine lcd_map rows dNR dNR rfl (szl (by omega)) ?_ (fun acc => rfl) ?_
  · intro r hr' acc
    refine ⟨_, rfl, fun s H C cl fp => ?_⟩
    have fl := ok.fl r hr'
    have hb := ok.base
    refine ed_tup (ad_cons (ev 1 rfl (ad_cons (ev 2 rfl (ad_cons (ed_of_en (en_lc (own := [("one", 4)]) (t := .one 4) nd (blkOk_by (N := ["kind", "letter", "start", "formulas", "one"]) (by rfl)) (fun s H C cl fp => tg_name nd) ?_)))))))
    refine id_list (ev 3 rfl ⟨r.forms.map dForm, rfl, ?_⟩)
    refine lcd_map r.forms dForm dForm rfl (szl (by omega)) ?_ (fun acc => rfl) ?_
    · intro fm hfm acc
      exact ⟨_, rfl, fun s H C cl fp => ed_of_en (en_list hli (ev 4 rfl ⟨dForm fm, fm.map dTerm, rfl, rfl, rfl, rfl⟩))⟩
    · exact ad_nil ⟨[_, _, _], rfl, szl (by simp), rfl, rfl⟩
  · refine ad_nil ⟨[_, _], rfl, g, b, rows, rfl, rfl, ok, rfl, _, _, rfl, rfl, Nat.le_refl _, po0 hP⟩
theorem body_lshares {f : Addr} (hl : mg "len" = none) (hrg : mg "range" = none) (hi : mg "int" = none) (GD : FnG P w K mg base 1 "_law_draw" cDraw) : BodyOk P w K mg base 1 ["pool", "kind", "many", "at", "spot"] ["pool", "kind"] "_law_shares" s_Lshares f cShares := by
  intro cdv A outer s H E hr args M P0 ⟨k, d, b, rows, e1, e2, hp, hk, r1, r26, hP⟩
  subst e1
  subst e2
  have hu := hr.units
  have nd := sc_Lshares.nd
  show SDs _ _ ([.cel 0, .dat (dKind b rows), .un, .un, .un], [.lst d]) _ _
  refine sds_cons (sd_set (i := 2) (ed_len hl (ed_ix (ev 1 rfl (ed_int ⟨.lst (rows.map dNR), rfl, _, rows.length, rfl, by simp [LenOk], ?_⟩)))) nd)
  refine sds_cons (sd_set (i := 3) (ed_draw GD hr 0 rfl (ev 2 rfl ⟨_, k, d, _, rfl, rfl, hp, by omega, by omega, by omega, fun v d1 v0 v1 hp1 => ?_⟩)) nd)
  show SDs _ _ ([.cel 0, .dat (dKind b rows), .dat (.int (rows.length : Nat)), .dat (.int v), .un], [.lst d1]) _ _
  refine sds_cons (sd_if (td_eqI hu (ed_draw GD hr 0 rfl (ed_int ⟨2, _, d1, _, rfl, rfl, hp1, by omega, by decide, by decide, fun v2 d2 a2 b2 hp2 => ed_int ⟨_, _, rfl, rfl, fun _ => ?_, fun _ => sds_nil ?_⟩⟩))))
  · refine sds_one (sd_retn (en_lc (own := [("spot", 4)]) (t := .one 4) nd (blkOk_by (N := ["pool", "kind", "many", "at", "spot"]) (sc := defScope s_Lshares) (by decide +kernel)) (fun s H C cl fp => tg_name nd) ?_))
    refine id_range1 hrg (ev 2 rfl ⟨_, rfl, by omega, by omega, ?_⟩)
    refine lcd_map (List.range rows.length) (fun i => D.int (0 + (i : Nat))) (fun i => .int (if (0 + (i : Nat) : Int) = v then 1 else 0)) (by rw [rangeD_map]; simp) (szl (by simp; omega)) ?_ (fun acc => trivial) ?_
    · intro i hi' acc
      refine ⟨_, rfl, fun s H C cl fp => ed_int1 hi (ed_eqI hu (ev 4 rfl (ev 3 rfl ⟨_, _, rfl, rfl, _, _, rfl, rfl, ?_, rfl⟩)))⟩
      by_cases h : (0 + (i : Nat) : Int) = v
      · simp [h]
      · simp [h]
    · refine ⟨rfl, Nat.le_refl _, po1 ?_ rfl⟩
      have := hP ((List.range rows.length).map fun i : Nat => if (0 + (i : Nat) : Int) = v then 1 else 0) d2 (by simp) (fun x hx => ?_) (hp2.mono (by omega))
      · simpa [dI, Function.comp_def] using this
      · obtain ⟨i, _, rfl⟩ := List.mem_map.mp hx
        split <;> decide
  · refine sds_one (sd_retn (en_lc (own := [("spot", 4)]) (t := .one 4) nd (blkOk_by (N := ["pool", "kind", "many", "at", "spot"]) (sc := defScope s_Lshares) (by decide +kernel)) (fun s H C cl fp => tg_name nd) ?_))
    refine id_range1 hrg (ev 2 rfl ⟨_, rfl, by omega, by omega, ?_⟩)
    refine lcd_any (List.range rows.length) (fun i => D.int (0 + (i : Nat))) (fun i M2 acc => ∃ d sh, M2 = [.lst d] ∧ acc = List.map D.int sh ∧ sh.length = i ∧ PoolOk (k + 2 + 2 * i) d ∧ ∀ x ∈ sh, x.natAbs ≤ 9) (by rw [rangeD_map]; simp) ⟨d2, [], rfl, rfl, rfl, hp2, by simp⟩ (fun i M acc ⟨d, sh, _, e, e2, _⟩ hi => by
      rw [e, List.length_map, e2]
      exact szlt (by simp at hi; omega)) ?_ (fun _ _ _ _ => trivial) ?_
    · rintro i x M2 acc hx ⟨d3, sh, rfl, rfl, hsl, hp3, hsh⟩
      have hi' : i < rows.length := by
        have := (List.getElem?_eq_some_iff.mp hx).1
        simpa using this
      refine ⟨_, rfl, fun s H C cl fp => ?_⟩
      refine ed_ix (ed_lst (ad_cons (ed_int (ad_cons (ed_int (ad_cons (ed_sub (ed_draw GD hr 0 rfl (ed_int ⟨19, _, d3, _, rfl, rfl, hp3, by omega, by decide, by decide, fun v4 d4 a4 b4 hp4 => ?_⟩)))))))))
      refine ed_int ⟨_, _, rfl, rfl, trivial, ad_nil ⟨[_, _, _], rfl, szl (by simp), ?_⟩⟩
      refine ed_draw GD hr 0 rfl (ed_int ⟨3, _, d4, _, rfl, rfl, hp4, by omega, by decide, by decide, fun v5 d5 a5 b5 hp5 => ?_⟩)
      obtain ⟨xs, hxs, sv, rfl, hsv⟩ : ∃ x, L2.atI [D.int 0, .int 1, .int (v4 - 9)] v5 = some x ∧ ∃ sv : Int, x = .int sv ∧ sv.natAbs ≤ 9 := by
        have : v5 = 0 ∨ v5 = 1 ∨ v5 = 2 := by omega
        rcases this with rfl | rfl | rfl
        · exact ⟨_, rfl, 0, rfl, by decide⟩
        · exact ⟨_, rfl, 1, rfl, by decide⟩
        · exact ⟨_, rfl, v4 - 9, rfl, by omega⟩
      refine ⟨_, hxs, _, [.lst d5], rfl, rfl, rfl, d5, sh ++ [sv], rfl, by simp, by simp [hsl], hp5.mono (by omega), fun y hy => ?_⟩
      rcases List.mem_append.mp hy with h | h
      · exact hsh y h
      · rw [List.mem_singleton.mp h]
        exact hsv
    · rintro M2 acc ⟨d3, sh, rfl, rfl, hsl, hp3, hsh⟩
      rw [List.length_range] at hsl hp3
      exact ⟨rfl, Nat.le_refl _, po1 (hP sh d3 hsl hsh (hp3.mono (by omega))) rfl⟩
end
end Fb
set_option Elab.async false
set_option linter.all false
set_option maxRecDepth 100000
set_option maxHeartbeats 2000000
/-! What the program's recurrence tells: the shortest one. Plain Lean. -/
namespace Fb
open PySem L2 Dl
def sm (f : Nat → Int) : Nat → Int
  | 0 => 0
  | m + 1 => sm f m + f m
theorem sm_congr {f g : Nat → Int} : ∀ m, (∀ j, j < m → f j = g j) → sm f m = sm g m
  | 0, _ => rfl
  | m + 1, h => by rw [sm, sm, sm_congr m fun j hj => h j (by omega), h m (by omega)]
theorem sm_add {f g : Nat → Int} : ∀ m, sm (fun j => f j + g j) m = sm f m + sm g m
  | 0 => rfl
  | m + 1 => by
    rw [sm, sm, sm, sm_add m]
    omega
theorem sm_mul {f : Nat → Int} {c : Int} : ∀ m, sm (fun j => c * f j) m = c * sm f m
  | 0 => by simp [sm]
  | m + 1 => by rw [sm, sm, sm_mul m, Int.mul_add]
theorem sm_zero {f : Nat → Int} : ∀ m, (∀ j, j < m → f j = 0) → sm f m = 0
  | 0, _ => rfl
  | m + 1, h => by rw [sm, sm_zero m fun j hj => h j (by omega), h m (by omega)]; rfl
theorem sm_ext {f : Nat → Int} {m p : Nat} (h : ∀ j, m ≤ j → j < m + p → f j = 0) : sm f (m + p) = sm f m := by
  induction p with
  | zero => rfl
  | succ p ih =>
    rw [show m + (p + 1) = (m + p) + 1 by omega, sm, ih fun j h1 h2 => h j h1 (by omega), h (m + p) (by omega) (by omega)]
    omega
theorem sm_one {f : Nat → Int} {t m : Nat} (ht : t < m) (h : ∀ j, j < m → j ≠ t → f j = 0) : sm f m = f t := by
  have e : sm f m = sm f (t + 1) := by
    have := sm_ext (f := f) (m := t + 1) (p := m - (t + 1)) fun j h1 h2 => h j (by omega) (by omega)
    rwa [show t + 1 + (m - (t + 1)) = m by omega] at this
  rw [e, sm, sm_zero t fun j hj => h j (by omega) (by omega)]
  omega
section
variable {size : Nat} {a : Nat → Int}
abbrev at0 (v : List Int) (i : Nat) : Int := v.getD i 0
theorem at0_map {f : Int → Int} {v : List Int} {i : Nat} (h : i < v.length) : at0 (v.map f) i = f (at0 v i) := by
  simp [at0, List.getD_eq_getElem?_getD, List.getElem?_eq_getElem h]
theorem at0_zip {f : Int → Int → Int} {v w : List Int} {i : Nat} (h : i < v.length) (h2 : i < w.length) : at0 (List.zipWith f v w) i = f (at0 v i) (at0 w i) := by
  simp [at0, List.getD_eq_getElem?_getD, List.getElem?_eq_getElem h, List.getElem?_eq_getElem h2, List.getElem?_zipWith]
theorem at0_out {v : List Int} {i : Nat} (h : v.length ≤ i) : at0 v i = 0 := by
  simp [at0, List.getD_eq_getElem?_getD, List.getElem?_eq_none h]
/-- a vector that stands for a relation of the rows 0 .. t -/
structure Good (size : Nat) (a : Nat → Int) (t : Nat) (S : List Nat) (v : List Int) : Prop where
  len : v.length = 2 * size + 1
  rel : ∀ i, i < size → at0 v i = sm (fun j => at0 v (size + j) * a (j + i)) (t + 1)
  sup : ∀ j, t < j → at0 v (size + j) = 0
  lead : at0 v (size + t) ≠ 0
  zer : ∀ s ∈ S, at0 v s = 0
theorem redBy_at {v : List Int} {l : Nat × List Int} {n i : Nat} (hv : v.length = n) (hl : l.2.length = n) (hi : i < n) : at0 (redBy v l) i = if at0 v l.1 ≠ 0 then at0 l.2 l.1 * at0 v i - at0 v l.1 * at0 l.2 i else at0 v i := by
  unfold redBy
  by_cases h : v.getD l.1 0 ≠ 0
  · rw [if_pos h, if_pos h, reduced, at0_zip (by simp; omega) (by omega), at0_map (by omega)]
  · rw [if_neg h, if_neg h]
theorem Good.red {t k : Nat} {S : List Nat} {v : List Int} {l : Nat × List Int} (h : Good size a t S v) (g : Good size a k S l.2) (hk : k < t) (ht : t ≤ size) (hs : l.1 < size) (hl : at0 l.2 l.1 ≠ 0) : Good size a t (S ++ [l.1]) (redBy v l) := by
  have hlen := redBy_len (b := 0) h.len g.len
  have ra : ∀ i, i < 2 * size + 1 → at0 (redBy v l) i = if at0 v l.1 ≠ 0 then at0 l.2 l.1 * at0 v i - at0 v l.1 * at0 l.2 i else at0 v i := fun i hi => redBy_at h.len g.len hi
  by_cases hz : at0 v l.1 ≠ 0
  · have ra : ∀ i, i < 2 * size + 1 → at0 (redBy v l) i = at0 l.2 l.1 * at0 v i - at0 v l.1 * at0 l.2 i := fun i hi => by rw [ra i hi, if_pos hz]
    have grel : ∀ i, i < size → at0 l.2 i = sm (fun j => at0 l.2 (size + j) * a (j + i)) (t + 1) := fun i hi => by
      rw [g.rel i hi]
      have := sm_ext (f := fun j => at0 l.2 (size + j) * a (j + i)) (m := k + 1) (p := t - k) fun j h1 h2 => by rw [g.sup j (by omega), Int.zero_mul]
      rw [show k + 1 + (t - k) = t + 1 by omega] at this
      exact this.symm
    refine ⟨hlen, fun i hi => ?_, fun j hj => ?_, ?_, fun s hs' => ?_⟩
    · rw [ra i (by omega), h.rel i hi, grel i hi, ← sm_mul, Int.sub_eq_add_neg, ← Int.neg_mul, ← sm_mul, ← sm_add]
      refine sm_congr _ fun j hj => ?_
      rw [ra (size + j) (by omega)]
      rw [Int.sub_mul, Int.neg_mul, Int.mul_assoc, Int.mul_assoc, Int.sub_eq_add_neg]
    · by_cases hj2 : size + j < 2 * size + 1
      · rw [ra _ hj2, h.sup j hj, g.sup j (by omega)]
        simp
      · exact at0_out (by omega)
    · rw [ra _ (by omega), g.sup t hk]
      simp only [Int.mul_zero, Int.sub_zero]
      exact Int.mul_ne_zero hl h.lead
    · rcases List.mem_append.mp hs' with q | q
      · by_cases hs2 : s < 2 * size + 1
        · rw [ra s hs2, h.zer s q, g.zer s q]
          simp
        · exact at0_out (by omega)
      · rw [List.mem_singleton.mp q, ra _ (by omega), Int.mul_comm]
        omega
  · have hz0 : at0 v l.1 = 0 := by
      by_cases e : at0 v l.1 = 0
      · exact e
      · exact absurd e hz
    have e : redBy v l = v := by
      unfold redBy
      rw [if_neg hz]
    rw [e]
    refine ⟨h.len, h.rel, h.sup, h.lead, fun s hs' => ?_⟩
    rcases List.mem_append.mp hs' with q | q
    · exact h.zer s q
    · rw [List.mem_singleton.mp q]
      exact hz0
theorem foldgcd_dvd : ∀ (ns : List Int) (g : Nat), ns.foldl (fun g x => Nat.gcd x.natAbs g) g ∣ g ∧ ∀ x ∈ ns, ns.foldl (fun g x => Nat.gcd x.natAbs g) g ∣ x.natAbs
  | [], g => ⟨Nat.dvd_refl _, fun x hx => nomatch hx⟩
  | n :: ns, g => by
    obtain ⟨h1, h2⟩ := foldgcd_dvd ns (Nat.gcd n.natAbs g)
    refine ⟨Nat.dvd_trans h1 (Nat.gcd_dvd_right _ _), fun x hx => ?_⟩
    rcases List.mem_cons.mp hx with q | q
    · rw [q]
      exact Nat.dvd_trans h1 (Nat.gcd_dvd_left _ _)
    · exact h2 x q
theorem gcdL_dvd {ns : List Int} {x : Int} (h : x ∈ ns) : ((gcdL ns : Nat) : Int) ∣ x := Int.ofNat_dvd_left.mpr ((foldgcd_dvd ns 0).2 x h)
theorem at0_mem {v : List Int} {i : Nat} (h : i < v.length) : at0 v i ∈ v := by
  have e : at0 v i = v[i] := by simp [at0, List.getD_eq_getElem?_getD, List.getElem?_eq_getElem h]
  rw [e]
  exact List.getElem_mem h
theorem Good.prim {t : Nat} {S : List Nat} {v : List Int} (h : Good size a t S v) (ht : t ≤ size) : Good size a t S (primitive v) := by
  unfold primitive
  by_cases hg : 1 < gcdL v
  · rw [if_pos hg]
    generalize hG : (gcdL v : Int) = G at *
    have hG0 : G ≠ 0 := by omega
    have ex : ∀ i, at0 v i = G * at0 (v.map fun x => x.fdiv G) i := fun i => by
      by_cases hi : i < v.length
      · rw [at0_map hi]
        have hd : G ∣ at0 v i := by rw [← hG]; exact gcdL_dvd (at0_mem hi)
        obtain ⟨c, hc⟩ := hd
        rw [hc, Int.mul_fdiv_cancel_left _ hG0]
      · rw [at0_out (by omega), at0_out (by simp; omega)]
        simp
    refine ⟨by rw [List.length_map]; exact h.len, fun i hi => ?_, fun j hj => ?_, fun e => ?_, fun s hs => ?_⟩
    · refine Int.eq_of_mul_eq_mul_left hG0 ?_
      rw [← ex, h.rel i hi, ← sm_mul]
      refine sm_congr _ fun j hj => ?_
      rw [ex (size + j), Int.mul_assoc]
    · have := h.sup j hj
      rw [ex] at this
      rcases Int.mul_eq_zero.mp this with q | q
      · exact absurd q hG0
      · exact q
    · have := h.lead
      rw [ex, e, Int.mul_zero] at this
      exact this rfl
    · have := h.zer s hs
      rw [ex] at this
      rcases Int.mul_eq_zero.mp this with q | q
      · exact absurd q hG0
      · exact q
  · rw [if_neg hg]
    exact h
/-- the lines after t turns -/
def LInv (size : Nat) (a : Nat → Int) (ls : Lines) : Prop := ∀ (k : Nat) (l : Nat × List Int), ls[k]? = some l → Good size a k ((ls.take k).map (·.1)) l.2 ∧ l.1 < size ∧ at0 l.2 l.1 ≠ 0
theorem Good.fold {t : Nat} {ls : Lines} {v : List Int} (L : LInv size a ls) (h : Good size a t [] v) (hl : ls.length ≤ t) (ht : t ≤ size) : ∀ m, m ≤ ls.length → Good size a t ((ls.take m).map (·.1)) ((ls.take m).foldl redBy v)
  | 0, _ => h
  | m + 1, hm => by
    have ih := Good.fold L h hl ht m (by omega)
    have hx : ls[m]? = some ls[m] := List.getElem?_eq_getElem (by omega)
    obtain ⟨g, g1, g2⟩ := L m _ hx
    rw [foldl_take hx, take_snoc hx, List.map_append]
    exact ih.red (l := ls[m]) g (show m < t by omega) ht g1 g2
theorem unit_at {n t i : Nat} (hi : i < n) : at0 (unitL n t) i = if t = i then 1 else 0 := by
  simp [at0, unitL, List.getD_eq_getElem?_getD, hi]
theorem vec_at {vs : List Int} {t i : Nat} (hl : t + size ≤ vs.length) : at0 (vecAt vs size t) i = if i < size then at0 vs (t + i) else at0 (unitL (size + 1) t) (i - size) := by
  have e : ((vs.drop t).take size).length = size := by simp; omega
  unfold vecAt at0
  rw [List.getD_eq_getElem?_getD]
  by_cases h : i < size
  · rw [if_pos h, List.getElem?_append_left (by omega), List.getElem?_take_of_lt h, List.getElem?_drop, ← List.getD_eq_getElem?_getD]
  · rw [if_neg h, List.getElem?_append_right (by omega), e, ← List.getD_eq_getElem?_getD]
theorem vec_good {vs : List Int} {t : Nat} (hl : vs.length = 2 * size + 1) (ha : ∀ k, k < 2 * size + 1 → at0 vs k = a k) (ht : t ≤ size) : Good size a t [] (vecAt vs size t) := by
  have va := fun i => vec_at (vs := vs) (t := t) (size := size) (i := i) (by omega)
  have wa : ∀ j, j < size + 1 → at0 (vecAt vs size t) (size + j) = if t = j then 1 else 0 := fun j hj => by
    rw [va, if_neg (by omega), Nat.add_sub_cancel_left, unit_at hj]
  refine ⟨vecAt_len (by omega), fun i hi => ?_, fun j hj => ?_, ?_, fun s hs => nomatch hs⟩
  · rw [va i, if_pos hi, ha _ (by omega), sm_one (t := t) (by omega) fun j h1 h2 => by rw [wa j (by omega), if_neg (fun e => h2 e.symm), Int.zero_mul], wa t (by omega), if_pos rfl, Int.one_mul]
  · by_cases h : j < size + 1
    · rw [wa j h, if_neg (by omega)]
    · rw [va, if_neg (by omega), at0_out]
      simp [unitL]
      omega
  · rw [wa t (by omega), if_pos rfl]
    decide
theorem rest_good {vs : List Int} {t : Nat} {ls : Lines} {v : List Int} (L : LInv size a ls) (hl : ls.length ≤ t) (ht : t ≤ size) (h : Good size a t [] v) : Good size a t (ls.map (·.1)) (restV ls v) := by
  have := Good.fold L h hl ht ls.length (Nat.le_refl _)
  rw [List.take_length] at this
  exact this.prim ht
theorem fold_same {ls : Lines} {v : List Int} (h : ∀ s ∈ ls.map (·.1), at0 v s = 0) : ls.foldl redBy v = v := by
  induction ls generalizing v with
  | nil => rfl
  | cons l ls ih =>
    have e : redBy v l = v := by
      unfold redBy
      rw [if_neg (fun z => z (h l.1 (by simp)))]
    rw [List.foldl_cons, e]
    exact ih fun s hs => h s (by rw [List.map_cons]; exact List.mem_cons_of_mem _ hs)
theorem first_spec {v : List Int} {k : Nat} (h : (v.take k).any (· != 0) = true) : firstSpot v < k ∧ at0 v (firstSpot v) ≠ 0 ∧ v.any (· != 0) = true := by
  obtain ⟨x, hx, hn⟩ := List.any_eq_true.mp h
  obtain ⟨i, hi⟩ := List.mem_iff_getElem?.mp hx
  have hik : i < k := by
    have := (List.getElem?_eq_some_iff.mp hi).1
    rw [List.length_take] at this
    omega
  rw [List.getElem?_take_of_lt hik] at hi
  have hil := (List.getElem?_eq_some_iff.mp hi).1
  have hany : v.any (· != 0) = true := List.any_eq_true.mpr ⟨x, List.mem_of_getElem? hi, hn⟩
  have hlt : firstSpot v < v.length := List.findIdx_lt_length_of_exists ⟨x, List.mem_of_getElem? hi, hn⟩
  have hp : (v[firstSpot v] != 0) = true := List.findIdx_getElem (w := hlt)
  refine ⟨?_, ?_, hany⟩
  · refine Nat.lt_of_le_of_lt ?_ hik
    refine Nat.le_of_not_lt fun z => ?_
    have := List.not_of_lt_findIdx (p := (· != 0)) (xs := v) (i := i) z
    rw [(List.getElem?_eq_some_iff.mp hi).2] at this
    rw [hn] at this
    cases this
  · have e : at0 v (firstSpot v) = v[firstSpot v] := by simp [at0, List.getD_eq_getElem?_getD, List.getElem?_eq_getElem hlt]
    rw [e]
    simpa using hp
theorem any_none {v : List Int} {k : Nat} (h : (v.take k).any (· != 0) = false) : ∀ i, i < k → at0 v i = 0 := fun i hi => by
  by_cases hv : i < v.length
  · have e : at0 v i = v[i] := by simp [at0, List.getD_eq_getElem?_getD, List.getElem?_eq_getElem hv]
    rw [e]
    have hm : v[i] ∈ v.take k := List.mem_of_getElem? (i := i) (by rw [List.getElem?_take_of_lt hi, List.getElem?_eq_getElem hv])
    have := List.any_eq_false.mp h _ hm
    simpa using this
  · exact at0_out (by omega)
theorem linv_snoc {t : Nat} {ls : Lines} {r : List Int} {s : Nat} (L : LInv size a ls) (hl : ls.length = t) (g : Good size a t (ls.map (·.1)) r) (h1 : s < size) (h2 : at0 r s ≠ 0) : LInv size a (ls ++ [(s, r)]) := fun k l hk => by
  by_cases hkl : k < ls.length
  · rw [List.getElem?_append_left hkl] at hk
    rw [List.take_append_of_le_length (by omega)]
    exact L k l hk
  · rw [List.getElem?_append_right (by omega)] at hk
    have h0 : k - ls.length = 0 := by
      have := (List.getElem?_eq_some_iff.mp hk).1
      simp at this
      omega
    rw [h0] at hk
    simp at hk
    subst hk
    have : k = ls.length := by omega
    subst this
    rw [List.take_append_of_le_length (Nat.le_refl _), List.take_length]
    exact ⟨by rw [hl]; exact g, h1, h2⟩
/-- a sum of the first m rows that is 0 at the spots of their lines is 0 -/
theorem sum_zero {ls : Lines} (L : LInv size a ls) : ∀ (m : Nat), m ≤ ls.length → ∀ x : Nat → Int, (∀ s ∈ (ls.take m).map (·.1), sm (fun j => x j * a (j + s)) m = 0) → ∀ i, i < size → sm (fun j => x j * a (j + i)) m = 0
  | 0, _, x, _, i, _ => rfl
  | m + 1, hm, x, hx, i, hi => by
    have he : ls[m]? = some ls[m] := List.getElem?_eq_getElem (by omega)
    obtain ⟨g, g1, g2⟩ := L m _ he
    generalize ls[m] = l at *
    have hlead := g.lead
    generalize hW : at0 l.2 (size + m) = W at *
    -- W x - x_m w has no m-th share
    have key : ∀ i, i < size → W * sm (fun j => x j * a (j + i)) (m + 1) - x m * at0 l.2 i = sm (fun j => (W * x j - x m * at0 l.2 (size + j)) * a (j + i)) m := fun i hi => by
      rw [g.rel i hi, ← sm_mul, Int.sub_eq_add_neg, ← Int.neg_mul, ← sm_mul, ← sm_add]
      rw [sm]
      have e : W * (x m * a (m + i)) + -x m * (at0 l.2 (size + m) * a (m + i)) = 0 := by
        rw [hW, Int.neg_mul, ← Int.mul_assoc, ← Int.mul_assoc, Int.mul_comm W (x m)]
        omega
      rw [e, Int.add_zero]
      refine sm_congr _ fun j hj => ?_
      rw [Int.sub_mul, Int.neg_mul, Int.mul_assoc, Int.mul_assoc, Int.sub_eq_add_neg]
    have ih := sum_zero L m (by omega) (fun j => W * x j - x m * at0 l.2 (size + j)) fun s hs => by
      have hs' : s ∈ (ls.take (m + 1)).map (·.1) := by
        rw [take_snoc he, List.map_append]
        exact List.mem_append_left _ hs
      have hss : s < size := by
        obtain ⟨q, hq, e⟩ := List.mem_map.mp hs
        obtain ⟨k, hk⟩ := List.mem_iff_getElem?.mp (List.mem_of_mem_take hq)
        rw [← e]
        exact (L k q hk).2.1
      rw [← key s hss, hx s hs', g.zer s hs]
      simp
    have h0 : ∀ i, i < size → W * sm (fun j => x j * a (j + i)) (m + 1) = x m * at0 l.2 i := fun i hi => by
      have := key i hi
      rw [ih i hi] at this
      omega
    have hxm : x m = 0 := by
      have h1 := h0 l.1 g1
      rw [hx l.1 (by rw [take_snoc he, List.map_append]; simp), Int.mul_zero] at h1
      rcases Int.mul_eq_zero.mp h1.symm with q | q
      · exact q
      · exact absurd q g2
    have h1 := h0 i hi
    rw [hxm, Int.zero_mul] at h1
    rcases Int.mul_eq_zero.mp h1 with q | q
    · exact absurd q hlead
    · exact q
end
end Fb
set_option Elab.async false
set_option linter.all false
set_option maxRecDepth 100000
set_option maxHeartbeats 2000000
/-! The shortest recurrence: what comes out, and that it stays within the model. -/
namespace Fb
open PySem L2 Dl
section
variable {size : Nat} {a : Nat → Int}
def bitsUp (b : Nat) : Nat → Nat
  | 0 => b
  | t + 1 => (t + 1) * (bitsUp b t + 1)
theorem bitsUp_mono {b : Nat} : ∀ t, bitsUp b t ≤ bitsUp b (t + 1) := fun t => by
  show _ ≤ (t + 1) * (bitsUp b t + 1)
  have := Nat.mul_le_mul_right (bitsUp b t + 1) (show 1 ≤ t + 1 by omega)
  omega
theorem bitsUp_le {b s t : Nat} (h : s ≤ t) : bitsUp b s ≤ bitsUp b t := by
  induction t with
  | zero =>
    have : s = 0 := by omega
    subst this
    exact Nat.le_refl _
  | succ t ih =>
    by_cases e : s = t + 1
    · subst e
      exact Nat.le_refl _
    · exact Nat.le_trans (ih (by omega)) (bitsUp_mono t)
theorem pyl_of {x y : Int} {b : Nat} (h : y.natAbs < 2 ^ b) (hb : b ≤ 8900) : Builtin.divisionGoesByPylong x y = false := PyProof.noPylong_of_log2 (by
  by_cases h0 : y.natAbs = 0
  · rw [h0]
    decide
  · have := (Nat.log2_lt h0).mpr h
    omega)
theorem divOk_of {w : List Int} {b : Nat} (h : Bd b w) (hb : b ≤ 8900) {x : Int} (hx : x ∈ w) (h0 : x ≠ 0) : DivOk w := fun y _ => by
  have hd := (foldgcd_dvd w 0).2 x hx
  have hle : gcdL w ≤ x.natAbs := Nat.le_of_dvd (by omega) hd
  refine pyl_of (b := b) ?_ hb
  rw [Int.natAbs_natCast]
  exact Nat.lt_of_le_of_lt hle (h x hx)
theorem prim_bd {v : List Int} {b : Nat} (h : Bd b v) : Bd b (primitive v) := by
  unfold primitive
  by_cases hg : 1 < gcdL v
  · rw [if_pos hg]
    intro x hx
    obtain ⟨y, hy, rfl⟩ := List.mem_map.mp hx
    obtain ⟨c, hc⟩ := gcdL_dvd hy
    have hG0 : (gcdL v : Int) ≠ 0 := by omega
    rw [hc, Int.mul_fdiv_cancel_left _ hG0]
    have h1 := h y hy
    rw [hc, Int.natAbs_mul, Int.natAbs_natCast] at h1
    refine Nat.lt_of_le_of_lt ?_ h1
    exact Nat.le_mul_of_pos_left _ (by omega)
  · rw [if_neg hg]
    exact h
theorem Good.mem {t : Nat} {S : List Nat} {v : List Int} (h : Good size a t S v) (ht : t ≤ size) : at0 v (size + t) ∈ v := at0_mem (by rw [h.len]; omega)
variable {vs : List Int} {d b : Nat} {c : Nat → Int}
theorem some_left (H2 : ∀ x : Nat → Int, (∀ i, i < size → sm (fun j => x j * a (j + i)) d = 0) → ∀ j, j < d → x j = 0) {t : Nat} {S : List Nat} {r : List Int} (g : Good size a t S r) (ht : t < d) : (r.take size).any (· != 0) = true := by
  cases e : (r.take size).any (· != 0) with
  | true => rfl
  | false =>
    exfalso
    have h0 := any_none e
    refine g.lead (H2 (fun j => at0 r (size + j)) (fun i hi => ?_) t ht)
    have h1 := g.rel i hi
    rw [h0 i hi] at h1
    have := sm_ext (f := fun j => at0 r (size + j) * a (j + i)) (m := t + 1) (p := d - (t + 1)) fun j h2 h3 => by rw [g.sup j (by omega), Int.zero_mul]
    rw [show t + 1 + (d - (t + 1)) = d by omega] at this
    rw [this]
    exact h1.symm
theorem vec_bd {t : Nat} (hb1 : 1 ≤ b) (hb : Bd b vs) : Bd b (vecAt vs size t) := fun x hx => by
  rcases List.mem_append.mp hx with q | q
  · exact hb x (List.mem_of_mem_drop (List.mem_of_mem_take q))
  · obtain ⟨i, _, rfl⟩ := List.mem_map.mp q
    have := Nat.pow_le_pow_right (show 0 < 2 by decide) hb1
    split <;> simp <;> omega
theorem mem_of_at0 {v : List Int} {i : Nat} (h : at0 v i ≠ 0) : at0 v i ∈ v := at0_mem (by
  by_cases hl : i < v.length
  · exact hl
  · exact absurd (at0_out (by omega)) h)
theorem step_facts {t : Nat} {ls : Lines} (hs : size ≤ 50) (ht : t ≤ size) (hvl : vs.length = 2 * size + 1) (ha : ∀ k, k < 2 * size + 1 → at0 vs k = a k) (hb1 : 1 ≤ b) (hb : Bd b vs) (hB : bitsUp b (size + 1) ≤ 8900)
    (L : LInv size a ls) (hl : ls.length = t) (lo : LinesOk (2 * size + 1) (bitsUp b t) ls) :
    StepOk (2 * size + 1) ls (vecAt vs size t) ∧ Good size a t (ls.map (·.1)) (restV ls (vecAt vs size t)) ∧ Bd (bitsUp b (t + 1)) (restV ls (vecAt vs size t)) := by
  have hvg := vec_good hvl ha ht
  have hvb : Bd (bitsUp b t) (vecAt vs size t) := (vec_bd hb1 hb).mono (bitsUp_le (s := 0) (Nat.zero_le t))
  have hfg := Good.fold L hvg (Nat.le_of_eq hl) ht ls.length (Nat.le_refl _)
  have hfb := fold_ok hvg.len hvb lo ls.length (Nat.le_refl _)
  rw [List.take_length] at hfg hfb
  have hB1 : bitsUp b (t + 1) ≤ 8900 := Nat.le_trans (bitsUp_le (by omega)) hB
  have e1 : (ls.length + 1) * (bitsUp b t + 1) = bitsUp b (t + 1) := by rw [hl]; rfl
  rw [e1] at hfb
  have hB0 : bitsUp b t ≤ 8900 := Nat.le_trans (bitsUp_mono t) hB1
  refine ⟨⟨⟨bitsUp b t, lo, hvb, ?_⟩, divOk_of hfb.2 hB1 (mem_of_at0 hfg.lead) hfg.lead⟩, hfg.prim ht, prim_bd hfb.2⟩
  have : (ls.length + 2) * (bitsUp b t + 2) ≤ 52 * 8902 := Nat.mul_le_mul (by omega) (by omega)
  omega
theorem rec_turns (hd : d ≤ size) (hs : size ≤ 50) (hvl : vs.length = 2 * size + 1) (ha : ∀ k, k < 2 * size + 1 → at0 vs k = a k) (hb1 : 1 ≤ b) (hb : Bd b vs) (hB : bitsUp b (size + 1) ≤ 8900)
    (H1 : ∀ i, i < size → a (d + i) = sm (fun j => c j * a (j + i)) d) (H2 : ∀ x : Nat → Int, (∀ i, i < size → sm (fun j => x j * a (j + i)) d = 0) → ∀ j, j < d → x j = 0) :
    ∀ (k t : Nat) (ls : Lines), d - t = k → t ≤ d → LInv size a ls → ls.length = t → LinesOk (2 * size + 1) (bitsUp b t) ls →
      RecOk size vs (size + 1 - t) t ls ∧ recGo size vs (size + 1 - t) t ls = (List.range d).map fun back => c (d - 1 - back) := by
  intro k
  induction k with
  | zero =>
    intro t ls hk ht L hl lo
    have htd : t = d := by omega
    subst htd
    obtain ⟨sk, g, gb⟩ := step_facts hs hd hvl ha hb1 hb hB L hl lo
    have hB1 : bitsUp b (t + 1) ≤ 8900 := Nat.le_trans (bitsUp_le (by omega)) hB
    generalize hr : restV ls (vecAt vs size t) = r at *
    have hsum : ∀ i, i < size → at0 r i = sm (fun j => (at0 r (size + j) + at0 r (size + t) * c j) * a (j + i)) t := fun i hi => by
      rw [g.rel i hi, sm, H1 i hi, ← sm_mul, ← sm_add]
      refine sm_congr _ fun j hj => ?_
      rw [Int.add_mul, Int.mul_assoc]
    have hz : ∀ i, i < size → at0 r i = 0 := fun i hi => by
      rw [hsum i hi]
      refine sum_zero L t (Nat.le_of_eq hl.symm) (fun j => at0 r (size + j) + at0 r (size + t) * c j) (fun s hs' => ?_) i hi
      have hs2 : s ∈ ls.map (·.1) := by
        rw [← hl, List.take_length] at hs'
        exact hs'
      have hss : s < size := by
        obtain ⟨q, hq, e⟩ := List.mem_map.mp hs2
        obtain ⟨k, hk⟩ := List.mem_iff_getElem?.mp hq
        rw [← e]
        exact (L k q hk).2.1
      rw [← hsum s hss]
      exact g.zer s hs2
    have hany : (r.take size).any (· != 0) = false := by
      cases e : (r.take size).any (· != 0) with
      | false => rfl
      | true =>
        obtain ⟨h1, h2, _⟩ := first_spec e
        exact absurd (hz _ h1) h2
    have hx := H2 (fun j => at0 r (size + j) + at0 r (size + t) * c j) fun i hi => by rw [← hsum i hi]; exact hz i hi
    rw [show size + 1 - t = (size - t) + 1 by omega]
    refine ⟨⟨sk, fun h => ?_, fun _ => ⟨?_, fun i hi => ?_⟩⟩, ?_⟩
    · rw [hr, hany] at h
      cases h
    · rw [hr]
      exact g.lead
    · rw [hr]
      exact pyl_of (gb _ (g.mem hd)) hB1
    · rw [recGo, hr, if_neg (by rw [hany]; decide), recOut]
      refine List.map_congr_left fun back hback => ?_
      have hback := List.mem_range.mp hback
      have gd : ∀ i, (r.drop size).getD i 0 = at0 r (size + i) := fun i => by
        rw [List.getD_eq_getElem?_getD, List.getElem?_drop, at0, List.getD_eq_getElem?_getD]
      rw [gd, gd]
      have h1 := hx (t - 1 - back) (by omega)
      have h2 : -(at0 r (size + (t - 1 - back))) = at0 r (size + t) * c (t - 1 - back) := by
        have h1 : at0 r (size + (t - 1 - back)) + at0 r (size + t) * c (t - 1 - back) = 0 := h1
        omega
      rw [h2, Int.mul_fdiv_cancel_left _ g.lead]
  | succ k ih =>
    intro t ls hk ht L hl lo
    have htd : t < d := by omega
    obtain ⟨sk, g, gb⟩ := step_facts hs (by omega) hvl ha hb1 hb hB L hl lo
    have hB1 : bitsUp b (t + 1) ≤ 8900 := Nat.le_trans (bitsUp_le (by omega)) hB
    have hB0 : bitsUp b t ≤ 8900 := Nat.le_trans (bitsUp_mono t) hB1
    generalize hr : restV ls (vecAt vs size t) = r at *
    have hany := some_left H2 g htd
    have hf : ls.foldl redBy r = r := fold_same g.zer
    have hr2 : restV ls r = primitive r := by rw [restV, hf]
    have g2 := g.prim (by omega)
    have gb2 := prim_bd gb
    have hany2 := some_left H2 g2 htd
    obtain ⟨f1, f2, f3⟩ := first_spec hany2
    have htk : (takeV ls r).2 = ls ++ [(firstSpot (primitive r), primitive r)] := by
      rw [takeV, hr2]
      simp only [f3, if_true]
    have lo2 : LinesOk (2 * size + 1) (bitsUp b (t + 1)) (takeV ls r).2 := by
      rw [htk]
      refine ⟨fun l hlm => ?_, fun l hlm => ?_, ?_⟩
      · rcases List.mem_append.mp hlm with q | q
        · exact lo.len l q
        · rw [List.mem_singleton.mp q]
          exact ⟨g2.len, by show firstSpot (primitive r) < _; omega⟩
      · rcases List.mem_append.mp hlm with q | q
        · exact (lo.bd l q).mono (bitsUp_mono t)
        · rw [List.mem_singleton.mp q]
          exact gb2
      · rw [List.length_append, List.length_singleton]
        omega
    have L2 : LInv size a (takeV ls r).2 := by
      rw [htk]
      exact linv_snoc L hl g2 f1 f2
    obtain ⟨i1, i2⟩ := ih (t + 1) (takeV ls r).2 (by omega) (by omega) L2 (by rw [htk, List.length_append, hl]; rfl) lo2
    rw [show size + 1 - t = (size + 1 - (t + 1)) + 1 by omega]
    refine ⟨⟨sk, fun _ => ?_, fun h => ?_⟩, ?_⟩
    · rw [hr]
      refine ⟨⟨⟨bitsUp b (t + 1), ⟨lo.len, fun l hlm => (lo.bd l hlm).mono (bitsUp_mono t), lo.few⟩, gb, ?_⟩, ?_⟩, i1⟩
      · have : (ls.length + 2) * (bitsUp b (t + 1) + 2) ≤ 52 * 8902 := Nat.mul_le_mul (by omega) (by omega)
        omega
      · rw [hf]
        exact divOk_of gb hB1 (mem_of_at0 g.lead) g.lead
    · rw [hr, hany] at h
      cases h
    · rw [recGo, hr, if_pos hany]
      exact i2
theorem rec_main (hd : d ≤ size) (hs : size ≤ 50) (hvl : vs.length = 2 * size + 1) (ha : ∀ k, k < 2 * size + 1 → at0 vs k = a k) (hb1 : 1 ≤ b) (hb : Bd b vs) (hB : bitsUp b (size + 1) ≤ 8900)
    (H1 : ∀ i, i < size → a (d + i) = sm (fun j => c j * a (j + i)) d) (H2 : ∀ x : Nat → Int, (∀ i, i < size → sm (fun j => x j * a (j + i)) d = 0) → ∀ j, j < d → x j = 0) :
    RecOk size vs (size + 1) 0 [] ∧ recOf size vs = (List.range d).map fun back => c (d - 1 - back) :=
  rec_turns hd hs hvl ha hb1 hb hB H1 H2 d 0 [] rfl (Nat.zero_le _) (fun k l h => by simp at h) rfl ⟨(fun l h => nomatch h), (fun l h => nomatch h), Nat.zero_le _⟩
end
end Fb
set_option Elab.async false
set_option linter.all false
set_option maxRecDepth 100000
set_option maxHeartbeats 2000000
/-! k54: the known rows. -/
namespace Fb
open PySem L2 Dl
def nrE : NR := ⟨"e", 1, [[(1, "e")], [(1, "e")]]⟩
def nrZ : NR := ⟨"z", 1, [[(1, "z")], []]⟩
def nrO : NR := ⟨"o", 0, [[(1, "o")], [(1, "o"), (1, "e")]]⟩
def nrS : NR := ⟨"s", 0, [[(1, "s")], [(1, "s"), (1, "t")]]⟩
def nrT : NR := ⟨"t", 1, [[(1, "s"), (1, "t")], [(1, "t")]]⟩
def nrI : NR := ⟨"i", 0, [[(2, "i")], [(2, "i"), (1, "e")]]⟩
def bookB (g b : Nat) (rows : List NR) : Bool :=
  decide (2 ≤ b ∧ b ≤ 4) && rows.all (fun r => isName r.name) && decide ((names rows).Nodup) && rows.all (fun r => decide (r.forms.length = b)) &&
  rows.all (fun r => r.forms.all fun f => decide (f.length ≤ 100) && f.all fun t => decide (t.2 ∈ names rows) && decide (t.1.natAbs < 2 ^ g)) &&
  rows.all (fun r => decide (r.start.natAbs < 2 ^ g) && decide (r.start = valAt rows (r.forms.getD 0 []))) && decide (rows.length ≤ 26) && decide (g ≤ 1000)
theorem book_of {g b : Nat} {rows : List NR} (h : bookB g b rows = true) : BookOk g b rows := by
  simp only [bookB, Bool.and_eq_true, decide_eq_true_eq, List.all_eq_true] at h
  obtain ⟨⟨⟨⟨⟨⟨⟨h1, h2⟩, h3⟩, h4⟩, h5⟩, h6⟩, h7⟩, h8⟩ := h
  exact ⟨h1, h2, h3, h4, h5, h6, h7, h8⟩
theorem bk_oe : BookOk 2 2 [nrO, nrE] := book_of (by decide +kernel)
theorem bk_st : BookOk 2 2 [nrS, nrT] := book_of (by decide +kernel)
theorem bk_ie : BookOk 2 2 [nrI, nrE] := book_of (by decide +kernel)
theorem bk_z : BookOk 2 2 [nrZ] := book_of (by decide +kernel)
theorem bk_e : BookOk 2 2 [nrE] := book_of (by decide +kernel)
theorem bk_0 : BookOk 2 3 [] := book_of (by decide +kernel)
/-- one answer of recurrence, within the model -/
structure RecFact (b : Nat) (rows : List NR) (shares : List Int) (head : Nat) (bl : List Nat) (out : List Int) : Prop where
  far : FarOk 2 b head bl (2 * rows.length + 1)
  ok : RecOk rows.length (rowVals b rows shares head bl) (rows.length + 1) 0 []
  eq : recOf rows.length (rowVals b rows shares head bl) = out
def shO : List Int := [1, 0]
theorem un_oe : unitRow [nrO, nrE] "o" = [1, 0] := by decide +kernel
theorem un_st : unitRow [nrS, nrT] "s" = [1, 0] := by decide +kernel
theorem un_ie : unitRow [nrI, nrE] "i" = [1, 0] := by decide +kernel
theorem un_z : unitRow [nrZ] "z" = [1] := by decide +kernel
theorem un_e : unitRow [nrE] "e" = [1] := by decide +kernel
theorem bd_of {g : Nat} {xs : List Int} (h : xs.all (fun x => decide (x.natAbs < 2 ^ g)) = true) : Bd g xs := fun x hx => of_decide_eq_true (List.all_eq_true.mp h x hx)
theorem rk_oe : RowOk 2 2 [nrO, nrE] [1, 0] := ⟨bk_oe, rfl, bd_of (by decide +kernel)⟩
theorem rk_st : RowOk 2 2 [nrS, nrT] [1, 0] := ⟨bk_st, rfl, bd_of (by decide +kernel)⟩
theorem rk_ie : RowOk 2 2 [nrI, nrE] [1, 0] := ⟨bk_ie, rfl, bd_of (by decide +kernel)⟩
theorem rk_z : RowOk 2 2 [nrZ] [1] := ⟨bk_z, rfl, bd_of (by decide +kernel)⟩
theorem rk_e : RowOk 2 2 [nrE] [1] := ⟨bk_e, rfl, bd_of (by decide +kernel)⟩
theorem rk_0 : RowOk 2 3 [] [] := ⟨bk_0, rfl, bd_of (by decide +kernel)⟩
theorem sys_oe : sysOf 2 [nrO, nrE] [1, 0] = ⟨[0, 1], [[[1, 0], [0, 1]], [[1, 1], [0, 1]]], [1, 0]⟩ := by rfl
end Fb
set_option Elab.async false
set_option linter.all false
set_option maxRecDepth 100000
set_option maxHeartbeats 4000000
namespace Fb
open PySem L2 Dl
def nrJ : NR := ⟨"j", 1, [[(2, "j"), (-1, "e")], [(2, "j"), (1, "e"), (-2, "z")]]⟩
def nrP : NR := ⟨"p", 0, [[(2, "p")], [(2, "p"), (1, "z")]]⟩
def nrG : NR := ⟨"g", 1, [[(1, "g")], [(2, "g")]]⟩
def kindB (b many : Nat) (rows : List NR) : Bool := bookB 5 b rows && decide (1 ≤ rows.length ∧ rows.length ≤ many) && rows.all (fun r => r.forms.all fun f => decide (f.length ≤ 5)) && rows.all (fun r => decide (r.start.natAbs ≤ 9) && r.forms.all fun f => f.all fun t => decide (t.1.natAbs ≤ 9) && decide (t.1 ≠ 0))
theorem kind_of {b many : Nat} {rows : List NR} (h : kindB b many rows = true) : KindOk b rows many := by
  simp only [kindB, Bool.and_eq_true, decide_eq_true_eq, List.all_eq_true] at h
  obtain ⟨⟨⟨h1, h2⟩, h3⟩, h4⟩ := h
  exact ⟨book_of h1, h2.1, h2.2, h3, fun r hr => ⟨(h4 r hr).1, (h4 r hr).2⟩⟩
theorem eight {P : D → Prop} {a b c d e f g h : D} {j : Int} (h0 : 0 ≤ j) (h1 : j < 8) (ha : P a) (hb : P b) (hc : P c) (hd : P d) (he : P e) (hf : P f) (hg : P g) (hh : P h) : ∃ x, L2.atI [a, b, c, d, e, f, g, h] j = some x ∧ P x := by
  have : j = 0 ∨ j = 1 ∨ j = 2 ∨ j = 3 ∨ j = 4 ∨ j = 5 ∨ j = 6 ∨ j = 7 := by omega
  rcases this with rfl | rfl | rfl | rfl | rfl | rfl | rfl | rfl
  · exact ⟨a, rfl, ha⟩
  · exact ⟨b, rfl, hb⟩
  · exact ⟨c, rfl, hc⟩
  · exact ⟨d, rfl, hd⟩
  · exact ⟨e, rfl, he⟩
  · exact ⟨f, rfl, hf⟩
  · exact ⟨g, rfl, hg⟩
  · exact ⟨h, rfl, hh⟩
theorem call_pool' {c : Cell} {M : Mem} {d : D} (h : c.live = true) : CallAt [0] [.cel 0, .dat d] [.cel 0, .dat d] (c :: M) := ⟨rfl, by decide, fun k hk => ⟨c, by cases List.mem_singleton.mp hk; rfl, h⟩, fun e he => by
  rcases List.mem_cons.mp he with rfl | he
  · exact Nat.zero_lt_one
  · cases List.mem_singleton.mp he
    trivial⟩
section
variable {P : Program} {w : World} {K : PySem.W.Frag} {mg : Str → Option Value} {base : Heap}
theorem body_lknown {f : Addr} (GD : FnG P w K mg base 1 "_law_draw" cDraw) : BodyOk P w K mg base 1 ["pool", "e", "z", "ones", "stern", "last", "places", "powers", "odd", "books", "lines", "letter"] ["pool"] "_law_known" s_Lknown f cKnown := by
  intro cdv A outer s H E hr args M P0 ⟨k, d, e1, e2, hp, hk, hP⟩
  subst e1
  subst e2
  have nd := sc_Lknown.nd
  show SDs _ _ ([.cel 0, .un, .un, .un, .un, .un, .un, .un, .un, .un, .un, .un], [.lst d]) _ _
  refine sds_cons ?_
  refine sd_par (i := 1) (j := 2) ?_ ?_
  rotate_left
  · exact nd
  refine ad_cons ?_
  refine ed_lit 9 (d := dNR nrE) rfl ?_
  refine ad_cons ?_
  refine ed_lit 9 (d := dNR nrZ) rfl ?_
  refine ad_nil ⟨_, _, rfl, ?_⟩
  refine sds_cons ?_
  refine sd_set (i := 3) ?_ ?_
  rotate_left
  · exact nd
  refine ed_lit 9 (d := dNR nrO) rfl ?_
  refine sds_cons ?_
  refine sd_set (i := 4) ?_ ?_
  rotate_left
  · exact nd
  refine ed_lit 9 (d := .lst [dNR nrS, dNR nrT]) rfl ?_
  refine sds_cons ?_
  refine sd_set (i := 5) ?_ ?_
  rotate_left
  · exact nd
  refine ed_lit 9 (d := dNR nrJ) rfl ?_
  refine sds_cons ?_
  refine sd_set (i := 6) ?_ ?_
  rotate_left
  · exact nd
  refine ed_lit 9 (d := dNR nrI) rfl ?_
  refine sds_cons ?_
  refine sd_set (i := 7) ?_ ?_
  rotate_left
  · exact nd
  refine ed_lit 9 (d := dNR nrP) rfl ?_
  refine sds_cons ?_
  refine sd_set (i := 8) ?_ ?_
  rotate_left
  · exact nd
  refine ed_lit 9 (d := dNR nrG) rfl ?_
  show SDs _ _ ([.cel 0, .dat (dNR nrE), .dat (dNR nrZ), .dat (dNR nrO), .dat (.lst [dNR nrS, dNR nrT]), .dat (dNR nrJ), .dat (dNR nrI), .dat (dNR nrP), .dat (dNR nrG), .un, .un, .un], [.lst d]) _ _
  refine sds_cons ?_
  refine sd_set (i := 9) ?_ ?_
  rotate_left
  · exact nd
  refine ed_lst ?_
  refine ad_cons ?_
  refine ed_tup ?_
  refine ad_cons ?_
  refine ed_lst ?_
  refine ad_cons ?_
  refine ev 3 rfl ?_
  refine ad_cons ?_
  refine ev 1 rfl ?_
  refine ad_nil ⟨[_, _], rfl, szl (by simp), ?_⟩
  refine ad_cons ?_
  refine ed_str ?_
  refine ad_nil ⟨[_, _], rfl, szl (by simp), ?_⟩
  refine ad_cons ?_
  refine ed_tup ?_
  refine ad_cons ?_
  refine ev 4 rfl ?_
  refine ad_cons ?_
  refine ed_str ?_
  refine ad_nil ⟨[_, _], rfl, szl (by simp), ?_⟩
  refine ad_cons ?_
  refine ed_tup ?_
  refine ad_cons ?_
  refine ed_lst ?_
  refine ad_cons ?_
  refine ev 2 rfl ?_
  refine ad_cons ?_
  refine ev 5 rfl ?_
  refine ad_cons ?_
  refine ev 1 rfl ?_
  refine ad_nil ⟨[_, _, _], rfl, szl (by simp), ?_⟩
  refine ad_cons ?_
  refine ed_str ?_
  refine ad_nil ⟨[_, _], rfl, szl (by simp), ?_⟩
  refine ad_cons ?_
  refine ed_tup ?_
  refine ad_cons ?_
  refine ed_lst ?_
  refine ad_cons ?_
  refine ev 6 rfl ?_
  refine ad_cons ?_
  refine ev 1 rfl ?_
  refine ad_nil ⟨[_, _], rfl, szl (by simp), ?_⟩
  refine ad_cons ?_
  refine ed_str ?_
  refine ad_nil ⟨[_, _], rfl, szl (by simp), ?_⟩
  refine ad_cons ?_
  refine ed_tup ?_
  refine ad_cons ?_
  refine ed_lst ?_
  refine ad_cons ?_
  refine ev 7 rfl ?_
  refine ad_cons ?_
  refine ev 2 rfl ?_
  refine ad_nil ⟨[_, _], rfl, szl (by simp), ?_⟩
  refine ad_cons ?_
  refine ed_str ?_
  refine ad_nil ⟨[_, _], rfl, szl (by simp), ?_⟩
  refine ad_cons ?_
  refine ed_tup ?_
  refine ad_cons ?_
  refine ed_lst ?_
  refine ad_cons ?_
  refine ev 8 rfl ?_
  refine ad_nil ⟨[_], rfl, szl (by simp), ?_⟩
  refine ad_cons ?_
  refine ed_str ?_
  refine ad_nil ⟨[_, _], rfl, szl (by simp), ?_⟩
  refine ad_nil ⟨[_, _, _, _, _, _], rfl, szl (by simp), ?_⟩
  show SDs _ _ ([.cel 0, .dat (dNR nrE), .dat (dNR nrZ), .dat (dNR nrO), .dat (.lst [dNR nrS, dNR nrT]), .dat (dNR nrJ), .dat (dNR nrI), .dat (dNR nrP), .dat (dNR nrG), .dat (.lst [.tup [.lst ([nrO, nrE].map dNR), .str "o"], .tup [.lst ([nrS, nrT].map dNR), .str "s"], .tup [.lst ([nrZ, nrJ, nrE].map dNR), .str "j"], .tup [.lst ([nrI, nrE].map dNR), .str "i"], .tup [.lst ([nrP, nrZ].map dNR), .str "p"], .tup [.lst ([nrG].map dNR), .str "g"]]), .un, .un], [.lst d]) _ _
  refine sds_cons ?_
  refine sd_unp (t := .tup [10, 11]) ?_ ?_
  · exact tg_tup (tgs_cons (tgs_cons tgs_nil nd) nd)
  refine ed_ix ?_
  refine ed_add ?_
  refine ev 9 rfl ?_
  refine ed_lst ?_
  refine ad_cons ?_
  refine ed_tup ?_
  refine ad_cons ?_
  refine ed_lst ?_
  refine ad_cons ?_
  refine ev 2 rfl ?_
  refine ad_nil ⟨[_], rfl, szl (by simp), ?_⟩
  refine ad_cons ?_
  refine ed_str ?_
  refine ad_nil ⟨[_, _], rfl, szl (by simp), ?_⟩
  refine ad_cons ?_
  refine ed_tup ?_
  refine ad_cons ?_
  refine ed_lst ?_
  refine ad_cons ?_
  refine ev 1 rfl ?_
  refine ad_nil ⟨[_], rfl, szl (by simp), ?_⟩
  refine ad_cons ?_
  refine ed_str ?_
  refine ad_nil ⟨[_, _], rfl, szl (by simp), ?_⟩
  refine ad_nil ⟨[_, _], rfl, szl (by simp), szl (by simp), ?_⟩
  refine ed_draw GD hr 0 rfl (ed_int ⟨8, k, d, _, rfl, rfl, hp, by omega, by decide, by decide, fun v d1 v0 v1 hp1 => ?_⟩)
  obtain ⟨x, hx, rows, nm, rfl, ko, hnm⟩ := eight (P := fun x => ∃ (rows : List NR) (nm : Str), x = D.tup [.lst (rows.map dNR), .str nm] ∧ KindOk 2 rows 3 ∧ nm ∈ names rows) v0 v1
    ⟨[nrO, nrE], "o", rfl, kind_of (by decide +kernel), by decide +kernel⟩ ⟨[nrS, nrT], "s", rfl, kind_of (by decide +kernel), by decide +kernel⟩ ⟨[nrZ, nrJ, nrE], "j", rfl, kind_of (by decide +kernel), by decide +kernel⟩
    ⟨[nrI, nrE], "i", rfl, kind_of (by decide +kernel), by decide +kernel⟩ ⟨[nrP, nrZ], "p", rfl, kind_of (by decide +kernel), by decide +kernel⟩ ⟨[nrG], "g", rfl, kind_of (by decide +kernel), by decide +kernel⟩
    ⟨[nrZ], "z", rfl, kind_of (by decide +kernel), by decide +kernel⟩ ⟨[nrE], "e", rfl, kind_of (by decide +kernel), by decide +kernel⟩
  refine ⟨_, hx, _, _, rfl, rfl, ?_⟩
  refine sds_one (sd_ret (ed_tup (ad_cons (ed_tup (ad_cons (ed_int (ad_cons (ev 10 rfl (ad_nil ⟨[_, _], rfl, szl (by simp), ad_cons (ev 11 rfl (ad_nil ⟨[_, _], rfl, szl (by simp), ret_dat (po1 (hP rows nm d1 ko hnm (hp1.mono (by omega))) rfl)⟩))⟩)))))))))
end
end Fb
set_option Elab.async false
set_option linter.all false
set_option maxRecDepth 100000
set_option maxHeartbeats 4000000
namespace Fb
open PySem L2 Dl
/-- one of five -/
theorem five {P : D → Prop} {a b c d e : D} {j : Int} (h0 : 0 ≤ j) (h1 : j < 5) (ha : P a) (hb : P b) (hc : P c) (hd : P d) (he : P e) : ∃ x, L2.atI [a, b, c, d, e] j = some x ∧ P x := by
  have : j = 0 ∨ j = 1 ∨ j = 2 ∨ j = 3 ∨ j = 4 := by omega
  rcases this with rfl | rfl | rfl | rfl | rfl
  · exact ⟨a, rfl, ha⟩
  · exact ⟨b, rfl, hb⟩
  · exact ⟨c, rfl, hc⟩
  · exact ⟨d, rfl, hd⟩
  · exact ⟨e, rfl, he⟩
/-- one of three -/
theorem three {P : D → Prop} {a b c : D} {j : Int} (h0 : 0 ≤ j) (h1 : j < 3) (ha : P a) (hb : P b) (hc : P c) : ∃ x, L2.atI [a, b, c] j = some x ∧ P x := by
  have : j = 0 ∨ j = 1 ∨ j = 2 := by omega
  rcases this with rfl | rfl | rfl
  · exact ⟨a, rfl, ha⟩
  · exact ⟨b, rfl, hb⟩
  · exact ⟨c, rfl, hc⟩
def cSomeF : Ct := fun args M P => ∃ (k : Nat) (d : List D) (b : Nat) (rows : List NR), args = [.cel 0, .dat (dKind b rows)] ∧ M = [.lst d] ∧ PoolOk k d ∧ k ≤ 980000000 ∧ 2 ≤ b ∧ b ≤ 4 ∧
  ∀ (bl : List Nat) (d' : List D), 1 ≤ bl.length → bl.length ≤ 4 → (∀ f ∈ bl, f < b) → PoolOk (k + 100) d' → P false (dN bl) [.lst d']
section
variable {P : Program} {w : World} {K : PySem.W.Frag} {mg : Str → Option Value} {base : Heap}
theorem body_lspot {f : Addr} (hrg : mg "range" = none) (GD : FnG P w K mg base 1 "_law_draw" cDraw) : BodyOk P w K mg base 1 ["pool", "great", "turn", "some"] ["pool"] "_law_spot" s_Lspot f cSpotF := by
  intro cdv A outer s H E hr args M P0 ⟨k, d, e1, e2, hp, hk, hP⟩
  subst e1
  subst e2
  have nd := sc_Lspot.nd
  refine sds_cons (sd_set (i := 1) (ed_ix (ed_lit 9 (d := .lst [.int 2, .int 3, .int 4]) rfl (ed_draw GD hr 0 rfl (ed_int ⟨3, k, d, [], rfl, rfl, hp, by omega, by decide, by decide, fun v1 d1 a1 b1 hp1 => ?_⟩)))) nd)
  obtain ⟨x, hx, g0, rfl, g1, g2⟩ := three (P := fun x => ∃ g : Nat, x = .int (g : Nat) ∧ 2 ≤ g ∧ g ≤ 4) a1 b1 ⟨2, rfl, by decide, by decide⟩ ⟨3, rfl, by decide, by decide⟩ ⟨4, rfl, by decide, by decide⟩
  refine ⟨_, hx, ?_⟩
  show SDs _ _ ([.cel 0, .dat (.int (g0 : Nat)), .un, .un], [.lst d1]) _ _
  refine sds_cons (sd_forF (t := .one 2) (tg_name nd) (id_range1 hrg (ed_draw GD hr 0 rfl (ed_int ⟨50, _, d1, [], rfl, rfl, hp1, by omega, by decide, by decide, fun v2 d2 a2 b2 hp2 => ?_⟩))))
  refine ⟨v2, rfl, by omega, by omega, ?_⟩
  refine ⟨fun i c => c = ([.cel 0, .dat (.int ((g0 * 2 ^ i : Nat) : Int)), .un, .un], [.lst d2]), .of (by simp), ?_, ?_⟩
  · rintro i c dd hdd rfl
    rw [rangeD_map] at hdd
    obtain ⟨y, hy, rfl⟩ := map_get hdd
    have hi : i < 50 := by
      have := (List.getElem?_eq_some_iff.mp hy).1
      simp at this
      omega
    refine ⟨trivial, _, rfl, ?_⟩
    have hb : g0 * 2 ^ i < 2 ^ 60 := by
      have h1 : 2 ^ i ≤ 2 ^ 50 := Nat.pow_le_pow_right (by decide) (by omega)
      have h2 : g0 * 2 ^ i ≤ 4 * 2 ^ 50 := Nat.mul_le_mul g2 h1
      exact Nat.lt_of_le_of_lt h2 (by decide)
    have es : ((g0 * 2 ^ i : Nat) : Int) * 2 = ((g0 * 2 ^ (i + 1) : Nat) : Int) := by
      rw [Nat.pow_succ, ← Nat.mul_assoc]
      push_cast
      rfl
    generalize g0 * 2 ^ i = z at *
    refine sds_one (sd_set (i := 1) (ed_mul (ev 1 rfl (ed_int ⟨mulB_of (a := 60) (b := 2) (by rw [Int.natAbs_natCast]; exact hb) (by decide) (by decide), ?_⟩))) nd)
    refine UpG.by (e0 := [.cel 0, .dat (.int ((g0 * 2 ^ (i + 1) : Nat) : Int)), .un, .un]) rfl ⟨.inl rfl, .inl ?_, .inr rfl, .inl rfl, trivial⟩
    rw [es]
  · rintro c rfl
    refine ⟨trivial, ?_⟩
    have hl : (rangeD 0 v2.toNat).length ≤ 49 := by
      simp [rangeD]
      omega
    generalize (rangeD 0 v2.toNat).length = j at *
    have hb : g0 * 2 ^ j ≤ 4 * 2 ^ 49 := Nat.mul_le_mul g2 (Nat.pow_le_pow_right (by decide) hl)
    have hb1 : 2 ≤ g0 * 2 ^ j := Nat.le_trans g1 (Nat.le_mul_of_pos_right _ (Nat.pow_pos (by decide)))
    generalize g0 * 2 ^ j = z at *
    refine sds_cons (sd_set (i := 3) (ed_lst (ad_cons (ed_int (ad_cons (ed_draw GD hr 0 rfl (ed_int ⟨40, _, d2, [], rfl, rfl, hp2, by omega, by decide, by decide, fun v3 d3 a3 b3 hp3 => ?_⟩)))))) nd)
    refine ad_cons (ed_sub (ed_add (ev 1 rfl (ed_draw GD hr 0 rfl (ed_int ⟨5, _, d3, [], rfl, rfl, hp3, by omega, by decide, by decide, fun v4 d4 a4 b4 hp4 => ?_⟩)))))
    refine ed_int ⟨(z : Nat) + v4, 2, rfl, rfl, trivial, ?_⟩
    refine ad_cons (ed_draw GD hr 0 rfl (ed_pow (ed_int (ed_int ⟨10, 30, rfl, rfl, ⟨by decide, by decide +kernel⟩, 10 ^ 30, _, d4, _, rfl, rfl, hp4, by omega, by decide, by decide, fun v5 d5 a5 b5 hp5 => ?_⟩))))
    refine ad_cons (ed_pow (ed_int (ed_int ⟨10, 30, rfl, rfl, ⟨by decide, by decide +kernel⟩, ?_⟩)))
    refine ad_nil ⟨[_, _, _, _, _], rfl, szl (by simp), ?_⟩
    show SDs _ _ ([.cel 0, .dat (.int (z : Nat)), .un, .dat (.lst [.int 0, .int v3, .int ((z : Nat) + v4 - 2), .int v5, .int (10 ^ 30)])], [.lst d5]) _ _
    refine sds_one (sd_ret (ed_ix (ev 3 rfl (ed_draw GD hr 0 rfl (ed_int ⟨5, _, d5, [], rfl, rfl, hp5, by omega, by decide, by decide, fun v6 d6 a6 b6 hp6 => ?_⟩)))))
    have hz : (z : Int) ≤ 4 * 2 ^ 49 := by exact_mod_cast hb
    obtain ⟨x, hx, q, rfl, hq⟩ := five (P := fun x => ∃ q : Nat, x = .int (q : Nat) ∧ q ≤ 10 ^ 30) a6 b6 ⟨0, rfl, by decide⟩ ⟨v3.toNat, by rw [Int.toNat_of_nonneg a3], by omega⟩ ⟨((z : Int) + v4 - 2).toNat, by rw [Int.toNat_of_nonneg (by omega)], by omega⟩ ⟨v5.toNat, by rw [Int.toNat_of_nonneg a5], by omega⟩ ⟨10 ^ 30, rfl, by decide⟩
    refine ⟨_, hx, ret_dat (po1 (hP q d6 hq (hp6.mono (by omega))) rfl)⟩
theorem body_lsome {f : Addr} (hl : mg "len" = none) (hrg : mg "range" = none) (GD : FnG P w K mg base 1 "_law_draw" cDraw) : BodyOk P w K mg base 1 ["pool", "kind", "found", "turn"] ["pool", "kind"] "_law_some" s_Lsome f cSomeF := by
  intro cdv A outer s H E hr args M P0 ⟨k, d, b, rows, e1, e2, hp, hk, hb1, hb2, hP⟩
  subst e1
  subst e2
  have nd := sc_Lsome.nd
  refine sds_cons (sd_setLc (i := 2) (own := [("turn", 3)]) (t := .one 3) nd (blkOk_by (N := ["pool", "kind", "found", "turn"]) (sc := defScope s_Lsome) (by decide +kernel)) (fun s H C cl fp => tg_name nd) ?_)
  refine id_range1 hrg (ed_add (ed_int (ed_draw GD hr 0 rfl (ed_int ⟨4, k, d, [], rfl, rfl, hp, by omega, by decide, by decide, fun v1 d1 a1 b1 hp1 => ?_⟩))))
  refine ⟨1 + v1, rfl, by omega, by omega, ?_⟩
  refine lcd_any (List.range (1 + v1).toNat) _ (fun i M2 acc => ∃ d bl, M2 = [.lst d] ∧ acc = List.map (fun n : Nat => D.int (n : Nat)) bl ∧ bl.length = i ∧ PoolOk (k + 10 + i) d ∧ ∀ f ∈ bl, f < b) (rangeD_map _ _) ⟨d1, [], rfl, rfl, rfl, hp1.mono (by omega), by simp⟩ (fun i M acc ⟨d, bl, _, e, e2, _⟩ hi => by
    rw [e, List.length_map, e2]
    exact szlt (by simp at hi; omega)) ?_ (fun _ _ _ _ => trivial) ?_
  · rintro i x M2 acc hx ⟨d6, bl, rfl, rfl, hbl, hp6, hf⟩
    have hi : i < (1 + v1).toNat := by
      have := (List.getElem?_eq_some_iff.mp hx).1
      simpa using this
    refine ⟨_, rfl, fun s H C cl fp => ?_⟩
    refine ed_draw GD hr 0 rfl (ed_ix (ev 1 rfl (ed_int ⟨.int (b : Nat), rfl, _, _, d6, _, rfl, rfl, hp6, by omega, by omega, by omega, fun v6 d7 a6 b6 hp7 => ?_⟩)))
    obtain ⟨fn, rfl⟩ : ∃ fn : Nat, v6 = (fn : Nat) := ⟨v6.toNat, by omega⟩
    refine ⟨_, [.lst d7], rfl, rfl, rfl, d7, bl ++ [fn], rfl, by simp, by simp [hbl], hp7.mono (by omega), fun g hg => ?_⟩
    rcases List.mem_append.mp hg with h | h
    · exact hf g h
    · rw [List.mem_singleton.mp h]
      omega
  rintro M2 acc ⟨d6, bl, rfl, rfl, hbl, hp6, hf⟩
  rw [List.length_range] at hbl hp6
  refine .inr ?_
  show SDs _ _ ([.cel 0, .dat (dKind b rows), .dat (dN bl), .un], [.lst d6]) _ _
  refine sds_one (sd_ret (ed_ix (ed_lst (ad_cons (ev 2 rfl (ad_cons (ed_of_en (en_rep (ed_lst (ad_cons (ed_int (ad_nil ⟨[_], rfl, szl (by simp), ed_len hl (ev 2 rfl ⟨_, bl.length, rfl, by simp [LenOk, dN], ?_⟩)⟩))))))))))))
  have rp : ∀ (x : Nat), (List.replicate ((bl.length : Int)).toNat [D.int (x : Nat)]).flatten = (List.replicate bl.length x).map (fun n : Nat => D.int (n : Nat)) := fun x => by
    rw [Int.toNat_natCast]
    induction bl.length with
    | zero => rfl
    | succ n ih => rw [List.replicate_succ, List.flatten_cons, ih, List.replicate_succ]; rfl
  refine ⟨[.int 0], bl.length, rfl, rfl, by omega, by omega, szl (by simp; omega), ?_⟩
  refine ad_cons (ed_of_en (en_rep (ed_lst (ad_cons (ed_sub (ed_ix (ev 1 rfl (ed_int ⟨.int (b : Nat), rfl, ed_int ⟨_, _, rfl, rfl, trivial, ad_nil ⟨[_], rfl, szl (by simp), ed_len hl (ev 2 rfl ⟨_, bl.length, rfl, by simp [LenOk, dN], ?_⟩)⟩⟩⟩))))))))
  refine ⟨[.int (((b - 1 : Nat) : Nat) : Int)], bl.length, by rw [show ((b - 1 : Nat) : Int) = (b : Int) - 1 by omega]; rfl, rfl, by omega, by omega, szl (by simp; omega), ?_⟩
  refine ad_nil ⟨[dN bl, dN (List.replicate bl.length 0), dN (List.replicate bl.length (b - 1))], ?_, szl (by simp), ?_⟩
  · rw [show [D.int 0] = [D.int ((0 : Nat) : Int)] from rfl, rp 0, rp (b - 1)]
    rfl
  refine ed_ix (ed_lit 9 (d := .lst [.int 0, .int 0, .int 1, .int 2]) rfl (ed_draw GD hr 0 rfl (ed_int ⟨4, _, d6, [], rfl, rfl, hp6, by omega, by decide, by decide, fun v7 d7 a7 b7 hp7 => ?_⟩)))
  have last : ∀ bl' : List Nat, bl'.length = bl.length → (∀ f ∈ bl', f < b) → (PoOf 1 P0).rt false (dN bl') [.lst d7] := fun bl' h1 h2 => po1 (hP bl' d7 (by omega) (by omega) h2 (hp7.mono (by omega))) rfl
  obtain ⟨x, hx, hq⟩ := four (P := fun x => ∃ y, (∃ i : Int, x = .int i ∧ L2.atI [dN bl, dN (List.replicate bl.length 0), dN (List.replicate bl.length (b - 1))] i = some y) ∧ (PoOf 1 P0).rt false y [.lst d7]) a7 b7
    ⟨_, ⟨0, rfl, rfl⟩, last bl rfl hf⟩ ⟨_, ⟨0, rfl, rfl⟩, last bl rfl hf⟩ ⟨_, ⟨1, rfl, rfl⟩, last _ (by simp) fun f hf => by rw [List.eq_of_mem_replicate hf]; omega⟩ ⟨_, ⟨2, rfl, rfl⟩, last _ (by simp) fun f hf => by rw [List.eq_of_mem_replicate hf]; omega⟩
  obtain ⟨y, ⟨i, rfl, hy⟩, hlast⟩ := hq
  exact ⟨_, hx, y, hy, ret_dat hlast⟩
end
end Fb
set_option Elab.async false
set_option linter.all false
set_option maxRecDepth 100000
set_option maxHeartbeats 2000000
/-! Minors: how great the numbers of the lines of the shortest recurrence are. -/
namespace Fb
open PySem L2 Dl
section
variable (M : Nat → Nat → Int)
/-- 1 or -1 -/
def sg (k : Nat) : Int := if k % 2 = 0 then 1 else -1
theorem sg_succ (k : Nat) : sg (k + 1) = - sg k := by
  unfold sg
  by_cases h : k % 2 = 0
  · rw [if_pos h, if_neg (by omega)]
  · rw [if_neg h, if_pos (by omega)]
    rfl
theorem sg_abs (k : Nat) : (sg k).natAbs = 1 := by
  unfold sg
  split <;> rfl
/-- rows from i on, the columns cols -/
def det : Nat → Nat → List Nat → Int
  | 0, _, _ => 1
  | n + 1, i, cols => sm (fun k => sg k * M i (cols.getD k 0) * det n (i + 1) (cols.eraseIdx k)) (n + 1)
theorem sm_comm (f : Nat → Nat → Int) (m : Nat) : ∀ n, sm (fun k => sm (fun j => f k j) m) n = sm (fun j => sm (fun k => f k j) n) m
  | 0 => by
    rw [sm]
    exact (sm_zero m fun j _ => rfl).symm
  | n + 1 => by
    rw [sm, sm_comm f m n, ← sm_add]
    rfl
theorem sm_head (f : Nat → Int) : ∀ m, sm f (m + 1) = f 0 + sm (fun j => f (j + 1)) m
  | 0 => by simp [sm]
  | m + 1 => by
    rw [sm, sm_head f m, sm]
    omega
theorem sm_two {h : Nat → Int} {p m : Nat} (hp : p + 1 < m) (h1 : ∀ k, k < m → k ≠ p → k ≠ p + 1 → h k = 0) (h2 : h p + h (p + 1) = 0) : sm h m = 0 := by
  have e : ∀ q, p + 2 ≤ q → q ≤ m → sm h q = 0 := by
    intro q
    induction q with
    | zero => intro h3; omega
    | succ q ih =>
      intro h3 h4
      rw [sm]
      by_cases hq : q = p + 1
      · subst hq
        rw [sm, sm_zero p fun j hj => h1 j (by omega) (by omega) (by omega)]
        omega
      · rw [ih (by omega) (by omega), h1 q (by omega) (by omega) hq]
        rfl
  exact e m (by omega) (Nat.le_refl _)
theorem getD_app {xs ys : List Nat} {k : Nat} : (xs ++ ys).getD k 0 = if k < xs.length then xs.getD k 0 else ys.getD (k - xs.length) 0 := by
  simp only [List.getD_eq_getElem?_getD, List.getElem?_append]
  split <;> rfl
/-- two neighbours change places -/
theorem det_swap : ∀ (n i : Nat) (pre post : List Nat) (x y : Nat), pre.length + 2 + post.length = n → det M n i (pre ++ x :: y :: post) = - det M n i (pre ++ y :: x :: post)
  | 0, i, pre, post, x, y, h => by omega
  | n + 1, i, pre, post, x, y, h => by
    have key : sm (fun k => sg k * M i ((pre ++ x :: y :: post).getD k 0) * det M n (i + 1) ((pre ++ x :: y :: post).eraseIdx k) + sg k * M i ((pre ++ y :: x :: post).getD k 0) * det M n (i + 1) ((pre ++ y :: x :: post).eraseIdx k)) (n + 1) = 0 := by
      refine sm_two (p := pre.length) (by omega) (fun k hk k1 k2 => ?_) ?_
      · by_cases hlt : k < pre.length
        · rw [List.eraseIdx_append_of_lt_length hlt, List.eraseIdx_append_of_lt_length hlt]
          have hl : (pre.eraseIdx k).length = pre.length - 1 := List.length_eraseIdx_of_lt hlt
          rw [det_swap n (i + 1) (pre.eraseIdx k) post x y (by omega), getD_app, getD_app, if_pos hlt, if_pos hlt]
          grind
        · rw [List.eraseIdx_append_of_length_le (by omega), List.eraseIdx_append_of_length_le (by omega), getD_app, getD_app, if_neg hlt, if_neg hlt]
          obtain ⟨q, hq⟩ : ∃ q, k - pre.length = q + 2 := ⟨k - pre.length - 2, by omega⟩
          rw [hq]
          have hl : (post.eraseIdx q).length = post.length - 1 := List.length_eraseIdx_of_lt (by omega)
          have := det_swap n (i + 1) pre (post.eraseIdx q) x y (by omega)
          simp only [List.eraseIdx_cons_succ, List.getD_cons_succ]
          rw [this]
          grind
      · rw [List.eraseIdx_append_of_length_le (Nat.le_refl _), List.eraseIdx_append_of_length_le (Nat.le_refl _), List.eraseIdx_append_of_length_le (by omega), List.eraseIdx_append_of_length_le (by omega), getD_app, getD_app, getD_app, getD_app]
        simp only [Nat.lt_irrefl, if_false, Nat.sub_self, show ¬ pre.length + 1 < pre.length by omega, show pre.length + 1 - pre.length = 1 by omega, List.eraseIdx_cons_zero, List.eraseIdx_cons_succ, List.getD_cons_zero, List.getD_cons_succ]
        rw [sg_succ]
        grind
    rw [sm_add] at key
    rw [det, det]
    omega
/-- a column twice -/
theorem det_dup (n i c : Nat) : ∀ (mid : List Nat) (k : Nat) (pre post : List Nat), mid.length = k → pre.length + 2 + mid.length + post.length = n → det M n i (pre ++ c :: (mid ++ c :: post)) = 0 := by
  intro mid k
  induction k generalizing mid with
  | zero =>
    intro pre post hm h
    rw [List.eq_nil_of_length_eq_zero hm] at h ⊢
    have := det_swap M n i pre post c c (by simpa using h)
    rw [List.nil_append]
    omega
  | succ k ih =>
    intro pre post hm h
    obtain ⟨mid', z, rfl⟩ : ∃ mid' z, mid = mid' ++ [z] := ⟨mid.dropLast, mid.getLast (by intro e; rw [e] at hm; cases hm), (List.dropLast_concat_getLast _).symm⟩
    have hl : mid'.length = k := by simpa using hm
    have e1 : pre ++ c :: ((mid' ++ [z]) ++ c :: post) = (pre ++ c :: mid') ++ z :: c :: post := by simp
    have e2 : (pre ++ c :: mid') ++ c :: z :: post = pre ++ c :: (mid' ++ c :: (z :: post)) := by simp
    have hlen : (mid' ++ [z]).length = mid'.length + 1 := by simp
    rw [e1, det_swap M n i (pre ++ c :: mid') post z c (by simp; omega), e2, ih mid' pre (z :: post) hl (by simp; omega)]
    rfl
/-- the shares of the rows in a column put behind S -/
def cof : Nat → Nat → List Nat → Nat → Int
  | 0, _, _, _ => 1
  | n + 1, i, S, 0 => sg (n + 1) * det M (n + 1) (i + 1) S
  | n + 1, i, S, j + 1 => sm (fun k => sg k * M i (S.getD k 0) * cof n (i + 1) (S.eraseIdx k) j) (n + 1)
theorem cof_last : ∀ (n i : Nat) (S : List Nat), cof M n i S n = det M n i S
  | 0, i, S => rfl
  | n + 1, i, S => by
    rw [cof, det]
    exact sm_congr _ fun k hk => by rw [cof_last n (i + 1)]
theorem det_lin : ∀ (n i : Nat) (S : List Nat) (c : Nat), S.length = n → det M (n + 1) i (S ++ [c]) = sm (fun j => cof M n i S j * M (i + j) c) (n + 1)
  | 0, i, S, c, h => by
    rw [List.eq_nil_of_length_eq_zero h]
    simp [det, sm, cof, sg]
  | n + 1, i, S, c, h => by
    rw [det, sm]
    conv => rhs; rw [sm_head]
    have e1 : sm (fun k => sg k * M i ((S ++ [c]).getD k 0) * det M (n + 1) (i + 1) ((S ++ [c]).eraseIdx k)) (n + 1) = sm (fun k => sm (fun j => sg k * M i (S.getD k 0) * cof M n (i + 1) (S.eraseIdx k) j * M (i + (j + 1)) c) (n + 1)) (n + 1) := by
      refine sm_congr _ fun k hk => ?_
      rw [List.eraseIdx_append_of_lt_length (by omega), getD_app, if_pos (by omega), det_lin n (i + 1) (S.eraseIdx k) c (by rw [List.length_eraseIdx_of_lt (by omega)]; omega), ← sm_mul]
      refine sm_congr _ fun j hj => ?_
      rw [show i + 1 + j = i + (j + 1) by omega]
      grind
    rw [e1, sm_comm]
    have e2 : (S ++ [c]).eraseIdx (n + 1) = S := by
      rw [List.eraseIdx_append_of_length_le (by omega), h]
      simp
    have e3 : (S ++ [c]).getD (n + 1) 0 = c := by
      rw [getD_app, if_neg (by omega), h]
      simp
    rw [e2, e3, cof, Nat.add_zero]
    have e4 : sm (fun j => sm (fun k => sg k * M i (S.getD k 0) * cof M n (i + 1) (S.eraseIdx k) j * M (i + (j + 1)) c) (n + 1)) (n + 1) = sm (fun j => cof M (n + 1) i S (j + 1) * M (i + (j + 1)) c) (n + 1) := by
      refine sm_congr _ fun j hj => ?_
      rw [cof, Int.mul_comm, ← sm_mul]
      refine sm_congr _ fun k hk => ?_
      exact Int.mul_comm _ _
    rw [e4]
    grind
/-- factorial -/
def fac : Nat → Nat
  | 0 => 1
  | n + 1 => (n + 1) * fac n
variable {M}
theorem sm_abs {f : Nat → Int} {B : Nat} : ∀ m, (∀ j, j < m → (f j).natAbs ≤ B) → (sm f m).natAbs ≤ m * B
  | 0, _ => by simp [sm]
  | m + 1, h => by
    have h1 := sm_abs m fun j hj => h j (by omega)
    have h2 := h m (by omega)
    rw [sm, Nat.succ_mul]
    omega
theorem term_abs {k : Nat} {u v : Int} {A B : Nat} (hu : u.natAbs ≤ A) (hv : v.natAbs ≤ B) : (sg k * u * v).natAbs ≤ A * B := by
  rw [Int.natAbs_mul, Int.natAbs_mul, sg_abs, Nat.one_mul]
  exact Nat.mul_le_mul hu hv
theorem det_abs {A : Nat} (hM : ∀ i j, (M i j).natAbs ≤ A) : ∀ (n i : Nat) (S : List Nat), (det M n i S).natAbs ≤ fac n * A ^ n
  | 0, i, S => by simp [det, fac]
  | n + 1, i, S => by
    rw [det, fac, Nat.mul_assoc]
    refine sm_abs _ fun k hk => ?_
    have := term_abs (k := k) (hM i (S.getD k 0)) (det_abs hM n (i + 1) (S.eraseIdx k))
    refine Nat.le_trans this (Nat.le_of_eq ?_)
    rw [Nat.pow_succ]
    grind
theorem cof_abs {A : Nat} (hM : ∀ i j, (M i j).natAbs ≤ A) : ∀ (n i : Nat) (S : List Nat) (j : Nat), (cof M n i S j).natAbs ≤ fac n * A ^ n
  | 0, i, S, j => by simp [cof, fac]
  | n + 1, i, S, 0 => by
    rw [cof, Int.natAbs_mul, sg_abs, Nat.one_mul]
    exact det_abs hM _ _ _
  | n + 1, i, S, j + 1 => by
    rw [cof, fac, Nat.mul_assoc]
    refine sm_abs _ fun k hk => ?_
    have := term_abs (k := k) (hM i (S.getD k 0)) (cof_abs hM n (i + 1) (S.eraseIdx k) j)
    refine Nat.le_trans this (Nat.le_of_eq ?_)
    rw [Nat.pow_succ]
    grind
end
end Fb
set_option Elab.async false
set_option linter.all false
set_option maxRecDepth 100000
set_option maxHeartbeats 2000000
/-! The shortest recurrence with finer bits. -/
namespace Fb
open PySem L2 Dl
section
variable {size : Nat} {a : Nat → Int}
/-- the table of the values -/
def tab (size : Nat) (a : Nat → Int) (j c : Nat) : Int := if j + c < 2 * size + 1 then a (j + c) else 0
/-- the vector of minors -/
def minV (size : Nat) (a : Nat → Int) (t : Nat) (S : List Nat) : List Int := (List.range (2 * size + 1)).map fun i => if i < size then det (tab size a) (t + 1) 0 (S ++ [i]) else if i - size ≤ t then cof (tab size a) t 0 S (i - size) else 0
theorem minV_at {t : Nat} {S : List Nat} {i : Nat} (h : i < 2 * size + 1) : at0 (minV size a t S) i = if i < size then det (tab size a) (t + 1) 0 (S ++ [i]) else if i - size ≤ t then cof (tab size a) t 0 S (i - size) else 0 := by
  rw [at0, minV, List.getD_eq_getElem?_getD, List.getElem?_map, List.getElem?_range h]
  rfl
theorem minV_good {t : Nat} {S : List Nat} (ht : t ≤ size) (hl : S.length = t) (hs : ∀ s ∈ S, s < size) (hd : det (tab size a) t 0 S ≠ 0) : Good size a t S (minV size a t S) := by
  refine ⟨by simp [minV], fun i hi => ?_, fun j hj => ?_, ?_, fun s hsm => ?_⟩
  · rw [minV_at (by omega), if_pos hi, det_lin _ t 0 S i hl]
    refine sm_congr _ fun j hj => ?_
    rw [minV_at (by omega), if_neg (by omega), if_pos (by omega), show size + j - size = j by omega, tab, if_pos (by omega), Nat.zero_add]
  · by_cases h : size + j < 2 * size + 1
    · rw [minV_at h, if_neg (by omega), if_neg (by omega)]
    · exact at0_out (by simp [minV]; omega)
  · rw [minV_at (by omega), if_neg (by omega), if_pos (by omega), show size + t - size = t by omega, cof_last]
    exact hd
  · have h := hs s hsm
    rw [minV_at (by omega), if_pos h]
    obtain ⟨pre, mid, rfl⟩ := List.append_of_mem hsm
    have := det_dup (tab size a) (t + 1) 0 s mid mid.length pre [] rfl (by simp at hl ⊢; omega)
    simpa using this
theorem tab_abs {b : Nat} (h : ∀ k, k < 2 * size + 1 → (a k).natAbs < 2 ^ b) (i j : Nat) : (tab size a i j).natAbs ≤ 2 ^ b := by
  unfold tab
  split
  · exact Nat.le_of_lt (h _ (by assumption))
  · simp
theorem fac_bd {n : Nat} (h : n ≤ 5) (h1 : 1 ≤ n) : fac n < 2 ^ (3 * n) := by
  have : n = 1 ∨ n = 2 ∨ n = 3 ∨ n = 4 ∨ n = 5 := by omega
  rcases this with rfl | rfl | rfl | rfl | rfl <;> decide
theorem minV_bd {t b : Nat} {S : List Nat} (ht : t ≤ 4) (h : ∀ k, k < 2 * size + 1 → (a k).natAbs < 2 ^ b) (i : Nat) : (at0 (minV size a t S) i).natAbs < 2 ^ ((t + 1) * (b + 3)) := by
  have hb : fac (t + 1) * (2 ^ b) ^ (t + 1) < 2 ^ ((t + 1) * (b + 3)) := by
    have e : 2 ^ ((t + 1) * (b + 3)) = 2 ^ (3 * (t + 1)) * (2 ^ b) ^ (t + 1) := by
      rw [← Nat.pow_mul, ← Nat.pow_add]
      congr 1
      grind
    rw [e]
    exact Nat.mul_lt_mul_of_pos_right (fac_bd (by omega) (by omega)) (Nat.pow_pos (Nat.two_pow_pos b))
  by_cases hi : i < 2 * size + 1
  · rw [minV_at hi]
    refine Nat.lt_of_le_of_lt ?_ hb
    split
    · exact det_abs (tab_abs h) _ _ _
    · split
      · refine Nat.le_trans (cof_abs (tab_abs h) t 0 S _) (Nat.mul_le_mul ?_ (Nat.pow_le_pow_right (Nat.two_pow_pos b) (by omega)))
        rw [fac]
        exact Nat.le_mul_of_pos_left _ (by omega)
      · exact Nat.zero_le _
  · rw [at0_out (by simp [minV]; omega)]
    exact Nat.two_pow_pos _
/-- two vectors of the same turn are multiples of each other -/
theorem good_prop {t d : Nat} {ls : Lines} {w W : List Int} (L : LInv size a ls) (hl : ls.length = t) (htd : t ≤ d) (hds : d ≤ size) (H2 : ∀ x : Nat → Int, (∀ i, i < size → sm (fun j => x j * a (j + i)) d = 0) → ∀ j, j < d → x j = 0)
    (g : Good size a t (ls.map (·.1)) w) (G : Good size a t (ls.map (·.1)) W) (i : Nat) : at0 W (size + t) * at0 w i = at0 w (size + t) * at0 W i := by
  let x : Nat → Int := fun j => at0 W (size + t) * at0 w (size + j) - at0 w (size + t) * at0 W (size + j)
  have hxt : x t = 0 := by show _ - _ = (0 : Int); grind
  have hv : ∀ i, i < size → at0 W (size + t) * at0 w i - at0 w (size + t) * at0 W i = sm (fun j => x j * a (j + i)) t := fun i hi => by
    have e : sm (fun j => x j * a (j + i)) (t + 1) = sm (fun j => x j * a (j + i)) t := by
      rw [sm, hxt, Int.zero_mul, Int.add_zero]
    rw [← e, g.rel i hi, G.rel i hi, ← sm_mul, Int.sub_eq_add_neg, ← Int.neg_mul, ← sm_mul, ← sm_add]
    refine sm_congr _ fun j hj => ?_
    show _ = (at0 W (size + t) * at0 w (size + j) - at0 w (size + t) * at0 W (size + j)) * a (j + i)
    grind
  have hz : ∀ i, i < size → sm (fun j => x j * a (j + i)) t = 0 := sum_zero L t (by omega) x fun s hs => by
    rw [← hl, List.take_length] at hs
    have hss : s < size := by
      obtain ⟨q, hq, e⟩ := List.mem_map.mp hs
      obtain ⟨k, hk⟩ := List.mem_iff_getElem?.mp hq
      rw [← e]
      exact (L k q hk).2.1
    rw [← hl, hl, ← hv s hss, g.zer s hs, G.zer s hs]
    simp
  have hx0 : ∀ j, j < t → x j = 0 := fun j hj => by
    have := H2 (fun j => if j < t then x j else 0) (fun i hi => ?_) j (by omega)
    · simpa [hj] using this
    · have e1 := sm_ext (f := fun j => (if j < t then x j else 0) * a (j + i)) (m := t) (p := d - t) fun j h1 h2 => by rw [if_neg (by omega), Int.zero_mul]
      rw [show t + (d - t) = d by omega] at e1
      rw [e1, ← hz i hi]
      exact sm_congr _ fun j hj => by rw [if_pos hj]
  by_cases h1 : i < size
  · have := hv i h1
    rw [hz i h1] at this
    omega
  · obtain ⟨j, rfl⟩ : ∃ j, i = size + j := ⟨i - size, by omega⟩
    by_cases h2 : j < t
    · have := hx0 j h2
      have : at0 W (size + t) * at0 w (size + j) - at0 w (size + t) * at0 W (size + j) = 0 := this
      omega
    · by_cases h3 : j = t
      · subst h3
        exact Int.mul_comm _ _
      · rw [g.sup j (by omega), G.sup j (by omega)]
        simp
theorem dvd_gcdL {k c : Int} : ∀ (v : List Int) (g : Nat), k ∣ c * (g : Nat) → (∀ x ∈ v, k ∣ c * x) → k ∣ c * (v.foldl (fun g x => Nat.gcd x.natAbs g) g : Nat)
  | [], g, h, _ => h
  | x :: v, g, h, hv => by
    refine dvd_gcdL v _ ?_ fun y hy => hv y (List.mem_cons_of_mem _ hy)
    have h1 := Int.natAbs_dvd_natAbs.mpr (hv x List.mem_cons_self)
    have h2 := Int.natAbs_dvd_natAbs.mpr h
    rw [Int.natAbs_mul] at h1 h2
    rw [Int.natAbs_natCast] at h2
    refine Int.natAbs_dvd_natAbs.mp ?_
    rw [Int.natAbs_mul, Int.natAbs_natCast, ← Nat.gcd_mul_left]
    exact Nat.dvd_gcd h1 h2
theorem prim_mul {w : List Int} (i : Nat) (hG : gcdL w ≠ 0) : at0 w i = (gcdL w : Nat) * at0 (primitive w) i := by
  unfold primitive
  by_cases hg : 1 < gcdL w
  · rw [if_pos hg]
    by_cases hi : i < w.length
    · rw [at0_map hi]
      obtain ⟨c, hc⟩ := gcdL_dvd (at0_mem hi)
      have h0 : (gcdL w : Int) ≠ 0 := by omega
      rw [hc, Int.mul_fdiv_cancel_left _ h0]
    · rw [at0_out (by omega), at0_out (by simp; omega)]
      simp
  · rw [if_neg hg, show gcdL w = 1 by omega]
    simp
theorem gcd_ne {w : List Int} {i : Nat} (h : at0 w i ≠ 0) : gcdL w ≠ 0 := fun z => by
  have := gcdL_dvd (mem_of_at0 h)
  rw [z] at this
  exact h (by simpa using this)
/-- the primitive one is the least -/
theorem prim_le {w W : List Int} {l : Nat} (hw : at0 w l ≠ 0) (hW : at0 W l ≠ 0) (h : ∀ i, at0 W l * at0 w i = at0 w l * at0 W i) (i : Nat) : (at0 (primitive w) i).natAbs ≤ (at0 W i).natAbs := by
  have hG := gcd_ne hw
  have hd : at0 w l ∣ at0 W l * (gcdL w : Nat) := dvd_gcdL w 0 (by simp) fun x hx => by
    obtain ⟨j, hj⟩ := List.mem_iff_getElem?.mp hx
    have e : at0 w j = x := by rw [at0, List.getD_eq_getElem?_getD, hj]; rfl
    rw [← e, h j]
    exact ⟨_, rfl⟩
  obtain ⟨q, hq⟩ := hd
  have e1 := h i
  rw [prim_mul i hG, ← Int.mul_assoc, hq, Int.mul_assoc] at e1
  have e2 := Int.eq_of_mul_eq_mul_left hw e1
  have hq0 : q ≠ 0 := fun z => by
    rw [z, Int.mul_zero] at hq
    rcases Int.mul_eq_zero.mp hq with h1 | h1
    · exact hW h1
    · omega
  rw [← e2, Int.natAbs_mul]
  exact Nat.le_mul_of_pos_left _ (by omega)
/-- bits of the product of the first t pivots -/
def pb (β : Nat) : Nat → Nat
  | 0 => 0
  | k + 1 => pb β k + (k + 1) * β
def LB (β : Nat) (ls : Lines) : Prop := ∀ (k : Nat) (l : Nat × List Int), ls[k]? = some l → Bd ((k + 1) * β) l.2
theorem lead_bd {β t : Nat} {ls : Lines} {v : List Int} (L : LInv size a ls) (hB : LB β ls) (hl : ls.length ≤ t) (ht : t ≤ size) (g : Good size a t [] v) (h1 : (at0 v (size + t)).natAbs ≤ 1) : ∀ m, m ≤ ls.length → (at0 ((ls.take m).foldl redBy v) (size + t)).natAbs ≤ 2 ^ pb β m
  | 0, _ => by simpa [pb] using h1
  | m + 1, hm => by
    have ih := lead_bd L hB hl ht g h1 m (by omega)
    have hx : ls[m]? = some ls[m] := List.getElem?_eq_getElem (by omega)
    obtain ⟨gl, g1, g2⟩ := L m _ hx
    have gf := Good.fold L g hl ht m (by omega)
    rw [foldl_take hx, redBy_at gf.len gl.len (by omega), gl.sup t (by omega)]
    have hp : (at0 ls[m].2 ls[m].1).natAbs < 2 ^ ((m + 1) * β) := getD_bd (hB m _ hx) _
    have h2 : 2 ^ pb β m ≤ 2 ^ pb β (m + 1) := Nat.pow_le_pow_right (by decide) (by rw [pb]; omega)
    split
    · rw [Int.mul_zero, Int.sub_zero, Int.natAbs_mul, pb, Nat.pow_add, Nat.mul_comm (2 ^ pb β m)]
      exact Nat.mul_le_mul (Nat.le_of_lt hp) ih
    · exact Nat.le_trans ih h2
theorem pb_le {β t : Nat} (h : t ≤ 4) : pb β t ≤ 10 * β := by
  have : t = 0 ∨ t = 1 ∨ t = 2 ∨ t = 3 ∨ t = 4 := by omega
  rcases this with rfl | rfl | rfl | rfl | rfl <;> simp [pb] <;> omega
variable {vs : List Int} {d b : Nat} {c : Nat → Int}
theorem gcd_div_ok {w : List Int} {l : Nat} {n : Nat} (h0 : at0 w l ≠ 0) (h : (at0 w l).natAbs ≤ 2 ^ n) (hn : n < 8900) : DivOk w := fun y _ => by
  have hd := (foldgcd_dvd w 0).2 _ (mem_of_at0 h0)
  have hle : gcdL w ≤ (at0 w l).natAbs := Nat.le_of_dvd (by omega) hd
  refine pyl_of (b := n + 1) ?_ (by omega)
  rw [Int.natAbs_natCast]
  have := Nat.pow_lt_pow_right (show 1 < 2 by decide) (show n < n + 1 by omega)
  omega
theorem step_facts2 {t : Nat} {ls : Lines} (hs : size ≤ 4) (htd : t ≤ d) (hds : d ≤ size) (hvl : vs.length = 2 * size + 1) (ha : ∀ k, k < 2 * size + 1 → at0 vs k = a k) (hb1 : 1 ≤ b) (hb : Bd b vs) (hB : b ≤ 880)
    (H2 : ∀ x : Nat → Int, (∀ i, i < size → sm (fun j => x j * a (j + i)) d = 0) → ∀ j, j < d → x j = 0) (L : LInv size a ls) (hl : ls.length = t) (lb : LB (b + 3) ls) (hdet : det (tab size a) t 0 (ls.map (·.1)) ≠ 0) :
    StepOk (2 * size + 1) ls (vecAt vs size t) ∧ Good size a t (ls.map (·.1)) (restV ls (vecAt vs size t)) ∧ Bd ((t + 1) * (b + 3)) (restV ls (vecAt vs size t)) ∧
      ∀ s, s < size → at0 (restV ls (vecAt vs size t)) s ≠ 0 → det (tab size a) (t + 1) 0 (ls.map (·.1) ++ [s]) ≠ 0 := by
  have ht : t ≤ size := by omega
  have hvg := vec_good hvl ha ht
  have hfg := Good.fold L hvg (Nat.le_of_eq hl) ht ls.length (Nat.le_refl _)
  rw [List.take_length] at hfg
  have h1 : (at0 (vecAt vs size t) (size + t)).natAbs ≤ 1 := by
    rw [vec_at (by omega), if_neg (by omega), show size + t - size = t by omega, unit_at (by omega), if_pos rfl]
    decide
  have hlead := lead_bd L lb (Nat.le_of_eq hl) ht hvg h1 ls.length (Nat.le_refl _)
  rw [List.take_length, hl] at hlead
  have hpb := pb_le (β := b + 3) (show t ≤ 4 by omega)
  have hss : ∀ s ∈ ls.map (·.1), s < size := fun s hs' => by
    obtain ⟨q, hq, e⟩ := List.mem_map.mp hs'
    obtain ⟨k, hk⟩ := List.mem_iff_getElem?.mp hq
    rw [← e]
    exact (L k q hk).2.1
  have hW := minV_good (a := a) ht (by rw [List.length_map, hl]) hss hdet
  have prop := good_prop L hl htd hds H2 hfg hW
  have av : ∀ k, k < 2 * size + 1 → (a k).natAbs < 2 ^ b := fun k hk => by
    rw [← ha k hk]
    exact getD_bd hb k
  have rg := hfg.prim ht
  have rle := prim_le hfg.lead hW.lead prop
  have rbd : Bd ((t + 1) * (b + 3)) (restV ls (vecAt vs size t)) := fun x hx => by
    obtain ⟨i, hi⟩ := List.mem_iff_getElem?.mp hx
    have e : at0 (restV ls (vecAt vs size t)) i = x := by rw [at0, List.getD_eq_getElem?_getD, hi]; rfl
    rw [← e]
    exact Nat.lt_of_le_of_lt (rle i) (minV_bd (by omega) av i)
  refine ⟨⟨⟨5 * (b + 3), ⟨fun l hlm => ?_, fun l hlm => ?_, by omega⟩, (vec_bd hb1 hb).mono (by omega), ?_⟩, gcd_div_ok hfg.lead hlead (by omega)⟩, rg, rbd, fun s hs' hne => ?_⟩
  · obtain ⟨k, hk⟩ := List.mem_iff_getElem?.mp hlm
    exact ⟨(L k l hk).1.len, by have := (L k l hk).2.1; omega⟩
  · obtain ⟨k, hk⟩ := List.mem_iff_getElem?.mp hlm
    have hkl := (List.getElem?_eq_some_iff.mp hk).1
    exact (lb k l hk).mono (Nat.mul_le_mul_right _ (by omega))
  · have : (ls.length + 2) * (5 * (b + 3) + 2) ≤ 6 * (5 * 883 + 2) := Nat.mul_le_mul (by omega) (by omega)
    omega
  · have p2 := good_prop L hl htd hds H2 rg hW s
    intro z
    have e : at0 (minV size a t (ls.map (·.1))) s = 0 := by
      rw [minV_at (by omega), if_pos hs', z]
    rw [e, Int.mul_zero] at p2
    rcases Int.mul_eq_zero.mp p2 with q | q
    · exact hW.lead q
    · exact hne q
theorem rec_turns2 (hd : d ≤ size) (hs : size ≤ 4) (hvl : vs.length = 2 * size + 1) (ha : ∀ k, k < 2 * size + 1 → at0 vs k = a k) (hb1 : 1 ≤ b) (hb : Bd b vs) (hB : b ≤ 880)
    (H1 : ∀ i, i < size → a (d + i) = sm (fun j => c j * a (j + i)) d) (H2 : ∀ x : Nat → Int, (∀ i, i < size → sm (fun j => x j * a (j + i)) d = 0) → ∀ j, j < d → x j = 0) :
    ∀ (k t : Nat) (ls : Lines), d - t = k → t ≤ d → LInv size a ls → ls.length = t → LB (b + 3) ls → det (tab size a) t 0 (ls.map (·.1)) ≠ 0 →
      RecOk size vs (size + 1 - t) t ls ∧ recGo size vs (size + 1 - t) t ls = ((List.range d).map fun back => c (d - 1 - back)) ∧ ∀ j, j < d → (c j).natAbs < 2 ^ ((d + 1) * (b + 3)) := by
  intro k
  induction k with
  | zero =>
    intro t ls hk ht L hl lb hdet
    have htd : t = d := by omega
    subst htd
    obtain ⟨sk, g, gb, _⟩ := step_facts2 hs ht hd hvl ha hb1 hb hB H2 L hl lb hdet
    have hB1 : (t + 1) * (b + 3) ≤ 8900 := Nat.le_trans (Nat.mul_le_mul (show t + 1 ≤ 5 by omega) (show b + 3 ≤ 883 by omega)) (by decide)
    generalize hr : restV ls (vecAt vs size t) = r at *
    have hsum : ∀ i, i < size → at0 r i = sm (fun j => (at0 r (size + j) + at0 r (size + t) * c j) * a (j + i)) t := fun i hi => by
      rw [g.rel i hi, sm, H1 i hi, ← sm_mul, ← sm_add]
      refine sm_congr _ fun j hj => ?_
      rw [Int.add_mul, Int.mul_assoc]
    have hz : ∀ i, i < size → at0 r i = 0 := fun i hi => by
      rw [hsum i hi]
      refine sum_zero L t (Nat.le_of_eq hl.symm) (fun j => at0 r (size + j) + at0 r (size + t) * c j) (fun s hs' => ?_) i hi
      have hs2 : s ∈ ls.map (·.1) := by
        rw [← hl, List.take_length] at hs'
        exact hs'
      have hss : s < size := by
        obtain ⟨q, hq, e⟩ := List.mem_map.mp hs2
        obtain ⟨k, hk⟩ := List.mem_iff_getElem?.mp hq
        rw [← e]
        exact (L k q hk).2.1
      rw [← hsum s hss]
      exact g.zer s hs2
    have hany : (r.take size).any (· != 0) = false := by
      cases e : (r.take size).any (· != 0) with
      | false => rfl
      | true =>
        obtain ⟨h1, h2, _⟩ := first_spec e
        exact absurd (hz _ h1) h2
    have hx := H2 (fun j => at0 r (size + j) + at0 r (size + t) * c j) fun i hi => by rw [← hsum i hi]; exact hz i hi
    rw [show size + 1 - t = (size - t) + 1 by omega]
    refine ⟨⟨sk, fun h => ?_, fun _ => ⟨?_, fun i hi => ?_⟩⟩, ?_, fun j hj => ?_⟩
    · rw [hr, hany] at h
      cases h
    · rw [hr]
      exact g.lead
    · rw [hr]
      exact pyl_of (gb _ (g.mem hd)) hB1
    · rw [recGo, hr, if_neg (by rw [hany]; decide), recOut]
      refine List.map_congr_left fun back hback => ?_
      have hback := List.mem_range.mp hback
      have gd : ∀ i, (r.drop size).getD i 0 = at0 r (size + i) := fun i => by
        rw [List.getD_eq_getElem?_getD, List.getElem?_drop, at0, List.getD_eq_getElem?_getD]
      rw [gd, gd]
      have h1 := hx (t - 1 - back) (by omega)
      have h2 : -(at0 r (size + (t - 1 - back))) = at0 r (size + t) * c (t - 1 - back) := by
        have h1 : at0 r (size + (t - 1 - back)) + at0 r (size + t) * c (t - 1 - back) = 0 := h1
        omega
      rw [h2, Int.mul_fdiv_cancel_left _ g.lead]
    · have h1 : at0 r (size + j) + at0 r (size + t) * c j = 0 := hx j hj
      have h2 : (at0 r (size + j)).natAbs < 2 ^ ((t + 1) * (b + 3)) := getD_bd gb _
      have h3 : (at0 r (size + j)).natAbs = (at0 r (size + t)).natAbs * (c j).natAbs := by
        rw [← Int.natAbs_mul]
        omega
      have h4 : 1 ≤ (at0 r (size + t)).natAbs := by
        have := g.lead
        omega
      have h5 := Nat.mul_le_mul_right (c j).natAbs h4
      omega
  | succ k ih =>
    intro t ls hk ht L hl lb hdet
    have htd : t < d := by omega
    obtain ⟨sk, g, gb, gd⟩ := step_facts2 hs ht hd hvl ha hb1 hb hB H2 L hl lb hdet
    have hB1 : (t + 1) * (b + 3) < 8900 := Nat.lt_of_le_of_lt (Nat.mul_le_mul (show t + 1 ≤ 5 by omega) (show b + 3 ≤ 883 by omega)) (by decide)
    generalize hr : restV ls (vecAt vs size t) = r at *
    have hany := some_left H2 g htd
    have hf : ls.foldl redBy r = r := fold_same g.zer
    have hr2 : restV ls r = primitive r := by rw [restV, hf]
    have g2 := g.prim (by omega)
    have gb2 := prim_bd gb
    have hany2 := some_left H2 g2 htd
    obtain ⟨f1, f2, f3⟩ := first_spec hany2
    have htk : (takeV ls r).2 = ls ++ [(firstSpot (primitive r), primitive r)] := by
      rw [takeV, hr2]
      simp only [f3, if_true]
    have lb2 : LB (b + 3) (takeV ls r).2 := by
      rw [htk]
      intro k l hk'
      by_cases hkl : k < ls.length
      · rw [List.getElem?_append_left hkl] at hk'
        exact lb k l hk'
      · rw [List.getElem?_append_right (by omega)] at hk'
        have h0 : k - ls.length = 0 := by
          have := (List.getElem?_eq_some_iff.mp hk').1
          simp at this
          omega
        rw [h0] at hk'
        simp at hk'
        subst hk'
        rw [show k = t by omega]
        exact gb2
    have L2 : LInv size a (takeV ls r).2 := by
      rw [htk]
      exact linv_snoc L hl g2 f1 f2
    have hr0 : at0 r (firstSpot (primitive r)) ≠ 0 := by
      rw [prim_mul _ (gcd_ne g.lead)]
      intro z
      rcases Int.mul_eq_zero.mp z with q | q
      · exact gcd_ne g.lead (by omega)
      · exact f2 q
    have hdet2 : det (tab size a) (t + 1) 0 ((takeV ls r).2.map (·.1)) ≠ 0 := by
      rw [htk, List.map_append]
      exact gd _ f1 hr0
    obtain ⟨i1, i2, i3⟩ := ih (t + 1) (takeV ls r).2 (by omega) (by omega) L2 (by rw [htk, List.length_append, hl]; rfl) lb2 hdet2
    rw [show size + 1 - t = (size + 1 - (t + 1)) + 1 by omega]
    obtain ⟨⟨bb, lo, vb, hbb⟩, dv⟩ := id sk
    refine ⟨⟨sk, fun _ => ?_, fun h => ?_⟩, ?_, i3⟩
    · rw [hr]
      refine ⟨⟨⟨5 * (b + 3), ⟨lo.len, fun l hlm => ?_, lo.few⟩, gb.mono (Nat.mul_le_mul_right _ (by omega)), ?_⟩, ?_⟩, i1⟩
      · obtain ⟨q, hq⟩ := List.mem_iff_getElem?.mp hlm
        have hkl := (List.getElem?_eq_some_iff.mp hq).1
        exact (lb q l hq).mono (Nat.mul_le_mul_right _ (by omega))
      · have : (ls.length + 2) * (5 * (b + 3) + 2) ≤ 6 * (5 * 883 + 2) := Nat.mul_le_mul (by omega) (by omega)
        omega
      · rw [hf]
        exact gcd_div_ok g.lead (Nat.le_of_lt (gb _ (g.mem (by omega)))) hB1
    · rw [hr, hany] at h
      cases h
    · rw [recGo, hr, if_pos hany]
      exact i2
theorem rec_main2 (hd : d ≤ size) (hs : size ≤ 4) (hvl : vs.length = 2 * size + 1) (ha : ∀ k, k < 2 * size + 1 → at0 vs k = a k) (hb1 : 1 ≤ b) (hb : Bd b vs) (hB : b ≤ 880)
    (H1 : ∀ i, i < size → a (d + i) = sm (fun j => c j * a (j + i)) d) (H2 : ∀ x : Nat → Int, (∀ i, i < size → sm (fun j => x j * a (j + i)) d = 0) → ∀ j, j < d → x j = 0) :
    RecOk size vs (size + 1) 0 [] ∧ recOf size vs = ((List.range d).map fun back => c (d - 1 - back)) ∧ ∀ j, j < d → (c j).natAbs < 2 ^ ((d + 1) * (b + 3)) :=
  rec_turns2 (c := c) hd hs hvl ha hb1 hb hB H1 H2 d 0 [] (by omega) (Nat.zero_le _) (fun k l h => by simp at h) rfl (fun k l h => by simp at h) (by simp [det])
end
end Fb
set_option Elab.async false
set_option linter.all false
set_option maxRecDepth 100000
set_option maxHeartbeats 2000000
/-! That there is a shortest recurrence of integers. -/
namespace Fb
open PySem L2 Dl
section
/-- all indices but p -/
def skip (p k : Nat) : Nat := if k < p then k else k + 1
theorem sm_skip (f : Nat → Int) (p : Nat) : ∀ m, p ≤ m → sm f (m + 1) = sm (fun k => f (skip p k)) m + f p
  | 0, h => by
    have : p = 0 := by omega
    subst this
    simp [sm]
  | m + 1, h => by
    by_cases hp : p = m + 1
    · subst hp
      rw [sm]
      congr 1
      exact sm_congr _ fun j hj => by rw [skip, if_pos hj]
    · rw [sm, sm_skip f p m (by omega), sm]
      have : skip p m = m + 1 := by rw [skip, if_neg (by omega)]
      rw [this]
      omega
/-- m + 1 vectors of m numbers depend on each other -/
theorem depend : ∀ (m : Nat) (w : Nat → Nat → Int), ∃ y : Nat → Int, (∃ k, k ≤ m ∧ y k ≠ 0) ∧ ∀ i, i < m → sm (fun k => y k * w k i) (m + 1) = 0
  | 0, w => ⟨fun _ => 1, ⟨0, Nat.le_refl _, by decide⟩, fun i hi => by omega⟩
  | m + 1, w => by
    by_cases h : ∃ p, p ≤ m + 1 ∧ w p m ≠ 0
    · obtain ⟨p, hp, hne⟩ := h
      obtain ⟨y, ⟨k, hk, hyk⟩, hy⟩ := depend m fun k i => w p m * w (skip p k) i - w (skip p k) m * w p i
      let z : Nat → Int := fun k => if k = p then - sm (fun k => y k * w (skip p k) m) (m + 1) else w p m * y (if k < p then k else k - 1)
      have zp : z p = - sm (fun k => y k * w (skip p k) m) (m + 1) := by show (if p = p then _ else _) = _; rw [if_pos rfl]
      have zs : ∀ k, z (skip p k) = w p m * y k := fun k => by
        show (if skip p k = p then _ else _) = _
        unfold skip
        by_cases hkp : k < p
        · rw [if_pos hkp, if_neg (by omega), if_pos hkp]
        · rw [if_neg hkp, if_neg (by omega), if_neg (by omega)]
          rfl
      refine ⟨z, ⟨skip p k, by unfold skip; split <;> omega, by rw [zs]; exact Int.mul_ne_zero hne hyk⟩, fun i hi => ?_⟩
      rw [sm_skip (fun k => z k * w k i) p (m + 1) hp]
      have e1 : sm (fun k => z (skip p k) * w (skip p k) i) (m + 1) = sm (fun k => y k * (w p m * w (skip p k) i - w (skip p k) m * w p i)) (m + 1) + w p i * sm (fun k => y k * w (skip p k) m) (m + 1) := by
        rw [← sm_mul, ← sm_add]
        refine sm_congr _ fun k hk => ?_
        rw [zs]
        grind
      rw [e1, zp]
      by_cases him : i = m
      · subst him
        have : sm (fun k => y k * (w p i * w (skip p k) i - w (skip p k) i * w p i)) (i + 1) = 0 := sm_zero _ fun k hk => by grind
        rw [this]
        grind
      · rw [hy i (by omega)]
        grind
    · obtain ⟨y, ⟨k, hk, hyk⟩, hy⟩ := depend m w
      refine ⟨fun k => if k ≤ m then y k else 0, ⟨k, by omega, by show (if k ≤ m then y k else 0) ≠ 0; rw [if_pos hk]; exact hyk⟩, fun i hi => ?_⟩
      rw [sm]
      have e0 : (if m + 1 ≤ m then y (m + 1) else 0) = 0 := if_neg (by omega)
      simp only [e0, Int.zero_mul, Int.add_zero]
      have e1 : sm (fun k => (if k ≤ m then y k else 0) * w k i) (m + 1) = sm (fun k => y k * w k i) (m + 1) := sm_congr _ fun k hk => by rw [if_pos (by omega)]
      rw [e1]
      by_cases him : i = m
      · subst him
        refine sm_zero _ fun k hk => ?_
        have : w k i = 0 := by
          by_cases hz : w k i = 0
          · exact hz
          · exact absurd ⟨k, by omega, hz⟩ h
        rw [this, Int.mul_zero]
      · exact hy i (by omega)
/-- the greatest index of what is not 0 -/
theorem last_ne {y : Nat → Int} : ∀ m, (∃ k, k ≤ m ∧ y k ≠ 0) → ∃ K, K ≤ m ∧ y K ≠ 0 ∧ ∀ k, K < k → k ≤ m → y k = 0
  | 0, ⟨k, hk, h⟩ => ⟨0, Nat.le_refl _, (show k = 0 by omega) ▸ h, fun k h1 h2 => by omega⟩
  | m + 1, ⟨k, hk, h⟩ => by
    by_cases hm : y (m + 1) = 0
    · obtain ⟨K, h1, h2, h3⟩ := last_ne m ⟨k, by
        by_cases e : k = m + 1
        · rw [e] at h
          exact absurd hm h
        · omega, h⟩
      refine ⟨K, by omega, h2, fun k h4 h5 => ?_⟩
      by_cases e : k = m + 1
      · rw [e]; exact hm
      · exact h3 k h4 (by omega)
    · exact ⟨m + 1, Nat.le_refl _, hm, fun k h1 h2 => by omega⟩
theorem sm_cut {f : Nat → Int} {K m : Nat} (h : K ≤ m) (hz : ∀ k, K < k → k ≤ m → f k = 0) : sm f (m + 1) = sm f (K + 1) := by
  have := sm_ext (f := f) (m := K + 1) (p := m - K) fun j h1 h2 => hz j (by omega) (by omega)
  rw [show K + 1 + (m - K) = m + 1 by omega] at this
  exact this
/-- a relation with a last share that is not 0, over all places -/
def Rel (a : Nat → Int) (d : Nat) (y : Nat → Int) : Prop := y d ≠ 0 ∧ ∀ i, sm (fun k => y k * a (k + i)) (d + 1) = 0
/-- what is 0 at the first places is so at all -/
theorem zero_on {z : Nat → Int} {K : Nat} {Y : Nat → Int} (h : Rel z K Y) (h0 : ∀ i, i < K → z i = 0) : ∀ i, z i = 0 := fun i => by
  induction i using Nat.strongRecOn with
  | _ i ih =>
    by_cases hi : i < K
    · exact h0 i hi
    · have h1 := h.2 (i - K)
      rw [sm, show K + (i - K) = i by omega, sm_zero K fun j hj => by rw [ih (j + (i - K)) (by omega), Int.mul_zero], Int.zero_add] at h1
      exact (Int.mul_eq_zero.mp h1).resolve_left h.1
/-- sums of shifts keep a relation -/
theorem rel_sum {a : Nat → Int} {K n : Nat} {Y x : Nat → Int} (h : Rel a K Y) : Rel (fun i => sm (fun k => x k * a (k + i)) n) K Y := ⟨h.1, fun i => by
  have e : sm (fun k => Y k * sm (fun j => x j * a (j + (k + i))) n) (K + 1) = sm (fun j => x j * sm (fun k => Y k * a (k + (j + i))) (K + 1)) n := by
    have e1 : sm (fun k => Y k * sm (fun j => x j * a (j + (k + i))) n) (K + 1) = sm (fun k => sm (fun j => Y k * (x j * a (j + (k + i)))) n) (K + 1) := sm_congr _ fun k hk => (sm_mul n).symm
    rw [e1, sm_comm]
    refine sm_congr _ fun j hj => ?_
    rw [← sm_mul]
    refine sm_congr _ fun k hk => ?_
    rw [show j + (k + i) = k + (j + i) by omega]
    grind
  rw [e]
  exact sm_zero n fun j hj => by rw [h.2, Int.mul_zero]⟩
/-- a prime that divides -/
theorem prime_dvd : ∀ n : Nat, 2 ≤ n → ∃ q : Nat, 2 ≤ q ∧ q ∣ n ∧ ∀ x y : Nat, q ∣ x * y → q ∣ x ∨ q ∣ y := by
  intro n hn
  have ex : ∃ q, 2 ≤ q ∧ q ∣ n := ⟨n, hn, Nat.dvd_refl n⟩
  -- the least one
  have least : ∀ m, (∃ q, q ≤ m ∧ 2 ≤ q ∧ q ∣ n) → ∃ q, 2 ≤ q ∧ q ∣ n ∧ ∀ p, 2 ≤ p → p ∣ n → q ≤ p := by
    intro m
    induction m with
    | zero => rintro ⟨q, h1, h2, _⟩; omega
    | succ m ih =>
      rintro ⟨q, h1, h2, h3⟩
      by_cases h : ∃ q, q ≤ m ∧ 2 ≤ q ∧ q ∣ n
      · exact ih h
      · refine ⟨q, h2, h3, fun p p1 p2 => ?_⟩
        by_cases hp : p ≤ m
        · exact absurd ⟨p, hp, p1, p2⟩ h
        · omega
  obtain ⟨q, q2, qn, qm⟩ := least n ⟨n, Nat.le_refl n, hn, Nat.dvd_refl n⟩
  refine ⟨q, q2, qn, fun x y hxy => ?_⟩
  by_cases hx : q ∣ x
  · exact .inl hx
  · right
    have hg : Nat.gcd q x ∣ q := Nat.gcd_dvd_left q x
    have h1 : Nat.gcd q x = 1 := by
      by_cases h2 : 2 ≤ Nat.gcd q x
      · have := qm _ h2 (Nat.dvd_trans hg qn)
        have h3 := Nat.le_of_dvd (by omega) hg
        have : Nat.gcd q x = q := by omega
        exact absurd (this ▸ Nat.gcd_dvd_right q x) hx
      · have : 0 < Nat.gcd q x := Nat.gcd_pos_of_pos_left x (by omega)
        omega
    exact (Nat.Coprime.dvd_of_dvd_mul_left h1 hxy)
theorem dvd_sm {q : Int} {f : Nat → Int} : ∀ m, (∀ j, j < m → q ∣ f j) → q ∣ sm f m
  | 0, _ => ⟨0, by simp [sm]⟩
  | m + 1, h => by
    rw [sm]
    exact Int.dvd_add (dvd_sm m fun j hj => h j (by omega)) (h m (by omega))
theorem sm_pick {f : Nat → Int} {p m : Nat} {q : Int} (hp : p < m) (h : q ∣ sm f m) (hz : ∀ j, j < m → j ≠ p → q ∣ f j) : q ∣ f p := by
  induction m with
  | zero => omega
  | succ m ih =>
    rw [sm] at h
    by_cases e : p = m
    · subst e
      exact (Int.dvd_add_right (dvd_sm p fun j hj => hz j (by omega) (by omega))).mp h
    · exact ih (by omega) ((Int.dvd_add_left (hz m (by omega) (Ne.symm e))).mp h) fun j hj hne => hz j (by omega) hne
end
end Fb
set_option Elab.async false
set_option linter.all false
set_option maxRecDepth 100000
set_option maxHeartbeats 2000000
namespace Fb
open PySem L2 Dl
section
/-- y has no common divisor -/
def Prim (d : Nat) (y : Nat → Int) : Prop := ∀ q : Nat, 2 ≤ q → ∃ j, j ≤ d ∧ ¬ (q : Int) ∣ y j
theorem prim_of {a : Nat → Int} {d : Nat} {y : Nat → Int} (h : Rel a d y) : ∃ z, Rel a d z ∧ Prim d z := by
  -- the least size of the last share
  have main : ∀ n (y : Nat → Int), (y d).natAbs = n → Rel a d y → ∃ z, Rel a d z ∧ Prim d z := by
    intro n
    induction n using Nat.strongRecOn with
    | _ n ih =>
      intro y hn hy
      by_cases hp : Prim d y
      · exact ⟨y, hy, hp⟩
      · have hp : ∃ q : Nat, 2 ≤ q ∧ ∀ j, j ≤ d → (q : Int) ∣ y j := by
          refine Classical.byContradiction fun hc => hp fun q hq => Classical.byContradiction fun h2 => hc ⟨q, hq, fun j hj => Classical.byContradiction fun h3 => h2 ⟨j, hj, h3⟩⟩
        obtain ⟨q, q2, hd⟩ := hp
        have ex : ∀ j, j ≤ d → y j = q * (y j / q) := fun j hj => (Int.mul_ediv_cancel' (hd j hj)).symm
        have hq0 : (q : Int) ≠ 0 := by omega
        refine ih ((y d / q).natAbs) ?_ (fun j => y j / q) rfl ⟨fun z => hy.1 (by
          have z : y d / q = 0 := z
          rw [ex d (Nat.le_refl _), z]
          simp), fun i => ?_⟩
        · have e := ex d (Nat.le_refl _)
          have h0 : (y d / q).natAbs ≠ 0 := fun z => hy.1 (by rw [e, Int.natAbs_eq_zero.mp z]; simp)
          have : (y d).natAbs = q * (y d / q).natAbs := by
            conv => lhs; rw [e]
            rw [Int.natAbs_mul, Int.natAbs_natCast]
          have h1 : 2 * (y d / q).natAbs ≤ q * (y d / q).natAbs := Nat.mul_le_mul_right _ q2
          omega
        · refine Int.eq_of_mul_eq_mul_left hq0 ?_
          rw [← sm_mul, Int.mul_zero, ← hy.2 i]
          refine sm_congr _ fun k hk => ?_
          show (q : Int) * (y k / q * a (k + i)) = y k * a (k + i)
          rw [← Int.mul_assoc, ← ex k (by omega)]
  exact main _ y rfl h
/-- the last share of a primitive shortest relation is 1 or -1 (Fatou) -/
theorem last_unit {a : Nat → Int} {d : Nat} {y : Nat → Int} (hd : 1 ≤ d) (h : Rel a d y) (hp : Prim d y) (H2 : ∀ x : Nat → Int, (∀ i, i < d → sm (fun j => x j * a (j + i)) d = 0) → ∀ j, j < d → x j = 0) : (y d).natAbs = 1 := by
  -- a sum of shifts that begins with 0 .. 0 m
  obtain ⟨Y, ⟨k, hk, hYk⟩, hY⟩ := depend d fun k i => if k < d then a (k + i) else if i = d - 1 then 1 else 0
  have hs : ∀ i, i < d → sm (fun k => Y k * a (k + i)) d + Y d * (if i = d - 1 then 1 else 0) = 0 := fun i hi => by
    have h1 := hY i hi
    rw [sm] at h1
    have e1 : sm (fun k => Y k * (if k < d then a (k + i) else if i = d - 1 then 1 else 0)) d = sm (fun k => Y k * a (k + i)) d := sm_congr _ fun k hk => by rw [if_pos hk]
    rw [e1, if_neg (Nat.lt_irrefl d)] at h1
    exact h1
  have hYd : Y d ≠ 0 := fun z => by
    have h0 := H2 Y fun i hi => by
      have := hs i hi
      rw [z, Int.zero_mul, Int.add_zero] at this
      exact this
    rcases Nat.lt_or_ge k d with h1 | h1
    · exact hYk (h0 k h1)
    · have : k = d := by omega
      rw [this] at hYk
      exact hYk z
  generalize hm : - Y d = m
  have hm0 : m ≠ 0 := by omega
  let b : Nat → Int := fun i => sm (fun k => Y k * a (k + i)) d
  have hb : Rel b d y := rel_sum h
  have b0 : ∀ i, i < d - 1 → b i = 0 := fun i hi => by
    have := hs i (by omega)
    rw [if_neg (by omega), Int.mul_zero, Int.add_zero] at this
    exact this
  have bm : b (d - 1) = m := by
    have := hs (d - 1) (by omega)
    rw [if_pos rfl, Int.mul_one] at this
    show sm _ d = m
    omega
  -- were a prime to divide it
  refine Classical.byContradiction fun hne => ?_
  have hy2 : 2 ≤ (y d).natAbs := by
    have := h.1
    omega
  obtain ⟨q, q2, qd, qp⟩ := prime_dvd _ hy2
  have qd' : (q : Int) ∣ y d := Int.natAbs_dvd_natAbs.mp (by rw [Int.natAbs_natCast]; exact qd)
  have qpI : ∀ u v : Int, (q : Int) ∣ u * v → (q : Int) ∣ u ∨ (q : Int) ∣ v := fun u v huv => by
    have h1 := Int.natAbs_dvd_natAbs.mpr huv
    rw [Int.natAbs_mul, Int.natAbs_natCast] at h1
    rcases qp _ _ h1 with h2 | h2
    · exact .inl (Int.natAbs_dvd_natAbs.mp (by rw [Int.natAbs_natCast]; exact h2))
    · exact .inr (Int.natAbs_dvd_natAbs.mp (by rw [Int.natAbs_natCast]; exact h2))
  -- the last share that q does not divide
  obtain ⟨j0, hj0, hn0, hl0⟩ : ∃ j0, j0 ≤ d ∧ ¬ (q : Int) ∣ y j0 ∧ ∀ j, j0 < j → j ≤ d → (q : Int) ∣ y j := by
    obtain ⟨K, h1, h2, h3⟩ := last_ne (y := fun j => y j % q) d (by
      obtain ⟨j, h1, h2⟩ := hp q q2
      exact ⟨j, h1, fun z => h2 (Int.dvd_of_emod_eq_zero z)⟩)
    exact ⟨K, h1, fun z => h2 (Int.emod_eq_zero_of_dvd z), fun j h4 h5 => Int.dvd_of_emod_eq_zero (h3 j h4 h5)⟩
  -- then every power of q divides all that comes
  have all : ∀ e : Nat, ∀ i, ((q : Int) ^ e) ∣ b i := by
    intro e
    induction e with
    | zero => exact fun i => by simp
    | succ e ih =>
      have hqe : ((q : Int) ^ e) ≠ 0 := Int.pow_ne_zero (by omega)
      have ex : ∀ i, b i = (q : Int) ^ e * (b i / (q : Int) ^ e) := fun i => (Int.mul_ediv_cancel' (ih i)).symm
      have relg : ∀ i, sm (fun k => y k * (b (k + i) / (q : Int) ^ e)) (d + 1) = 0 := fun i => by
        refine Int.eq_of_mul_eq_mul_left hqe ?_
        rw [← sm_mul, Int.mul_zero, ← hb.2 i]
        refine sm_congr _ fun k hk => ?_
        rw [ex (k + i)]
        rw [Int.mul_ediv_cancel_left _ hqe]
        grind
      have g0 : ∀ i, i < d - 1 → b i / (q : Int) ^ e = 0 := fun i hi => by rw [b0 i hi]; simp
      have gq : ∀ w, (q : Int) ∣ b w / (q : Int) ^ e := by
        intro w
        induction w using Nat.strongRecOn with
        | _ w iw =>
          by_cases hw : w < d - 1
          · rw [g0 w hw]
            exact ⟨0, by simp⟩
          · -- the relation in which j0 meets w
            by_cases hw0 : j0 ≤ w
            · have hr := relg (w - j0)
              have hpk := sm_pick (q := (q : Int)) (p := j0) (m := d + 1) (f := fun k => y k * (b (k + (w - j0)) / (q : Int) ^ e)) (by omega) (by rw [hr]; exact ⟨0, by simp⟩) fun j hj hne => by
                by_cases h1 : j < j0
                · obtain ⟨c, hc⟩ := iw (j + (w - j0)) (by omega)
                  exact ⟨y j * c, by rw [hc]; grind⟩
                · obtain ⟨c, hc⟩ := hl0 j (by omega) (by omega)
                  exact ⟨c * (b (j + (w - j0)) / (q : Int) ^ e), by rw [hc]; grind⟩
              rw [show j0 + (w - j0) = w by omega] at hpk
              exact (qpI _ _ hpk).resolve_left hn0
            · -- w < j0 <= d: so j0 = d, which q divides
              have : j0 = d := by omega
              rw [this] at hn0
              exact absurd qd' hn0
      intro i
      obtain ⟨c, hc⟩ := gq i
      exact ⟨c, by rw [ex i, hc, Int.pow_succ]; grind⟩
  -- but m is not 0
  have hbig : ∀ e : Nat, e < q ^ e := fun e => by
    induction e with
    | zero => simp
    | succ e ih =>
      rw [Nat.pow_succ]
      have := Nat.mul_le_mul_left (q ^ e) q2
      omega
  have hdm := all m.natAbs (d - 1)
  rw [bm] at hdm
  have h1 := Int.natAbs_dvd_natAbs.mpr hdm
  rw [Int.natAbs_pow, Int.natAbs_natCast] at h1
  have h2 := Nat.le_of_dvd (by omega) h1
  have h3 := hbig m.natAbs
  omega
/-- a sequence with a relation of size at most size has a shortest recurrence of integers -/
theorem rec_exists {a : Nat → Int} {size K : Nat} {Y : Nat → Int} (hK : K ≤ size) (h : Rel a K Y) : ∃ (d : Nat) (c : Nat → Int), d ≤ size ∧ (∀ i, a (d + i) = sm (fun j => c j * a (j + i)) d) ∧
    ∀ x : Nat → Int, (∀ i, i < size → sm (fun j => x j * a (j + i)) d = 0) → ∀ j, j < d → x j = 0 := by
  -- the least number of shares
  have least : ∀ m, (∃ d, d ≤ m ∧ ∃ y, Rel a d y) → ∃ d, d ≤ m ∧ (∃ y, Rel a d y) ∧ ∀ e, (∃ y, Rel a e y) → d ≤ e := by
    intro m
    induction m with
    | zero => rintro ⟨d, h1, h2⟩; exact ⟨d, h1, h2, fun e _ => by omega⟩
    | succ m ih =>
      rintro ⟨d, h1, h2⟩
      by_cases h : ∃ d, d ≤ m ∧ ∃ y, Rel a d y
      · obtain ⟨d, i1, i2, i3⟩ := ih h
        exact ⟨d, by omega, i2, i3⟩
      · refine ⟨d, h1, h2, fun e he => ?_⟩
        by_cases hem : e ≤ m
        · exact absurd ⟨e, hem, he⟩ h
        · omega
  obtain ⟨d, hdK, ⟨y0, hy0⟩, hmin⟩ := least K ⟨K, Nat.le_refl _, Y, h⟩
  obtain ⟨y, hy, hpr⟩ := prim_of hy0
  have H2 : ∀ s, K ≤ s ∨ d ≤ s → ∀ x : Nat → Int, (∀ i, i < s → sm (fun j => x j * a (j + i)) d = 0) → ∀ j, j < d → x j = 0 := fun s hs x hx j hj => by
    refine Classical.byContradiction fun hne => ?_
    obtain ⟨J, J1, J2, J3⟩ := last_ne (y := x) (d - 1) ⟨j, by omega, hne⟩
    have cut : ∀ i, sm (fun j => x j * a (j + i)) d = sm (fun j => x j * a (j + i)) (J + 1) := fun i => by
      have := sm_cut (f := fun j => x j * a (j + i)) J1 fun k h1 h2 => by rw [J3 k h1 h2, Int.zero_mul]
      rw [show d - 1 + 1 = d by omega] at this
      exact this
    have all : ∀ i, sm (fun j => x j * a (j + i)) d = 0 := by
      rcases hs with hs | hs
      · exact zero_on (z := fun i => sm (fun j => x j * a (j + i)) d) (rel_sum h) fun i hi => hx i (by omega)
      · exact zero_on (z := fun i => sm (fun j => x j * a (j + i)) d) (rel_sum hy) fun i hi => hx i (by omega)
    have := hmin J ⟨x, J2, fun i => by rw [← cut i]; exact all i⟩
    omega
  by_cases hd0 : d = 0
  · subst hd0
    refine ⟨0, fun _ => 0, Nat.zero_le _, fun i => ?_, fun x _ j hj => by omega⟩
    have := hy.2 i
    simp only [sm, Int.zero_add] at this
    rw [sm]
    exact (Int.mul_eq_zero.mp this).resolve_left hy.1
  · have hu := last_unit (by omega) hy hpr (H2 d (.inr (Nat.le_refl _)))
    have hyy : y d * y d = 1 := by
      rcases Int.natAbs_eq (y d) with e | e <;> rw [e, hu] <;> rfl
    refine ⟨d, fun j => - (y d * y j), by omega, fun i => ?_, H2 size (.inl hK)⟩
    have hr := hy.2 i
    rw [sm] at hr
    have e : sm (fun j => -(y d * y j) * a (j + i)) d = - y d * sm (fun k => y k * a (k + i)) d := by
      rw [← sm_mul]
      refine sm_congr _ fun k hk => ?_
      grind
    rw [e]
    grind
end
end Fb
set_option Elab.async false
set_option linter.all false
set_option maxRecDepth 100000
set_option maxHeartbeats 2000000
/-! Remainders far away are those of the values. -/
namespace Fb
open PySem L2 Dl
/-- alike but for multiples of q -/
def Eqm (q : Int) (x y : Int) : Prop := x % q = y % q
def EqmL (q : Int) : List Int → List Int → Prop
  | [], [] => True
  | x :: xs, y :: ys => x % q = y % q ∧ EqmL q xs ys
  | _, _ => False
theorem EqmL.refl (q : Int) : ∀ xs : List Int, EqmL q xs xs
  | [] => trivial
  | _ :: xs => ⟨rfl, EqmL.refl q xs⟩
theorem EqmL.symm {q : Int} : ∀ {xs ys : List Int}, EqmL q xs ys → EqmL q ys xs
  | [], [], _ => trivial
  | [], _ :: _, h => h.elim
  | _ :: _, [], h => h.elim
  | _ :: _, _ :: _, h => ⟨h.1.symm, EqmL.symm h.2⟩
theorem EqmL.trans {q : Int} : ∀ {xs ys zs : List Int}, EqmL q xs ys → EqmL q ys zs → EqmL q xs zs
  | [], [], _, _, h => h
  | [], _ :: _, _, h, _ => h.elim
  | _ :: _, [], _, h, _ => h.elim
  | _ :: _, _ :: _, [], _, h => h.elim
  | _ :: _, _ :: _, _ :: _, h, g => ⟨h.1.trans g.1, EqmL.trans h.2 g.2⟩
theorem EqmL.len {q : Int} : ∀ {xs ys : List Int}, EqmL q xs ys → xs.length = ys.length
  | [], [], _ => rfl
  | [], _ :: _, h => h.elim
  | _ :: _, [], h => h.elim
  | _ :: _, _ :: _, h => by simp [EqmL.len h.2]
theorem eqml_mod {q : Int} (hq : 1 ≤ q) : ∀ xs : List Int, EqmL q (xs.map (·.fmod q)) xs
  | [] => trivial
  | x :: xs => ⟨by
    show x.fmod q % q = x % q
    rw [Int.fmod_eq_emod_of_nonneg x (by omega), Int.emod_emod], eqml_mod hq xs⟩
theorem dot_cons (x y : Int) (xs ys : List Int) : dot (x :: xs) (y :: ys) = x * y + dot xs ys := by
  rw [dot, List.zipWith_cons_cons, List.sum_cons]
  rfl
theorem dot_nil (ys : List Int) : dot [] ys = 0 := by rw [dot, List.zipWith_nil_left]; rfl
theorem dot_nil' (xs : List Int) : dot xs [] = 0 := by rw [dot, List.zipWith_nil_right]; rfl
theorem add_m {q a b c d : Int} (h1 : a % q = b % q) (h2 : c % q = d % q) : (a + c) % q = (b + d) % q := by
  rw [Int.add_emod, h1, h2, ← Int.add_emod]
theorem mul_m {q a b c d : Int} (h1 : a % q = b % q) (h2 : c % q = d % q) : (a * c) % q = (b * d) % q := by
  rw [Int.mul_emod, h1, h2, ← Int.mul_emod]
theorem dot_m {q : Int} : ∀ {xs ys us vs : List Int}, EqmL q xs ys → EqmL q us vs → dot xs us % q = dot ys vs % q
  | [], [], us, vs, _, _ => by rw [dot_nil, dot_nil]
  | [], _ :: _, _, _, h, _ => h.elim
  | _ :: _, [], _, _, h, _ => h.elim
  | x :: xs, y :: ys, [], [], _, _ => by rw [dot_nil', dot_nil']
  | x :: xs, y :: ys, [], _ :: _, _, h => h.elim
  | x :: xs, y :: ys, _ :: _, [], _, h => h.elim
  | x :: xs, y :: ys, u :: us, v :: vs, h, g => by
    rw [dot_cons, dot_cons]
    exact add_m (mul_m h.1 g.1) (dot_m h.2 g.2)
theorem eqml_map {α : Type} {q : Int} {f g : α → Int} : ∀ {xs : List α}, (∀ x ∈ xs, f x % q = g x % q) → EqmL q (xs.map f) (xs.map g)
  | [], _ => trivial
  | x :: xs, h => ⟨h x List.mem_cons_self, eqml_map fun y hy => h y (List.mem_cons_of_mem _ hy)⟩
/-- a matrix times a column -/
def mulV (m : List (List Int)) (c : List Int) : List Int := m.map fun l => dot l c
theorem mulV_m {q : Int} {m : List (List Int)} {c d : List Int} (h : EqmL q c d) : EqmL q (mulV m c) (mulV m d) := eqml_map fun l _ => dot_m (EqmL.refl q l) h
/-- sums of lists, number by number -/
theorem dot_addl : ∀ {n : Nat} {xs ys cs : List Int}, xs.length = n → ys.length = n → cs.length = n → dot (List.zipWith (· + ·) xs ys) cs = dot xs cs + dot ys cs
  | 0, xs, ys, cs, h1, h2, h3 => by
    rw [List.eq_nil_of_length_eq_zero h1, List.eq_nil_of_length_eq_zero h2]
    simp [dot_nil]
  | n + 1, x :: xs, y :: ys, c :: cs, h1, h2, h3 => by
    rw [List.zipWith_cons_cons, dot_cons, dot_cons, dot_cons, dot_addl (n := n) (by simpa using h1) (by simpa using h2) (by simpa using h3)]
    grind
  | n + 1, [], _, _, h1, _, _ => by simp at h1
  | n + 1, _ :: _, [], _, _, h2, _ => by simp at h2
  | n + 1, _ :: _, _ :: _, [], _, _, h3 => by simp at h3
theorem dot_mull (k : Int) : ∀ (xs cs : List Int), dot (xs.map (k * ·)) cs = k * dot xs cs
  | [], cs => by simp [dot_nil]
  | x :: xs, [] => by simp [dot_nil']
  | x :: xs, c :: cs => by
    rw [List.map_cons, dot_cons, dot_cons, dot_mull k xs cs]
    grind
/-- a row times a matrix: by columns -/
def rowM (n : Nat) (l : List Int) (b : List (List Int)) : List Int := (transp n b).map fun c => dot l c
theorem rowM_nil {n : Nat} {b : List (List Int)} : rowM n [] b = List.replicate n 0 := by
  rw [rowM, transp, List.map_map]
  refine List.ext_getElem (by simp) fun i h1 h2 => ?_
  simp [dot_nil]
theorem rowM_nil' {n : Nat} {l : List Int} : rowM n l [] = List.replicate n 0 := by
  rw [rowM, transp, List.map_map]
  refine List.ext_getElem (by simp) fun i h1 h2 => ?_
  simp [dot_nil']
theorem rowM_cons {n : Nat} {x : Int} {l r : List Int} {b : List (List Int)} (hr : r.length = n) : rowM n (x :: l) (r :: b) = List.zipWith (· + ·) (r.map (x * ·)) (rowM n l b) := by
  refine List.ext_getElem (by simp [rowM, transp, hr]) fun i h1 h2 => ?_
  have hi : i < r.length := by simpa [rowM, transp, hr] using h1
  simp [rowM, transp, dot_cons, List.getElem?_eq_getElem hi]
theorem dot_zero : ∀ (n : Nat) (c : List Int), dot (List.replicate n 0) c = 0
  | 0, c => dot_nil c
  | n + 1, [] => dot_nil' _
  | n + 1, x :: c => by
    rw [List.replicate_succ, dot_cons, dot_zero n c]
    simp
theorem rowM_dot {n : Nat} : ∀ {l : List Int} {b : List (List Int)} {c : List Int}, (∀ r ∈ b, r.length = n) → c.length = n → dot (rowM n l b) c = dot l (mulV b c)
  | [], b, c, _, _ => by rw [rowM_nil, dot_zero, dot_nil]
  | x :: l, [], c, _, _ => by rw [rowM_nil', dot_zero]; exact (dot_nil' _).symm
  | x :: l, r :: b, c, h, hc => by
    have hr := h r List.mem_cons_self
    rw [rowM_cons hr, dot_addl (n := n) (by rw [List.length_map, hr]) (by simp [rowM, transp]) hc, dot_mull, rowM_dot (fun r' h' => h r' (List.mem_cons_of_mem _ h')) hc]
    show _ = dot (x :: l) (dot r c :: mulV b c)
    rw [dot_cons]
theorem chain_m {n : Nat} {q : Int} (hq : 1 ≤ q) {a b : List (List Int)} {c : List Int} (hb : ∀ r ∈ b, r.length = n) (hc : c.length = n) : EqmL q (mulV (chain n a b q) c) (mulV a (mulV b c)) := by
  rw [mulV, chain, List.map_map]
  refine eqml_map fun l _ => ?_
  show dot ((transp n b).map fun c => (dot l c).fmod q) c % q = _
  rw [← rowM_dot hb hc]
  refine dot_m ?_ (EqmL.refl q c)
  have : ((transp n b).map fun c => (dot l c).fmod q) = ((transp n b).map fun c => dot l c).map (·.fmod q) := by rw [List.map_map]; rfl
  rw [this]
  exact eqml_mod hq _
theorem applyM_m {q : Int} (hq : 1 ≤ q) (m : List (List Int)) (c : List Int) : EqmL q (applyM m c q) (mulV m c) := by
  have : applyM m c q = (mulV m c).map (·.fmod q) := by rw [mulV, List.map_map]; rfl
  rw [this]
  exact eqml_mod hq _
def iter {α : Type} (f : α → α) : Nat → α → α
  | 0, x => x
  | t + 1, x => f (iter f t x)
theorem iter_in {α : Type} (f : α → α) : ∀ t x, iter f (t + 1) x = iter f t (f x)
  | 0, _ => rfl
  | t + 1, x => congrArg f (iter_in f t x)
theorem iter_two {α : Type} (f : α → α) : ∀ t x, iter (fun y => f (f y)) t x = iter f (2 * t) x
  | 0, _ => rfl
  | t + 1, x => by
    show f (f (iter (fun y => f (f y)) t x)) = _
    rw [iter_two f t x]
    rfl
/-- square, of rows of the right length -/
structure SqM (n : Nat) (m : List (List Int)) : Prop where
  len : m.length = n
  row : ∀ l ∈ m, l.length = n
theorem SqM.chain {n : Nat} {q : Int} {a b : List (List Int)} (ha : SqM n a) : SqM n (chain n a b q) := ⟨by rw [Fb.chain, List.length_map, ha.len], fun l hl => by
  obtain ⟨r, _, rfl⟩ := List.mem_map.mp hl
  simp [transp]⟩
theorem SqM.mulV {n : Nat} {m : List (List Int)} (h : SqM n m) (c : List Int) : (mulV m c).length = n := by rw [Fb.mulV, List.length_map, h.len]
theorem iter_m {n : Nat} {q : Int} {f g : List Int → List Int} (hfl : ∀ c, c.length = n → (f c).length = n) (hgl : ∀ c, c.length = n → (g c).length = n) (hfg : ∀ c, c.length = n → EqmL q (f c) (g c)) (hg : ∀ c d, EqmL q c d → EqmL q (g c) (g d)) {c d : List Int} (hc : c.length = n) (h : EqmL q c d) : ∀ t, (iter f t c).length = n ∧ EqmL q (iter f t c) (iter g t d)
  | 0 => ⟨hc, h⟩
  | t + 1 => by
    obtain ⟨h1, h2⟩ := iter_m hfl hgl hfg hg hc h t
    exact ⟨hfl _ h1, (hfg _ h1).trans (hg _ _ h2)⟩
theorem farGo_m {n : Nat} {q : Int} (hq : 1 ≤ q) : ∀ (left : Nat) (m : List (List Int)) (c : List Int), SqM n m → c.length = n → EqmL q (farGo n q left m c) (iter (mulV m) left c) := by
  intro left
  induction left using Nat.strongRecOn with
  | _ left ih =>
    intro m c hm hc
    by_cases h0 : left = 0
    · subst h0
      rw [farGo_zero]
      exact EqmL.refl q c
    · rw [farGo_pos (by omega)]
      have hm2 : SqM n (chain n m m q) := hm.chain
      have two : ∀ d e : List Int, d.length = n → EqmL q d e → EqmL q (iter (mulV (chain n m m q)) (left / 2) d) (iter (fun y => mulV m (mulV m y)) (left / 2) e) := fun d e hd h =>
        (iter_m (g := fun y => mulV m (mulV m y)) (fun c _ => hm2.mulV c) (fun c _ => hm.mulV _) (fun c hc => chain_m hq hm.row hc) (fun c d h => mulV_m (mulV_m h)) hd h (left / 2)).2
      by_cases h1 : left % 2 = 1
      · rw [if_pos h1]
        have hl : (applyM m c q).length = n := by rw [applyM, List.length_map, hm.len]
        refine (ih (left / 2) (by omega) _ _ hm2 hl).trans ?_
        refine (two _ _ hl (applyM_m hq m c)).trans ?_
        rw [iter_two, ← iter_in, show 2 * (left / 2) + 1 = left by omega]
        exact EqmL.refl q _
      · rw [if_neg h1]
        refine (ih (left / 2) (by omega) _ _ hm2 hc).trans ?_
        refine (two _ _ hc (EqmL.refl q c)).trans ?_
        rw [iter_two, show 2 * (left / 2) = left by omega]
        exact EqmL.refl q _
theorem block_m {n : Nat} {q : Int} (hq : 1 ≤ q) {S : Sys} : ∀ (fs : List Nat) (m : List (List Int)), SqM n m → (∀ f ∈ fs, SqM n (S.mats.getD f [])) →
    SqM n (fs.foldl (fun m f => chain n (S.mats.getD f []) m q) m) ∧ ∀ c : List Int, c.length = n → EqmL q (mulV (fs.foldl (fun m f => chain n (S.mats.getD f []) m q) m) c) (fs.foldl S.fol (mulV m c))
  | [], m, hm, _ => ⟨hm, fun c _ => EqmL.refl q _⟩
  | f :: fs, m, hm, h => by
    have hf := h f List.mem_cons_self
    have hc2 : SqM n (chain n (S.mats.getD f []) m q) := hf.chain
    obtain ⟨h1, h2⟩ := block_m hq fs _ hc2 fun g hg => h g (List.mem_cons_of_mem _ hg)
    refine ⟨h1, fun c hc => ?_⟩
    refine (h2 c hc).trans ?_
    have e : EqmL q (mulV (chain n (S.mats.getD f []) m q) c) (S.fol (mulV m c) f) := chain_m hq hm.row hc
    have fold : ∀ (gs : List Nat) (x y : List Int), EqmL q x y → EqmL q (gs.foldl S.fol x) (gs.foldl S.fol y) := by
      intro gs
      induction gs with
      | nil => exact fun x y h => h
      | cons g gs ihg => exact fun x y h => ihg _ _ (mulV_m h)
    exact fold fs _ _ e
theorem fol_len {n : Nat} {S : Sys} {f : Nat} (h : SqM n (S.mats.getD f [])) (c : List Int) : (S.fol c f).length = n := h.mulV c
theorem behind_len {n : Nat} {S : Sys} : ∀ {bl : List Nat} {c : List Int}, (∀ f ∈ bl, SqM n (S.mats.getD f [])) → c.length = n → (S.behind c bl).length = n
  | [], c, _, hc => hc
  | f :: bl, c, h, hc => behind_len (bl := bl) (fun g hg => h g (List.mem_cons_of_mem _ hg)) (fol_len (h f List.mem_cons_self) c)
theorem rep_iter {S : Sys} {bl : List Nat} (c : List Int) : ∀ t, S.rep bl t c = iter (fun c => S.behind c bl) t c
  | 0 => by rw [Sys.rep]; rfl
  | t + 1 => by rw [Sys.rep, rep_iter c t]; rfl
theorem far_eq {n head t : Nat} {q : Int} {S : Sys} {bl : List Nat} (hq : 1 ≤ q) (hne : bl ≠ []) (hb : ∀ f ∈ bl, SqM n (S.mats.getD f [])) (hc : (S.col head).length = n) : farOf S n head bl t q = (dot S.factors (S.rep bl t (S.col head))).fmod q := by
  cases bl with
  | nil => exact absurd rfl hne
  | cons f fs =>
    have hf := hb f List.mem_cons_self
    obtain ⟨b1, b2⟩ := block_m (q := q) hq fs _ hf fun g hg => hb g (List.mem_cons_of_mem _ hg)
    rw [farOf, Int.fmod_eq_emod_of_nonneg _ (by omega), Int.fmod_eq_emod_of_nonneg _ (by omega)]
    refine dot_m (EqmL.refl q _) ?_
    have hcm : ((S.col head).map (·.fmod q)).length = n := by rw [List.length_map, hc]
    refine (farGo_m hq t _ _ (show SqM n (blockM S n q (f :: fs)) from b1) hcm).trans ?_
    rw [rep_iter]
    refine (iter_m (g := fun c => S.behind c (f :: fs)) (fun c _ => b1.mulV c) (fun c h => behind_len hb h) (fun c h => b2 c h) (fun c d h => ?_) hcm (eqml_mod hq _) t).2
    have fold : ∀ (gs : List Nat) (x y : List Int), EqmL q x y → EqmL q (gs.foldl S.fol x) (gs.foldl S.fol y) := by
      intro gs
      induction gs with
      | nil => exact fun x y h => h
      | cons g gs ihg => exact fun x y h => ihg _ _ (mulV_m h)
    exact fold _ _ _ h
end Fb
set_option Elab.async false
set_option linter.all false
set_option maxRecDepth 100000
set_option maxHeartbeats 2000000
/-! The laws' own value at a far place. -/
namespace Fb
open PySem L2 Dl
def nKeys (rows : List NR) : List Key := rows.map fun r => Sum.inr r.name
/-- what is wanted, one figure further -/
def rowV (rows : List NR) (w : List Int) (r : Nat) : List Int := rowM rows.length w (matOf rows r)
def farVal (b : Nat) (rows : List NR) (sh : List Int) (spot : Nat) : Int := dot ((figR b spot).foldl (rowV rows) sh) (rows.map NR.start)
def cLFar : Ct := fun args M P => ∃ (b : Nat) (rows : List NR) (sh : List Int) (spot many : Nat), args = [.dat (dKind b rows), .dat (dI sh), .dat (.int (spot : Nat))] ∧ M = [] ∧ KindOk b rows many ∧ many ≤ 26 ∧ sh.length = rows.length ∧ Bd 7 sh ∧ (figR b spot).length ≤ 1000 ∧ P false (.int (farVal b rows sh spot)) []
/-- one term more: x times as often -/
def addT (ns : List Str) (x : Int) (fw : List Int) (t : Int × Str) : List Int := fw.set (ns.idxOf t.2) (fw.getD (ns.idxOf t.2) 0 + x * t.1)
theorem addT_len (ns : List Str) (x : Int) (fw : List Int) (t : Int × Str) : (addT ns x fw t).length = fw.length := by simp [addT]
theorem foldT_len (ns : List Str) (x : Int) : ∀ (f : List (Int × Str)) (fw : List Int), (f.foldl (addT ns x) fw).length = fw.length
  | [], _ => rfl
  | t :: f, fw => by rw [List.foldl_cons, foldT_len ns x f, addT_len]
theorem bump_len2 (ns : List Str) (l : List Int) (t : Int × Str) : (bump ns l t).length = l.length := by simp [bump]
theorem foldB_len (ns : List Str) : ∀ (f : List (Int × Str)) (l : List Int), (f.foldl (bump ns) l).length = l.length
  | [], _ => rfl
  | t :: f, l => by rw [List.foldl_cons, foldB_len ns f, bump_len2]
theorem getD_set {l : List Int} {i j : Nat} {v : Int} : (l.set i v).getD j 0 = if j = i ∧ i < l.length then v else l.getD j 0 := by
  simp only [List.getD_eq_getElem?_getD, List.getElem?_set]
  by_cases h : i = j
  · subst h
    by_cases h2 : i < l.length
    · simp [h2]
    · simp [h2]
  · have : ¬ j = i := fun z => h z.symm
    simp [h, this]
/-- the terms of a formula, one behind another: what a line of the matrix tells -/
theorem foldT_at (ns : List Str) (x : Int) : ∀ (f : List (Int × Str)) (fw l : List Int), fw.length = l.length → ∀ j, (f.foldl (addT ns x) fw).getD j 0 - fw.getD j 0 = x * ((f.foldl (bump ns) l).getD j 0 - l.getD j 0)
  | [], fw, l, _, j => by simp
  | t :: f, fw, l, hl, j => by
    have ih := foldT_at ns x f (addT ns x fw t) (bump ns l t) (by rw [addT_len, bump_len2, hl]) j
    rw [List.foldl_cons, List.foldl_cons]
    have e1 : (addT ns x fw t).getD j 0 - fw.getD j 0 = x * ((bump ns l t).getD j 0 - l.getD j 0) := by
      rw [addT, bump, getD_set, getD_set, hl]
      by_cases h : j = ns.idxOf t.2 ∧ ns.idxOf t.2 < l.length
      · rw [if_pos h, if_pos h, h.1]
        grind
      · rw [if_neg h, if_neg h]
        grind
    grind
/-- all letters -/
def addL (ns : List Str) (r : Nat) (fw : List Int) (p : NR × Int) : List Int := (p.1.forms.getD r []).foldl (addT ns p.2) fw
theorem foldA_len (ns : List Str) (r : Nat) : ∀ (ps : List (NR × Int)) (fw : List Int), (ps.foldl (addL ns r) fw).length = fw.length
  | [], _ => rfl
  | p :: ps, fw => by rw [List.foldl_cons, foldA_len ns r ps, addL, foldT_len]
theorem foldA_at (ns : List Str) (r j : Nat) : ∀ (ps : List (NR × Int)) (fw : List Int), fw.length = ns.length → (ps.foldl (addL ns r) fw).getD j 0 = fw.getD j 0 + (ps.map fun p => p.2 * (lineOf ns (p.1.forms.getD r [])).getD j 0).sum
  | [], fw, _ => by simp
  | p :: ps, fw, hl => by
    have ih := foldA_at ns r j ps (addL ns r fw p) (by rw [addL, foldT_len, hl])
    rw [List.foldl_cons, ih, List.map_cons, List.sum_cons]
    have h := foldT_at ns p.2 (p.1.forms.getD r []) fw (List.replicate ns.length 0) (by simp [hl]) j
    have e0 : (List.replicate ns.length (0 : Int)).getD j 0 = 0 := by
      rw [List.getD_eq_getElem?_getD, List.getElem?_replicate]
      split <;> rfl
    rw [e0] at h
    rw [addL, lineOf]
    grind
theorem dot_sum : ∀ (rows : List NR) (w : List Int) (g : NR → Int), rows.length = w.length → ((rows.zip w).map fun p => p.2 * g p.1).sum = dot w (rows.map g)
  | [], [], g, _ => rfl
  | [], _ :: _, _, h => by simp at h
  | _ :: _, [], _, h => by simp at h
  | r :: rows, x :: w, g, h => by
    rw [List.zip_cons_cons, List.map_cons, List.sum_cons, List.map_cons, dot_cons, dot_sum rows w g (by simpa using h)]
theorem rowV_eq {rows : List NR} {w : List Int} {r : Nat} (h : w.length = rows.length) : (rows.zip w).foldl (addL (names rows) r) (List.replicate rows.length 0) = rowV rows w r := by
  have hn : (names rows).length = rows.length := by simp [names]
  refine List.ext_getElem ?_ fun j h1 h2 => ?_
  · rw [foldA_len, List.length_replicate, rowV, rowM, List.length_map]
    simp [transp]
  · have hj : j < rows.length := by
      rw [foldA_len, List.length_replicate] at h1
      exact h1
    have e := foldA_at (names rows) r j (rows.zip w) (List.replicate rows.length 0) (by rw [List.length_replicate, hn])
    rw [List.getD_eq_getElem?_getD, List.getElem?_eq_getElem h1] at e
    have e0 : (List.replicate rows.length (0 : Int)).getD j 0 = 0 := by simp [List.getD_eq_getElem?_getD, hj]
    rw [e0, Option.getD_some] at e
    rw [e, dot_sum rows w (fun q => (lineOf (names rows) (q.forms.getD r [])).getD j 0) h.symm]
    simp [rowV, rowM, transp, matOf, Function.comp_def]
theorem matOf_sq (rows : List NR) (r : Nat) : SqM rows.length (matOf rows r) := ⟨by simp [matOf], fun l hl => by
  obtain ⟨q, _, rfl⟩ := List.mem_map.mp hl
  rw [lineOf, foldB_len, List.length_replicate]
  simp [names]⟩
theorem rowV_len {rows : List NR} {w : List Int} {r : Nat} : (rowV rows w r).length = rows.length := by simp [rowV, rowM, transp]
theorem sys_fol {b : Nat} {rows : List NR} {sh c : List Int} {r : Nat} (hr : r < b) : (sysOf b rows sh).fol c r = mulV (matOf rows r) c := by
  have : (sysOf b rows sh).mats.getD r [] = matOf rows r := by simp [sysOf, List.getD_eq_getElem?_getD, hr]
  rw [Sys.fol, this]
  rfl
theorem far_fold {b : Nat} {rows : List NR} {sh0 : List Int} : ∀ (fs : List Nat), (∀ f ∈ fs, f < b) → ∀ sh : List Int, dot (fs.foldl (rowV rows) sh) (rows.map NR.start) = dot sh (fs.reverse.foldl (sysOf b rows sh0).fol (rows.map NR.start))
  | [], _, sh => rfl
  | f :: fs, h, sh => by
    have hf := h f List.mem_cons_self
    have hfs := fun g hg => h g (List.mem_cons_of_mem _ hg)
    rw [List.foldl_cons, far_fold (sh0 := sh0) fs hfs, List.reverse_cons, List.foldl_append]
    simp only [List.foldl_cons, List.foldl_nil]
    rw [sys_fol hf, rowV, rowM_dot (matOf_sq rows f).row]
    have : ∀ (gs : List Nat) (c : List Int), (∀ g ∈ gs, g < b) → c.length = rows.length → (gs.foldl (sysOf b rows sh0).fol c).length = rows.length := by
      intro gs
      induction gs with
      | nil => exact fun c _ hc => hc
      | cons g gs ih => exact fun c hg hc => ih _ (fun q hq => hg q (List.mem_cons_of_mem _ hq)) (by rw [sys_fol (hg g List.mem_cons_self)]; exact (matOf_sq rows g).mulV c)
    exact this _ _ (fun g hg => hfs g (List.mem_reverse.mp hg)) (by simp)
/-- the laws' value is the row's -/
theorem farVal_eq {b spot : Nat} {rows : List NR} {sh : List Int} (hb : 2 ≤ b) : farVal b rows sh spot = dot sh ((sysOf b rows sh).col spot) := by
  rw [farVal, far_fold (sh0 := sh) _ (figR_lt hb spot)]
  show _ = dot sh ((figL (sysOf b rows sh).mats.length spot).foldl _ _)
  rw [show (sysOf b rows sh).mats.length = b by simp [sysOf]]
  rfl
end Fb
set_option Elab.async false
set_option linter.all false
set_option maxRecDepth 100000
set_option maxHeartbeats 2000000
/-! The recurrence of a drawn row: it exists, and it stays within the model. -/
namespace Fb
open PySem L2 Dl
section
variable {b : Nat} {rows : List NR} {sh0 : List Int}
theorem adj : ∀ (fs : List Nat), (∀ f ∈ fs, f < b) → ∀ sh c : List Int, c.length = rows.length → dot (fs.foldl (rowV rows) sh) c = dot sh (fs.reverse.foldl (sysOf b rows sh0).fol c)
  | [], _, sh, c, _ => rfl
  | f :: fs, h, sh, c, hc => by
    have hf := h f List.mem_cons_self
    have hfs := fun g hg => h g (List.mem_cons_of_mem _ hg)
    rw [List.foldl_cons, adj fs hfs _ c hc, List.reverse_cons, List.foldl_append]
    simp only [List.foldl_cons, List.foldl_nil]
    rw [sys_fol hf, rowV, rowM_dot (matOf_sq rows f).row]
    have : ∀ (gs : List Nat) (c : List Int), (∀ g ∈ gs, g < b) → c.length = rows.length → (gs.foldl (sysOf b rows sh0).fol c).length = rows.length := by
      intro gs
      induction gs with
      | nil => exact fun c _ hc => hc
      | cons g gs ih => exact fun c hg hc => ih _ (fun q hq => hg q (List.mem_cons_of_mem _ hq)) (by rw [sys_fol (hg g List.mem_cons_self)]; exact (matOf_sq rows g).mulV c)
    exact this _ _ (fun g hg => hfs g (List.mem_reverse.mp hg)) hc
theorem beh_len {bl : List Nat} (hb : ∀ f ∈ bl, f < b) {c : List Int} (hc : c.length = rows.length) : ((sysOf b rows sh0).behind c bl).length = rows.length := by
  rw [Sys.behind]
  induction bl generalizing c with
  | nil => exact hc
  | cons g gs ih => exact ih (fun q hq => hb q (List.mem_cons_of_mem _ hq)) (by rw [sys_fol (hb g List.mem_cons_self)]; exact (matOf_sq rows g).mulV c)
theorem rep_len {bl : List Nat} (hb : ∀ f ∈ bl, f < b) {c : List Int} (hc : c.length = rows.length) : ∀ t, ((sysOf b rows sh0).rep bl t c).length = rows.length
  | 0 => by rw [Sys.rep]; exact hc
  | t + 1 => by rw [Sys.rep]; exact beh_len hb (rep_len hb hc t)
/-- the factors of what comes i blocks later -/
def facs (rows : List NR) (bl : List Nat) (sh : List Int) : Nat → List Int
  | 0 => sh
  | i + 1 => bl.reverse.foldl (rowV rows) (facs rows bl sh i)
theorem facs_eq {bl : List Nat} (hb : ∀ f ∈ bl, f < b) {sh c : List Int} (hc : c.length = rows.length) : ∀ i k, dot sh ((sysOf b rows sh0).rep bl (k + i) c) = dot (facs rows bl sh i) ((sysOf b rows sh0).rep bl k c)
  | 0, k => rfl
  | i + 1, k => by
    rw [show k + (i + 1) = (k + 1) + i by omega, facs_eq hb hc i (k + 1), Sys.rep, facs, adj (sh0 := sh0) bl.reverse (fun f hf => hb f (List.mem_reverse.mp hf)) _ _ (rep_len hb hc k), List.reverse_reverse]
    rfl
theorem facs_len {bl : List Nat} {sh : List Int} (hs : sh.length = rows.length) : ∀ i, (facs rows bl sh i).length = rows.length
  | 0 => hs
  | i + 1 => by
    rw [facs]
    cases h : bl with
    | nil => exact facs_len hs i
    | cons g gs =>
      rw [List.reverse_cons, List.foldl_append]
      exact rowV_len
theorem dot_sm : ∀ {n : Nat} {xs ys : List Int}, xs.length = n → ys.length = n → dot xs ys = sm (fun q => xs.getD q 0 * ys.getD q 0) n
  | 0, xs, ys, h1, h2 => by
    rw [List.eq_nil_of_length_eq_zero h1, dot_nil]
    rfl
  | n + 1, x :: xs, y :: ys, h1, h2 => by
    rw [dot_cons, sm_head, dot_sm (n := n) (by simpa using h1) (by simpa using h2)]
    rfl
  | n + 1, [], _, h1, _ => by simp at h1
  | n + 1, _ :: _, [], _, h2 => by simp at h2
/-- the values have a relation -/
theorem row_rel {bl : List Nat} {sh c : List Int} (hb : ∀ f ∈ bl, f < b) (hs : sh.length = rows.length) (hc : c.length = rows.length) : ∃ (K : Nat) (Y : Nat → Int), K ≤ rows.length ∧ Rel (fun t => dot sh ((sysOf b rows sh0).rep bl t c)) K Y := by
  obtain ⟨y, hy0, hy⟩ := depend rows.length fun k q => ((sysOf b rows sh0).rep bl k c).getD q 0
  obtain ⟨K, K1, K2, K3⟩ := last_ne rows.length hy0
  refine ⟨K, y, K1, K2, fun i => ?_⟩
  have e1 : sm (fun k => y k * dot sh ((sysOf b rows sh0).rep bl (k + i) c)) (K + 1) = sm (fun k => sm (fun q => (facs rows bl sh i).getD q 0 * (y k * ((sysOf b rows sh0).rep bl k c).getD q 0)) rows.length) (K + 1) := by
    refine sm_congr _ fun k hk => ?_
    rw [facs_eq hb hc, dot_sm (facs_len hs i) (rep_len hb hc k), ← sm_mul]
    refine sm_congr _ fun q hq => ?_
    grind
  show sm (fun k => y k * dot sh ((sysOf b rows sh0).rep bl (k + i) c)) (K + 1) = 0
  rw [e1, sm_comm]
  refine sm_zero _ fun q hq => ?_
  rw [sm_mul]
  have := hy q hq
  rw [sm_cut K1 fun k h1 h2 => by rw [K3 k h1 h2, Int.zero_mul]] at this
  rw [this, Int.mul_zero]
/-! ### bits -/
/-- the sum of the sizes -/
def nrm : List Int → Nat
  | [] => 0
  | x :: xs => x.natAbs + nrm xs
theorem dot_nrm {N : Nat} : ∀ (xs ys : List Int), (∀ y ∈ ys, y.natAbs ≤ N) → (dot xs ys).natAbs ≤ nrm xs * N
  | [], ys, _ => by simp [dot_nil]
  | x :: xs, [], _ => by simp [dot_nil']
  | x :: xs, y :: ys, h => by
    rw [dot_cons, nrm, Nat.add_mul]
    have h1 := dot_nrm xs ys fun z hz => h z (List.mem_cons_of_mem _ hz)
    have h2 : (x * y).natAbs ≤ x.natAbs * N := by
      rw [Int.natAbs_mul]
      exact Nat.mul_le_mul_left _ (h y List.mem_cons_self)
    omega
theorem nrm_set : ∀ (l : List Int) (i : Nat) (v : Int), nrm (l.set i (l.getD i 0 + v)) ≤ nrm l + v.natAbs
  | [], i, v => by simp [nrm]
  | x :: l, 0, v => by
    simp only [List.set_cons_zero, List.getD_cons_zero, nrm]
    omega
  | x :: l, i + 1, v => by
    have := nrm_set l i v
    simp only [List.set_cons_succ, List.getD_cons_succ, nrm]
    omega
theorem nrm_fold {ns : List Str} {A : Nat} : ∀ (f : List (Int × Str)) (l : List Int), (∀ t ∈ f, t.1.natAbs ≤ A) → nrm (f.foldl (bump ns) l) ≤ nrm l + f.length * A
  | [], l, _ => by simp
  | t :: f, l, h => by
    have h1 := nrm_fold (ns := ns) f (bump ns l t) fun u hu => h u (List.mem_cons_of_mem _ hu)
    have h2 := nrm_set l (ns.idxOf t.2) t.1
    have h3 := h t List.mem_cons_self
    rw [List.foldl_cons, List.length_cons, Nat.succ_mul]
    have : nrm (bump ns l t) ≤ nrm l + t.1.natAbs := h2
    omega
theorem nrm_zero : ∀ n, nrm (List.replicate n 0) = 0
  | 0 => rfl
  | n + 1 => by rw [List.replicate_succ, nrm, nrm_zero n]; rfl
theorem line_nrm {many : Nat} (ko : KindOk b rows many) {r : Nat} {l : List Int} (hl : l ∈ matOf rows r) : nrm l ≤ 45 := by
  obtain ⟨q, hq, rfl⟩ := List.mem_map.mp hl
  rw [lineOf]
  by_cases hr : r < q.forms.length
  · have hf : q.forms.getD r [] ∈ q.forms := by
      rw [List.getD_eq_getElem?_getD, List.getElem?_eq_getElem hr]
      exact List.getElem_mem hr
    have h1 := nrm_fold (ns := names rows) (A := 9) (q.forms.getD r []) (List.replicate (names rows).length 0) fun t ht => ((ko.small q hq).2 _ hf t ht).1
    rw [nrm_zero] at h1
    have h2 := Nat.mul_le_mul_right 9 (ko.terms q hq _ hf)
    omega
  · rw [List.getD_eq_getElem?_getD, List.getElem?_eq_none (by omega)]
    show nrm (List.foldl _ _ []) ≤ 45
    rw [List.foldl_nil, nrm_zero]
    omega
theorem fold_nrm {many : Nat} (ko : KindOk b rows many) : ∀ (fs : List Nat), (∀ f ∈ fs, f < b) → ∀ (c : List Int) (N : Nat), (∀ x ∈ c, x.natAbs ≤ N) → ∀ x ∈ fs.foldl (sysOf b rows sh0).fol c, x.natAbs ≤ 45 ^ fs.length * N
  | [], _, c, N, h => fun x hx => by simpa using h x hx
  | f :: fs, hf, c, N, h => fun x hx => by
    have h1 : ∀ y ∈ (sysOf b rows sh0).fol c f, y.natAbs ≤ 45 * N := fun y hy => by
      rw [sys_fol (hf f List.mem_cons_self)] at hy
      obtain ⟨l, hl, rfl⟩ := List.mem_map.mp hy
      exact Nat.le_trans (dot_nrm l c h) (Nat.mul_le_mul_right _ (line_nrm ko hl))
    have h2 := fold_nrm ko fs (fun g hg => hf g (List.mem_cons_of_mem _ hg)) _ _ h1 x hx
    rw [List.length_cons, Nat.pow_succ, Nat.mul_assoc]
    exact h2
theorem rep_fold {bl : List Nat} (c : List Int) : ∀ t, (sysOf b rows sh0).rep bl t c = (List.replicate t bl).flatten.foldl (sysOf b rows sh0).fol c
  | 0 => by rw [Sys.rep]; rfl
  | t + 1 => by
    rw [Sys.rep, rep_fold c t, Sys.behind, ← List.foldl_append]
    congr 1
    rw [← List.flatten_concat, ← List.replicate_succ']
theorem val_bd {many head t m : Nat} {bl : List Nat} {sh : List Int} (ko : KindOk b rows many) (h4 : rows.length ≤ 4) (hs : sh.length = rows.length) (h9 : ∀ x ∈ sh, x.natAbs ≤ 9) (hb : ∀ f ∈ bl, f < b) (hf : (figR b head).length + t * bl.length ≤ m) : (dot sh ((sysOf b rows sh0).rep bl t ((sysOf b rows sh0).col head))).natAbs < 2 ^ (6 * m + 10) := by
  have e : (sysOf b rows sh0).col head = (figL b head).foldl (sysOf b rows sh0).fol (rows.map NR.start) := by
    rw [Sys.col, show (sysOf b rows sh0).mats.length = b by simp [sysOf]]
    rfl
  rw [rep_fold, e, ← List.foldl_append]
  have hlen : (figL b head ++ (List.replicate t bl).flatten).length ≤ m := by
    rw [List.length_append, figL, List.length_reverse]
    simp
    exact hf
  have hN := fold_nrm (sh0 := sh0) ko (figL b head ++ (List.replicate t bl).flatten) (fun f hf' => by
    rcases List.mem_append.mp hf' with h | h
    · exact figL_lt ko.bk.base.1 f h
    · obtain ⟨l, hl, h2⟩ := List.mem_flatten.mp h
      rw [List.eq_of_mem_replicate hl] at h2
      exact hb f h2) (rows.map NR.start) 9 fun x hx => by
        obtain ⟨q, hq, rfl⟩ := List.mem_map.mp hx
        exact (ko.small q hq).1
  have h1 := dot_nrm sh _ hN
  have hn : nrm sh ≤ 36 := by
    have : ∀ (xs : List Int), (∀ x ∈ xs, x.natAbs ≤ 9) → nrm xs ≤ xs.length * 9 := by
      intro xs
      induction xs with
      | nil => intro _; simp [nrm]
      | cons x xs ih =>
        intro h
        have a1 := h x List.mem_cons_self
        have a2 := ih fun y hy => h y (List.mem_cons_of_mem _ hy)
        rw [nrm, List.length_cons, Nat.succ_mul]
        omega
    have := this sh h9
    omega
  have h2 : 45 ^ (figL b head ++ (List.replicate t bl).flatten).length ≤ 64 ^ m := Nat.le_trans (Nat.pow_le_pow_left (by decide) _) (Nat.pow_le_pow_right (by decide) hlen)
  have h3 : nrm sh * (45 ^ (figL b head ++ (List.replicate t bl).flatten).length * 9) ≤ 36 * (64 ^ m * 9) := Nat.mul_le_mul hn (Nat.mul_le_mul_right _ h2)
  have h4 : 2 ^ (6 * m + 10) = 1024 * 64 ^ m := by
    rw [Nat.pow_add, Nat.pow_mul, Nat.mul_comm]
  have h5 : 0 < 64 ^ m := Nat.pow_pos (by decide)
  omega
/-- what recurrence tells of a drawn row -/
theorem row_rec {many head : Nat} {bl : List Nat} {sh : List Int} (ko : KindOk b rows many) (h4 : rows.length ≤ 4) (hs : sh.length = rows.length) (h9 : ∀ x ∈ sh, x.natAbs ≤ 9) (hb : ∀ f ∈ bl, f < b) (hbl : bl.length ≤ 4) (hf : (figR b head).length ≤ 100) :
    RecOk rows.length (rowVals b rows sh head bl) (rows.length + 1) 0 [] ∧ ∃ (d : Nat) (c : Nat → Int), d ≤ rows.length ∧ recOf rows.length (rowVals b rows sh head bl) = (List.range d).map (fun back => c (d - 1 - back)) ∧
      (∀ i, dot sh ((sysOf b rows sh).rep bl (d + i) ((sysOf b rows sh).col head)) = sm (fun j => c j * dot sh ((sysOf b rows sh).rep bl (j + i) ((sysOf b rows sh).col head))) d) ∧
      (∀ x : Nat → Int, (∀ i, i < rows.length → sm (fun j => x j * dot sh ((sysOf b rows sh).rep bl (j + i) ((sysOf b rows sh).col head))) d = 0) → ∀ j, j < d → x j = 0) ∧ ∀ j, j < d → (c j).natAbs < 2 ^ 4025 := by
  have hcl : ((sysOf b rows sh).col head).length = rows.length := by
    have : (sysOf b rows sh).col head = (sysOf b rows sh).behind (rows.map NR.start) (figL b head) := by
      rw [Sys.col, show (sysOf b rows sh).mats.length = b by simp [sysOf]]
      rfl
    rw [this]
    exact beh_len (figL_lt ko.bk.base.1) (by simp)
  obtain ⟨K, Y, hK, hY⟩ := row_rel (sh0 := sh) hb hs hcl
  obtain ⟨d, c, hd, H1, H2⟩ := rec_exists hK hY
  have bits : ∀ t, t < 2 * rows.length + 1 → (dot sh ((sysOf b rows sh).rep bl t ((sysOf b rows sh).col head))).natAbs < 2 ^ 802 := fun t ht => by
    have h1 : t * bl.length ≤ 8 * 4 := Nat.mul_le_mul (by omega) hbl
    exact val_bd (sh0 := sh) (m := 132) ko h4 hs h9 hb (by omega)
  have hat : ∀ k, k < 2 * rows.length + 1 → at0 (rowVals b rows sh head bl) k = dot sh ((sysOf b rows sh).rep bl k ((sysOf b rows sh).col head)) := fun k hk => by
    have : (rowVals b rows sh head bl)[k]? = some (dot sh ((sysOf b rows sh).rep bl k ((sysOf b rows sh).col head))) := by
      rw [rowVals, vals, List.getElem?_map, List.getElem?_range hk]
      rfl
    rw [at0, List.getD_eq_getElem?_getD, this]
    rfl
  have hbd : Bd 802 (rowVals b rows sh head bl) := fun x hx => by
    rw [rowVals, vals] at hx
    obtain ⟨t, ht, rfl⟩ := List.mem_map.mp hx
    exact bits t (List.mem_range.mp ht)
  have main := rec_main2 (size := rows.length) (vs := rowVals b rows sh head bl) (b := 802) (c := c) (a := fun t => dot sh ((sysOf b rows sh).rep bl t ((sysOf b rows sh).col head))) hd h4 (by simp [rowVals, vals]) hat (by decide) hbd (by decide) (fun i hi => H1 i) H2
  exact ⟨main.1, d, c, hd, main.2.1, H1, H2, fun j hj => Nat.lt_of_lt_of_le (main.2.2 j hj) (Nat.pow_le_pow_right (by decide) (Nat.mul_le_mul (show d + 1 ≤ 5 by omega) (Nat.le_refl 805)))⟩
end
end Fb
set_option Elab.async false
set_option linter.all false
set_option maxRecDepth 100000
set_option maxHeartbeats 2000000
/-! Dl part 18: calls by keywords alone. -/
namespace Dl
open PySem L2
section
variable {X : Cx} {CX : CXT} {k : Nat} {f : Addr} {fd : FuncData} {ps ks : List Str} {sp : Sp} {E : XK} {x : Str} {p pos : Pos} {kws : List Keyword} {tk : TA} {g : List Value → List Value → List Value} {gV : List V → List V → List V}
/-- f(k = v, ..) -/
theorem pe_callN0 (F : FnOk X.prog X.w X.K X.mg X.base CX k f fd ps sp) (hr : Room k X.A) (hg : Gl X x) (hm : X.mg x = some (.ref f)) (hk : PySem.W.keepIn X.K (.ref f) = true) (hb : KBn X.K fd ps 0 ks g gV) (hx : Passes CX X E) (hkw : PK X kws tk)
    (hall : (backToKw pos (keywordEach kws X.env)).all (·.1.isSome) = true := by rfl) (hks : (backToKw pos (keywordEach kws X.env)).filterMap (·.1) = ks := by rfl) (hdb : (x == ("__debug__" : Str)) = false := by decide)
    (hpl : ((backTo pos (starEach [] X.env)).any (·.1) || (backToKw pos (keywordEach kws X.env)).any (·.1.isNone)) = false := by rfl) :
    PE X (.Call (.Name x p) [] kws pos) (tCallN 0 ks.length sp gV E tNil tk) := by
  refine ⟨fun pins s σ H Q I h => ?_⟩
  refine wpAny_Call_Name_kw (ld_glob I hg hm ?_ hdb)
  refine PySem.W.callWith_KW0 (h₀ := X.base) I.ok.mod.kin hk hall ?_ hpl
  refine thn (hkw.run pos pins s σ H _ I h) fun ws s2 ⟨zs, H2, I2, rz, l1, l2, q2⟩ => ⟨I2.kIn, ?_⟩
  rw [hks]
  exact run_fnN (us := []) (vs := []) F hr hb hx I2 .nil rz rfl l2 q2
end
def wpK (X : Cx) (kws : List Keyword) : TA := fun σ H Q => ∀ pos pins s, Inv X pins σ H s → wpAny (model X.prog X.w) X.A (evalAll ((backToKw pos (keywordEach kws X.env)).map (·.2))) (AP X pins σ Q) X.xe s
theorem wpK_ok {X kws} : PK X kws (wpK X kws) := ⟨fun pos pins s σ H Q I h => h pos pins s I⟩
theorem wpK_of {X kws t} (h : PK X kws t) {σ H Q} (q : t σ H Q) : wpK X kws σ H Q := fun pos pins s I => h.run pos pins s σ H Q I q
/-- the keywords' values, in their order -/
def KD (n : Nat) (X : Cx) (c : Conf) (kws : List Keyword) (P : List EI → Mem → Prop) : Prop :=
  ∀ B as σ H, B.A0.length = n → CF X.K B as c σ H → ∀ Q : List V → Hp → Prop, (∀ rs vs M' as' H', P rs M' → CG X.K B as as' (c.1, M') σ H' → VsOk X.K (Ne B as' M') H' as' rs vs → Q vs H') → wpK X kws σ H Q
section
variable {n : Nat} {X : Cx} {env : EnvD} {M : Mem} {P : PP} {e : Expr} {kws : List Keyword} {kpos p pos : Pos} {nm : Option Str} {k : Nat} {x : Str} {F : Ct}
theorem kd_nil {P : List EI → Mem → Prop} (p : P [] M) : KD n X (env, M) [] P := fun B as σ H hn C Q q => wpK_of pk_nil (q [] [] M as H p C.g rfl)
theorem kd_cons {P : List EI → Mem → Prop} (h : ED n X (env, M) e fun r1 M1 => KD n X (env, M1) kws fun rs M2 => P (r1 :: rs) M2) : KD n X (env, M) (⟨nm, e, kpos⟩ :: kws) P := by
  intro B as σ H hn C Q q
  refine wpK_of (pk_cons wpE_ok wpK_ok) ?_
  refine h B as σ H hn C _ fun r1 v1 M1 as1 H1 h1 C1 o1 => ?_
  refine h1 (B.add (r1, v1)) as1 σ H1 hn (C1.cf.add o1) _ fun rs vs M2 as2 H2 h2 C2 o2 => ?_
  exact q (r1 :: rs) (v1 :: vs) M2 as2 H2 h2 (C1.tr C2.pop) ⟨v1, vs, rfl, C2.cf.top, o2⟩
/-- put in another order: the place of each -/
def perm {α : Type} (d : α) (π : List Nat) (l : List α) : List α := π.map fun i => l.getD i d
theorem vals_get : ∀ {vs : List V} {us : List Value}, Vals vs us → ∀ i, RelV (vs.getD i .non) (us.getD i .none)
  | [], us, h, i => by cases h; exact rfl
  | v :: vs, us, h, i => by
    cases h with
    | cons r h =>
      cases i with
      | zero => exact r
      | succ i => exact vals_get h i
theorem vals_perm (π : List Nat) {vs : List V} {us : List Value} (h : Vals vs us) : Vals (perm .non π vs) (perm .none π us) := by
  induction π with
  | nil => exact .nil
  | cons i π ih => exact .cons (vals_get h i) ih
theorem vsok_get {K : PySem.W.Frag} {N : Addr → Prop} {H : Hp} {as : List Addr} : ∀ {rs : List EI} {vs : List V}, VsOk K N H as rs vs → ∀ i, VOk K N H as (rs.getD i .un) (vs.getD i .non)
  | [], vs, h, i => trivial
  | r :: rs, vs, h, i => by
    obtain ⟨v, us, rfl, o, z⟩ := h
    cases i with
    | zero => exact o
    | succ i => exact vsok_get z i
theorem vsok_perm {K : PySem.W.Frag} {N : Addr → Prop} {H : Hp} {as : List Addr} (π : List Nat) {rs : List EI} {vs : List V} (h : VsOk K N H as rs vs) : VsOk K N H as (perm .un π rs) (perm .non π vs) := by
  induction π with
  | nil => rfl
  | cons i π ih => exact ⟨_, _, rfl, vsok_get h i, ih⟩
/-- a def that is called by keywords ks alone; π: where each parameter stands among them -/
structure FnKG (P : Program) (w : World) (K : PySem.W.Frag) (mg : Str → Option Value) (base : Heap) (k : Nat) (x : Str) (ks : List Str) (π : List Nat) (F : Ct) : Prop where
  ex : ∃ f fd ps, FnOk P w K mg base CX0 k f fd ps (SpD K F) ∧ mg x = some (.ref f) ∧ PySem.W.keepIn K (.ref f) = true ∧ KBn K fd ps 0 ks (fun _ ws => perm .none π ws) (fun _ zs => perm .non π zs)
theorem ed_callK {ks : List Str} {π : List Nat} (G : FnKG X.prog X.w X.K X.mg X.base k x ks π F) (hr : Room k X.A) (h : KD n X (env, M) kws fun rs M1 => rs.length = ks.length ∧ ∃ ρ args, CallAt ρ args (perm .un π rs) M1 ∧ F args (selM M1 ρ) fun fr d M' => P (.dat d) (updM M1 ρ M'))
    (hg : Gl X x := by rfl) (hall : (backToKw pos (keywordEach kws X.env)).all (·.1.isSome) = true := by rfl) (hks : (backToKw pos (keywordEach kws X.env)).filterMap (·.1) = ks := by rfl) (hdb : (x == ("__debug__" : Str)) = false := by decide)
    (hpl : ((backTo pos (starEach [] X.env)).any (·.1) || (backToKw pos (keywordEach kws X.env)).any (·.1.isNone)) = false := by rfl) :
    ED n X (env, M) (.Call (.Name x p) [] kws pos) P := by
  obtain ⟨f, fd, ps, G, hm, hk, hb⟩ := G.ex
  intro B as σ H hn C Q q
  refine wpE_of (pe_callN0 G hr hg hm hk hb pass0 (wpK_ok (X := X)) hall hks hdb hpl (E := fun _ _ _ => False)) ?_
  refine h B as σ H hn C _ fun rs vs M1 as1 H1 ⟨hl, ρ, args, c, hF⟩ C1 ov => ?_
  refine ⟨rfl, by rw [← ov.length, hl], ?_⟩
  refine ⟨_, _, _, _, _, C1.cf.entry c (vsok_perm π ov), hF, fun fr d M' p v H' ex => ?_⟩
  obtain ⟨C2, dv, _⟩ := C1.cf.exit c ex
  exact q _ v _ as1 H' p ⟨C1.px, C2⟩ dv
/-- all data -/
theorem ed_callKp {ks : List Str} {π : List Nat} (G : FnKG X.prog X.w X.K X.mg X.base k x ks π F) (hr : Room k X.A) (h : KD n X (env, M) kws fun rs M1 => rs.length = ks.length ∧ ∃ ds : List D, perm .un π rs = ds.map EI.dat ∧ F (ds.map EI.dat) [] fun fr d M' => P (.dat d) M1)
    (hg : Gl X x := by rfl) (hall : (backToKw pos (keywordEach kws X.env)).all (·.1.isSome) = true := by rfl) (hks : (backToKw pos (keywordEach kws X.env)).filterMap (·.1) = ks := by rfl) (hdb : (x == ("__debug__" : Str)) = false := by decide)
    (hpl : ((backTo pos (starEach [] X.env)).any (·.1) || (backToKw pos (keywordEach kws X.env)).any (·.1.isNone)) = false := by rfl) :
    ED n X (env, M) (.Call (.Name x p) [] kws pos) P := by
  refine ed_callK G hr ?_ hg hall hks hdb hpl
  intro B as σ H hn C Q q
  refine h B as σ H hn C Q fun rs vs M1 as1 H1 ⟨hl, ds, e, hF⟩ C1 ov => ?_
  refine q rs vs M1 as1 H1 ⟨hl, [], ds.map EI.dat, ⟨?_, List.nodup_nil, (fun k hk => by cases hk), fun e he => ?_⟩, ?_⟩ C1 ov
  · rw [e, List.map_map]
    rfl
  · obtain ⟨d, _, rfl⟩ := List.mem_map.mp he
    trivial
  · have e2 : ∀ M' : Mem, updM M1 [] M' = M1 := fun M' => by rw [updM]
    simp only [e2]
    exact hF
end
section
variable {Pg : Program} {w : World} {K : PySem.W.Frag} {mg : Str → Option Value} {base : Heap} {qual x : Str} {st : Stmt} {f : Addr} {N ps ks : List Str} {k : Nat} {F : Ct} {π : List Nat}
theorem fnKG_of (fx : FunX K x qual st f) (hm : mg x = some (.ref f)) (S : FnScope N ps (defScope st))
    (hb : ∀ (kV doc pm : Value) (an : Option Addr) (cdv ct : Value) (ws : List Value), ws.length = ks.length → bindArgs (PySem.W.fnOf x qual (defArgs st) (defBody st) (defScope st) .none kV doc pm an cdv ct) ⟨[], ks.zip ws⟩ = pure (ps.zip (perm .none π ws)))
    (hl : ∀ args M P, F args M P → args.length = ps.length) (body : BodyOk Pg w K mg base k N ps qual st f F) : FnKG Pg w K mg base (k + 1) x ks π F := by
  obtain ⟨fd, Fn⟩ := fx.ex
  refine ⟨f, fd, ps, fn_okD Fn S hl body, hm, Fn.kp, ⟨fun s us ws X h1 h2 => ?_, fun _ r2 => vals_perm π r2⟩⟩
  obtain ⟨oc, od, kV, doc, pm, an, cdv, ct, osl, rfl, _, _⟩ := Fn.ex
  have e : us = [] := List.eq_nil_of_length_eq_zero h1
  subst e
  exact .of_eq (hb kV doc pm an cdv ct ws h2)
end
end Dl
set_option Elab.async false
set_option linter.all false
set_option maxRecDepth 100000
set_option maxHeartbeats 2000000
/-! Dl part 19: (a, b), (c, d) = e. -/
namespace Dl
open PySem L2
section
variable {X : Cx} {n : Nat} {env : EnvD} {M : Mem} {e : Expr} {pos p0 p1 p2 : Pos} {nx : Conf → Prop} {rt : Bool → D → Mem → Prop} {bk ct : Conf → Prop} {es fs : List Expr} {k0 k1 k2 : Nat}
theorem sd_unp22 {is js : List Nat} (h1 : PG X (.Tuple es k1 p1) ((Tg.tup is).g X.K)) (h2 : PG X (.Tuple fs k2 p2) ((Tg.tup js).g X.K)) (h : ED n X (env, M) e fun r M' => ∃ ds ds' env1 env2, r = .dat (.tup [.tup ds, .tup ds']) ∧ setEs is ds env = some env1 ∧ setEs js ds' env1 = some env2 ∧ nx (env2, M'))
    (hs : swapsWithSole [.Tuple [.Tuple es k1 p1, .Tuple fs k2 p2] k0 p0] e pos.line X.env = pure false := by rfl) (hw : swappedStores [.Tuple [.Tuple es k1 p1, .Tuple fs k2 p2] k0 p0] e X.env = pure none := by rfl)
    (hh : (assignEach [.Tuple [.Tuple es k1 p1, .Tuple fs k2 p2] k0 p0] X.env).map (·.2) = [assign (.Tuple [.Tuple es k1 p1, .Tuple fs k2 p2] k0 p0) X.env] := by rfl)
    (g1 : (assignEach (.Tuple es k1 p1 :: [.Tuple fs k2 p2]) X.env).map (·.2) = assign (.Tuple es k1 p1) X.env :: (assignEach [.Tuple fs k2 p2] X.env).map (·.2) := by rfl)
    (g2 : (assignEach (.Tuple fs k2 p2 :: []) X.env).map (·.2) = assign (.Tuple fs k2 p2) X.env :: (assignEach [] X.env).map (·.2) := by rfl)
    (hn2 : (assignEach [.Tuple es k1 p1, .Tuple fs k2 p2] X.env).length = 2 := by rfl) (hst : (assignEach [.Tuple es k1 p1, .Tuple fs k2 p2] X.env).findIdx? (·.1) = none := by rfl) (hc : X.calm = true := by rfl) :
    SD n X (env, M) (.Assign [.Tuple [.Tuple es k1 p1, .Tuple fs k2 p2] k0 p0] e pos) ⟨nx, rt, bk, ct⟩ := fun B as σ H hn C Dd w =>
  wpS_of (ps_asg wpE_ok (pg_tup hc (pgs_cons h1 (pgs_cons h2 pgs_nil g2) g1) hn2 hst) hs hw hh) (by
    refine h B as σ H hn C _ fun r v M' as' H' ⟨ds, ds', env1, env2, e1, s1, s2, p⟩ C' o => ?_
    subst e1
    obtain ⟨q, vs, rfl, sq, dv⟩ := o
    obtain ⟨v1, r1, rfl, d1, z⟩ := dv
    obtain ⟨v2, r2, rfl, d2, z⟩ := z
    have z : r2 = [] := z
    subst z
    have CA := C'.cf.add (r := .dat (.tup ds')) (v := v2) d2
    obtain ⟨σ1, a1, a2, _⟩ := Tg.run (t := .tup is) (d := .tup ds) CA d1 s1
    obtain ⟨σ2, b1, b2, _⟩ := Tg.run (t := .tup js) (d := .tup ds') a2.pop a2.top s2
    refine ⟨q, _, rfl, sq.sq, rfl, v1, [v2], rfl, a1 _ ⟨v2, [], rfl, b1 _ ⟨rfl, ?_⟩⟩⟩
    exact w.nx _ as' _ H' p ⟨C'.px, b2⟩)
end
end Dl
set_option Elab.async false
set_option linter.all false
set_option maxRecDepth 100000
set_option maxHeartbeats 2000000
/-! Places with a block so often; values there. -/
namespace Fb
open PySem L2 Dl
def placeB (b p : Nat) (bl : List Nat) : Nat := bl.foldl (fun p f => b * p + f) p
def placeV (b head : Nat) (bl : List Nat) : Nat → Nat
  | 0 => head
  | t + 1 => placeB b (placeV b head bl t) bl
theorem dot_set : ∀ (l s : List Int) (i : Nat) (v : Int), i < l.length → l.length = s.length → dot (l.set i (l.getD i 0 + v)) s = dot l s + v * s.getD i 0
  | [], s, i, v, h, _ => by simp at h
  | x :: l, [], i, v, _, h => by simp at h
  | x :: l, y :: s, 0, v, _, _ => by
    simp only [List.set_cons_zero, List.getD_cons_zero, dot_cons]
    grind
  | x :: l, y :: s, i + 1, v, h, hl => by
    have := dot_set l s i v (by simpa using h) (by simpa using hl)
    simp only [List.set_cons_succ, List.getD_cons_succ, dot_cons, this]
    omega
theorem dot_bumps {ns : List Str} {s : List Int} (hs : s.length = ns.length) : ∀ (f : List (Int × Str)) (l : List Int), l.length = ns.length → (∀ t ∈ f, t.2 ∈ ns) → dot (f.foldl (bump ns) l) s = dot l s + (f.map fun t => t.1 * s.getD (ns.idxOf t.2) 0).sum
  | [], l, _, _ => by simp
  | t :: f, l, hl, h => by
    have h1 : ns.idxOf t.2 < l.length := by rw [hl]; exact List.idxOf_lt_length_iff.mpr (h t List.mem_cons_self)
    rw [List.foldl_cons, dot_bumps hs f (bump ns l t) (by rw [bump_len2, hl]) fun u hu => h u (List.mem_cons_of_mem _ hu), List.map_cons, List.sum_cons, bump, dot_set l s _ _ h1 (by rw [hl, hs])]
    omega
theorem start_at {g b : Nat} {rows : List NR} (ok : BookOk g b rows) {x : Str} (hx : x ∈ names rows) : (rows.map NR.start).getD ((names rows).idxOf x) 0 = startOf rows x := by
  obtain ⟨r, hr, rfl⟩ := List.mem_map.mp hx
  rw [startOf_mem ok.nd hr]
  have h1 : (names rows).idxOf r.name < (names rows).length := List.idxOf_lt_length_iff.mpr hx
  have h2 : (names rows).idxOf r.name < rows.length := by simpa [names] using h1
  have e := List.getElem_idxOf h1
  rw [List.getD_eq_getElem?_getD, List.getElem?_map, List.getElem?_eq_getElem h2]
  show (rows[(names rows).idxOf r.name]).start = r.start
  have en : (rows[(names rows).idxOf r.name]).name = r.name := by
    have e' : (names rows)[(names rows).idxOf r.name] = (rows[(names rows).idxOf r.name]).name := List.getElem_map ..
    rw [← e']
    exact e
  rw [← startOf_mem ok.nd (List.getElem_mem h2), ← startOf_mem ok.nd hr, en]
/-- figure 0 ahead of all changes nothing -/
theorem fol_zero {g b : Nat} {rows : List NR} {sh : List Int} (ok : BookOk g b rows) : (sysOf b rows sh).fol (rows.map NR.start) 0 = rows.map NR.start := by
  rw [sys_fol (by have := ok.base; omega), mulV, matOf, List.map_map]
  refine List.map_congr_left fun r hr => ?_
  show dot (lineOf (names rows) (r.forms.getD 0 [])) (rows.map NR.start) = r.start
  have hf : r.forms.getD 0 [] ∈ r.forms := by
    have h0 : 0 < r.forms.length := by
      rw [ok.fl r hr]
      have := ok.base
      omega
    rw [List.getD_eq_getElem?_getD, List.getElem?_eq_getElem h0]
    exact List.getElem_mem h0
  have ht := (ok.tm r hr _ hf).2
  rw [lineOf, dot_bumps (by simp [names]) _ _ (by simp) fun t h => (ht t h).1, dot_zero, (ok.st r hr).2, valAt, Int.zero_add]
  congr 1
  exact List.map_congr_left fun t h => by rw [start_at ok (ht t h).1]
theorem col_step {g b p f : Nat} {rows : List NR} {sh : List Int} (ok : BookOk g b rows) (hf : f < b) : (sysOf b rows sh).col (b * p + f) = (sysOf b rows sh).fol ((sysOf b rows sh).col p) f := by
  have hb := ok.base
  have hc : ∀ q, (sysOf b rows sh).col q = (figL b q).foldl (sysOf b rows sh).fol (rows.map NR.start) := fun q => by
    rw [Sys.col, show (sysOf b rows sh).mats.length = b by simp [sysOf]]
    rfl
  by_cases h0 : b * p + f = 0
  · have hp : p = 0 := by
      rcases Nat.eq_zero_or_pos p with h | h
      · exact h
      · have := Nat.mul_le_mul hb.1 h
        omega
    have hf0 : f = 0 := by omega
    subst hp
    subst hf0
    rw [Nat.mul_zero, Nat.add_zero, hc, figL_zeroN, List.foldl_nil, fol_zero ok]
  · rw [hc, hc, figL_posN (by omega) hb.1, List.foldl_append]
    have e1 : (b * p + f) / b = p := by
      rw [Nat.mul_add_div (by omega), Nat.div_eq_of_lt hf, Nat.add_zero]
    have e2 : (b * p + f) % b = f := by rw [Nat.mul_add_mod, Nat.mod_eq_of_lt hf]
    rw [e1, e2]
    rfl
where
  figL_zeroN {b : Nat} : figL b 0 = [] := by rw [figL, figR_zero]; rfl
  figL_posN {b n : Nat} (hn : 0 < n) (hb : 2 ≤ b) : figL b n = figL b (n / b) ++ [n % b] := by
    rw [figL, figR_pos hn hb, List.reverse_cons]
    rfl
theorem col_block {g b : Nat} {rows : List NR} {sh : List Int} (ok : BookOk g b rows) : ∀ (bl : List Nat) (p : Nat), (∀ f ∈ bl, f < b) → (sysOf b rows sh).col (placeB b p bl) = (sysOf b rows sh).behind ((sysOf b rows sh).col p) bl
  | [], p, _ => rfl
  | f :: bl, p, h => by
    show (sysOf b rows sh).col (placeB b (b * p + f) bl) = _
    rw [col_block ok bl _ fun q hq => h q (List.mem_cons_of_mem _ hq), col_step ok (h f List.mem_cons_self)]
    rfl
theorem col_place {g b head : Nat} {rows : List NR} {sh : List Int} {bl : List Nat} (ok : BookOk g b rows) (h : ∀ f ∈ bl, f < b) : ∀ t, (sysOf b rows sh).col (placeV b head bl t) = (sysOf b rows sh).rep bl t ((sysOf b rows sh).col head)
  | 0 => by rw [placeV, Sys.rep]
  | t + 1 => by rw [placeV, col_block ok bl _ h, col_place ok h t, Sys.rep]
theorem placeB_lt {b : Nat} (hb : b ≤ 4) : ∀ (bl : List Nat) (p k : Nat), (∀ f ∈ bl, f < b) → p < 2 ^ k → placeB b p bl < 2 ^ (k + 2 * bl.length)
  | [], p, k, _, h => by simpa [placeB] using h
  | f :: bl, p, k, h, hp => by
    have hf := h f List.mem_cons_self
    have h1 : b * p ≤ 4 * p := Nat.mul_le_mul_right _ hb
    have h2 : b * p + f < 2 ^ (k + 2) := by
      rw [Nat.pow_add]
      omega
    have := placeB_lt hb bl (b * p + f) (k + 2) (fun q hq => h q (List.mem_cons_of_mem _ hq)) h2
    rw [List.length_cons, show k + 2 * (bl.length + 1) = k + 2 + 2 * bl.length by omega]
    exact this
theorem placeV_lt {b head k : Nat} {bl : List Nat} (hb : b ≤ 4) (h : ∀ f ∈ bl, f < b) (hh : head < 2 ^ k) : ∀ t, placeV b head bl t < 2 ^ (k + t * (2 * bl.length))
  | 0 => by simpa [placeV] using hh
  | t + 1 => by
    have := placeB_lt hb bl _ _ h (placeV_lt hb h hh t)
    rw [placeV]
    rw [Nat.succ_mul, ← Nat.add_assoc]
    exact this
/-- a list that goes on by another one -/
def GoesOn (line some : List Int) : Prop := ∀ spot, line.length ≤ spot → spot < some.length → some.getD spot 0 = ((List.range line.length).map fun at' => line.getD at' 0 * some.getD (spot - 1 - at') 0).sum
def cPlaceF : Ct := fun args M P => ∃ (b head : Nat) (bl : List Nat) (t : Nat), args = [.dat (.int (b : Nat)), .dat (.int (head : Nat)), .dat (dN bl), .dat (.int (t : Nat))] ∧ M = [] ∧ b ≤ 4 ∧ head < 2 ^ 200 ∧ bl.length ≤ 10 ∧ (∀ f ∈ bl, f < b) ∧ t ≤ 100 ∧ P false (.int (placeV b head bl t : Nat)) []
def cGoesF : Ct := fun args M P => ∃ (line some : List Int), args = [.dat (dI line), .dat (dI some)] ∧ M = [] ∧ line.length ≤ 100 ∧ some.length ≤ 1000 ∧ Bd 10000 line ∧ Bd 10000 some ∧ GoesOn line some ∧ P false (.bl true) []
end Fb
set_option Elab.async false
set_option linter.all false
set_option maxRecDepth 100000
set_option maxHeartbeats 2000000
/-! k70: values when a block is repeated. -/
namespace Fb
open PySem L2 Dl
def aOf (b : Nat) (rows : List NR) (sh : List Int) (head : Nat) (bl : List Nat) (t : Nat) : Int := dot sh ((sysOf b rows sh).rep bl t ((sysOf b rows sh).col head))
theorem eqD_dI (xs ys : List Int) : eqD (dI xs) (dI ys) = decide (xs = ys) := eqD_map (fun a b => eqD_int') xs ys
theorem okD_dI (xs : List Int) : okD (dI xs) = true := (okN_map (k := 0) fun x _ => okN_int).ok
theorem sm_range (f : Nat → Int) : ∀ n, ((List.range n).map f).sum = sm f n
  | 0 => rfl
  | n + 1 => by rw [List.range_succ, List.map_append, List.sum_append, sm_range f n, sm]; simp
theorem sm_rev (f : Nat → Int) : ∀ n, sm f n = sm (fun j => f (n - 1 - j)) n
  | 0 => rfl
  | n + 1 => by
    rw [sm, sm_rev f n, sm_head]
    have : sm (fun j => f (n + 1 - 1 - (j + 1))) n = sm (fun j => f (n - 1 - j)) n := sm_congr _ fun j hj => by rw [show n + 1 - 1 - (j + 1) = n - 1 - j by omega]
    rw [this, show n + 1 - 1 - 0 = n by omega]
    omega
/-- a list that tells how values go on -/
def Tells (a : Nat → Int) (line : List Int) : Prop := ∀ spot, line.length ≤ spot → a spot = ((List.range line.length).map fun at' => line.getD at' 0 * a (spot - 1 - at')).sum
theorem tells_of {a : Nat → Int} {d : Nat} {c : Nat → Int} (h : ∀ i, a (d + i) = sm (fun j => c j * a (j + i)) d) : Tells a ((List.range d).map fun back => c (d - 1 - back)) := fun spot hs => by
  rw [List.length_map, List.length_range] at hs ⊢
  have e := h (spot - d)
  rw [show d + (spot - d) = spot by omega] at e
  rw [e, sm_range, sm_rev]
  refine sm_congr _ fun j hj => ?_
  have e1 : ((List.range d).map fun back => c (d - 1 - back)).getD j 0 = c (d - 1 - j) := by
    rw [List.getD_eq_getElem?_getD, List.getElem?_map, List.getElem?_range hj]
    rfl
  rw [e1, show d - 1 - j + (spot - d) = spot - 1 - j by omega]
theorem tells_goes {a : Nat → Int} {line : List Int} (h : Tells a line) (n : Nat) : GoesOn line ((List.range n).map a) := fun spot h1 h2 => by
  have h2 : spot < n := by simpa using h2
  have g : ∀ k, k < n → ((List.range n).map a).getD k 0 = a k := fun k hk => by
    rw [List.getD_eq_getElem?_getD, List.getElem?_map, List.getElem?_range hk]
    rfl
  rw [g spot h2, h spot h1]
  congr 1
  refine List.map_congr_left fun at' hat => ?_
  rw [g _ (by omega)]
theorem sum_m {α : Type} {q : Int} {f g : α → Int} : ∀ {xs : List α}, (∀ x ∈ xs, f x % q = g x % q) → (xs.map f).sum % q = (xs.map g).sum % q
  | [], _ => rfl
  | x :: xs, h => by
    rw [List.map_cons, List.map_cons, List.sum_cons, List.sum_cons]
    exact add_m (h x List.mem_cons_self) (sum_m fun y hy => h y (List.mem_cons_of_mem _ hy))
theorem far_row {b head t : Nat} {rows : List NR} {sh : List Int} {bl : List Nat} {q : Int} (hq : 1 ≤ q) (hb2 : 2 ≤ b) (hne : bl ≠ []) (hb : ∀ f ∈ bl, f < b) : farOf (sysOf b rows sh) rows.length head bl t q = (aOf b rows sh head bl t).fmod q := by
  refine far_eq hq hne (fun f hf => ?_) ?_
  · have : (sysOf b rows sh).mats.getD f [] = matOf rows f := by simp [sysOf, List.getD_eq_getElem?_getD, hb f hf]
    rw [this]
    exact matOf_sq rows f
  · have : (sysOf b rows sh).col head = (sysOf b rows sh).behind (rows.map NR.start) (figL b head) := by
      rw [Sys.col, show (sysOf b rows sh).mats.length = b by simp [sysOf]]
      rfl
    rw [this]
    exact beh_len (figL_lt hb2) (by simp)
theorem rep_two {S : Sys} {bl : List Nat} (c : List Int) : ∀ e, S.rep (bl ++ bl) e c = S.rep bl (2 * e) c
  | 0 => by rw [Sys.rep, Nat.mul_zero, Sys.rep]
  | e + 1 => by
    rw [Sys.rep, rep_two c e, show 2 * (e + 1) = 2 * e + 1 + 1 by omega, Sys.rep, Sys.rep, Sys.behind, Sys.behind, Sys.behind, List.foldl_append]
structure FarRow (b : Nat) (rows : List NR) (many : Nat) (sh : List Int) (head : Nat) (bl : List Nat) : Prop where
  ko : KindOk b rows many
  r4 : rows.length ≤ 4
  sl : sh.length = rows.length
  s9 : ∀ x ∈ sh, x.natAbs ≤ 9
  bb : ∀ f ∈ bl, f < b
  b1 : 1 ≤ bl.length
  b4 : bl.length ≤ 4
  hf : (figR b head).length ≤ 100
theorem FarRow.row {b rows many sh head bl} (h : FarRow b rows many sh head bl) : RowOk 5 b rows sh := ⟨h.ko.bk, h.sl, fun x hx => Nat.lt_of_le_of_lt (h.s9 x hx) (by decide)⟩
theorem FarRow.far {b rows many sh head bl t} (h : FarRow b rows many sh head bl) (ht : t ≤ 1000) : FarOk 5 b head bl t := by
  have h1 := h.hf
  have h2 := h.b1
  have h3 := h.b4
  refine ⟨by omega, fun z => by rw [z] at h2; simp at h2, by omega, h.bb, ?_⟩
  have h4 : (t + 1) * bl.length ≤ 1001 * 4 := Nat.mul_le_mul (by omega) h3
  have h5 : ((figR b head).length + (t + 1) * bl.length + 5) * (5 + 14) ≤ (100 + 1001 * 4 + 5) * 19 := Nat.mul_le_mul (by omega) (by omega)
  omega
theorem FarRow.two {b rows many sh head bl} (h : FarRow b rows many sh head bl) : FarOk 5 b head (bl ++ bl) 0 := by
  have h1 := h.hf
  have h2 := h.b1
  have h3 := h.b4
  refine ⟨by omega, fun z => by rw [List.append_eq_nil_iff] at z; rw [z.1] at h2; simp at h2, by simp; omega, fun f hf => ?_, ?_⟩
  · rcases List.mem_append.mp hf with h' | h' <;> exact h.bb f h'
  · rw [List.length_append]
    have h5 : ((figR b head).length + (0 + 1) * (bl.length + bl.length) + 5) * (5 + 14) ≤ (100 + 8 + 5) * 19 := Nat.mul_le_mul (by omega) (by omega)
    omega
theorem FarRow.bits {b rows many sh head bl t} (h : FarRow b rows many sh head bl) (ht : t ≤ 20) : (aOf b rows sh head bl t).natAbs < 2 ^ 1200 := by
  have h1 := h.hf
  have h2 : t * bl.length ≤ 20 * 4 := Nat.mul_le_mul ht h.b4
  exact Nat.lt_of_lt_of_le (val_bd (sh0 := sh) (m := 180) h.ko h.r4 h.sl h.s9 h.bb (by omega)) (Nat.pow_le_pow_right (by decide) (by decide))
def cFarR (CR CB : Addr) : Ct := fun args M P => ∃ (k : Nat) (d : List D) (b : Nat) (rows : List NR) (many : Nat) (sh : List Int) (head : Nat) (bl : List Nat) (line : List Int), args = [.cel 0, .dat (dRow CR CB b rows sh), .dat (.tup [.int (head : Nat), dN bl]), .dat (.tup [dI line, dI ((List.range 16).map (aOf b rows sh head bl))])] ∧ M = [.lst d] ∧
  PoolOk k d ∧ k ≤ 900000000 ∧ FarRow b rows many sh head bl ∧ line.length ≤ 4 ∧ Bd 4025 line ∧ Tells (aOf b rows sh head bl) line ∧ ∀ d', PoolOk (k + 10) d' → P false (.bl true) [.lst d']
end Fb
set_option Elab.async false
set_option linter.all false
set_option maxRecDepth 100000
set_option maxHeartbeats 4000000
/-! The rank of a table, without fractions; plain Lean. -/
namespace Fb
/-- one line less a multiple of the lead -/
def elim (s : Nat) (lead line : List Int) : List Int := List.zipWith (fun one two => lead.getD s 0 * one - line.getD s 0 * two) line lead
/-- one spot -/
def rkSt (st : List (List Int) × Nat) (s : Nat) : List (List Int) × Nat :=
  match st.1.filter (fun l => l.getD s 0 != 0) with
  | [] => st
  | lead :: rest => (st.1.filter (fun l => l.getD s 0 == 0) ++ rest.map (elim s lead), st.2 + 1)
def rank (L : List (List Int)) : Nat := ((List.range L.length).foldl rkSt (L, 0)).2
section
variable {m : Nat}
/-- sums of multiples, as far as m numbers go -/
inductive In (m : Nat) (G : List Int → Prop) : (Nat → Int) → Prop
  | zero : In m G fun _ => 0
  | add {v : Nat → Int} (x : Int) (g : List Int) (hg : G g) (h : In m G v) : In m G fun i => x * at0 g i + v i
  | ext {v w : Nat → Int} (h : In m G v) (e : ∀ i, i < m → w i = v i) : In m G w
theorem In.mem {G : List Int → Prop} {g : List Int} (h : G g) : In m G (at0 g) := .ext (.add 1 g h .zero) fun i _ => by omega
theorem In.plus {G : List Int → Prop} {v w : Nat → Int} (h : In m G v) (q : In m G w) : In m G fun i => v i + w i := by
  induction h with
  | zero => exact .ext q fun i _ => by simp
  | add x g hg _ ih => exact .ext (.add x g hg ih) fun i _ => by dsimp only; omega
  | ext _ e ih => exact .ext ih fun i hi => by rw [e i hi]
theorem In.mul {G : List Int → Prop} {v : Nat → Int} (c : Int) (h : In m G v) : In m G fun i => c * v i := by
  induction h with
  | zero => exact .ext .zero fun i _ => by simp
  | add x g hg _ ih => exact .ext (.add (c * x) g hg ih) fun i _ => by rw [Int.mul_add, Int.mul_assoc]
  | ext _ e ih => exact .ext ih fun i hi => by rw [e i hi]
/-- generators times c lie in another span -/
theorem In.via {G G' : List Int → Prop} {v : Nat → Int} {c : Int} (h : In m G v) (hg : ∀ g, G g → In m G' fun i => c * at0 g i) : In m G' fun i => c * v i := by
  induction h with
  | zero => exact .ext .zero fun i _ => by simp
  | add x g hg' _ ih => exact .ext ((hg g hg').mul x |>.plus ih) fun i _ => by rw [Int.mul_add, ← Int.mul_assoc, ← Int.mul_assoc, Int.mul_comm c x]
  | ext _ e ih => exact .ext ih fun i hi => by rw [e i hi]
theorem In.mono {G G' : List Int → Prop} {v : Nat → Int} (h : In m G v) (hg : ∀ g, G g → In m G' (at0 g)) : In m G' v :=
  .ext (h.via (c := 1) fun g hG => .ext (hg g hG) fun i _ => by omega) fun i _ => by omega
theorem sm_if {f : Nat → Int} {p n : Nat} {y : Int} (hp : p < n) : sm (fun j => if j = p then y * f j else 0) n = y * f p :=
  (sm_one hp fun j _ hj => if_neg hj).trans (if_pos rfl)
/-- by coordinates -/
theorem In.coord {V : List (List Int)} {v : Nat → Int} (h : In m (· ∈ V) v) : ∃ x : Nat → Int, ∀ i, i < m → v i = sm (fun j => x j * at0 (V.getD j []) i) V.length := by
  induction h with
  | zero => exact ⟨fun _ => 0, fun i _ => (sm_zero _ fun j _ => by simp).symm⟩
  | @add v y g hg _ ih =>
    obtain ⟨x, hx⟩ := ih
    obtain ⟨p, hp, e⟩ := List.getElem_of_mem hg
    refine ⟨fun j => (if j = p then y else 0) + x j, fun i hi => ?_⟩
    have h1 : sm (fun j => ((if j = p then y else 0) + x j) * at0 (V.getD j []) i) V.length = sm (fun j => (if j = p then y * at0 (V.getD j []) i else 0) + x j * at0 (V.getD j []) i) V.length :=
      sm_congr _ fun j _ => by split <;> simp [Int.add_mul]
    rw [h1, sm_add, sm_if (f := fun j => at0 (V.getD j []) i) hp, ← hx i hi]
    have : V.getD p [] = g := by rw [List.getD_eq_getElem?_getD, List.getElem?_eq_getElem hp, e]; rfl
    rw [this]
  | ext _ e ih =>
    obtain ⟨x, hx⟩ := ih
    exact ⟨x, fun i hi => (e i hi).trans (hx i hi)⟩
/-- more independent vectors than generators there are not -/
theorem few_ind {n : Nat} {u : Nat → Nat → Int} {V : List (List Int)} {k : Nat → Int} (hk : ∀ j, j < n → k j ≠ 0) (h : ∀ j, j < n → In m (· ∈ V) fun i => k j * u j i)
    (ind : ∀ y : Nat → Int, (∀ i, i < m → sm (fun j => y j * u j i) n = 0) → ∀ j, j < n → y j = 0) : n ≤ V.length := by
  refine Nat.le_of_not_lt fun hlt => ?_
  have ex : ∀ j, ∃ x : Nat → Int, j < n → ∀ i, i < m → k j * u j i = sm (fun l => x l * at0 (V.getD l []) i) V.length := fun j => by
    by_cases hj : j < n
    · obtain ⟨x, hx⟩ := (h j hj).coord
      exact ⟨x, fun _ => hx⟩
    · exact ⟨fun _ => 0, fun z => absurd z hj⟩
  have ⟨X, hX⟩ := Classical.axiomOfChoice ex
  obtain ⟨y, ⟨p, hp, yp⟩, hy⟩ := depend V.length X
  have key := ind (fun j => if j < V.length + 1 then y j * k j else 0) (fun i hi => ?_) p (by omega)
  · have key' : (if p < V.length + 1 then y p * k p else 0) = 0 := key
    rw [if_pos (by omega)] at key'
    rcases Int.mul_eq_zero.mp key' with z | z
    · exact yp z
    · exact hk p (by omega) z
  · obtain ⟨r, hr⟩ : ∃ r, n = (V.length + 1) + r := ⟨n - (V.length + 1), by omega⟩
    rw [hr, sm_ext (fun j h1 _ => by rw [if_neg (by omega)]; omega)]
    have e1 : sm (fun j => (if j < V.length + 1 then y j * k j else 0) * u j i) (V.length + 1) = sm (fun j => sm (fun l => y j * X j l * at0 (V.getD l []) i) V.length) (V.length + 1) := sm_congr _ fun j hj => by
      rw [if_pos hj, Int.mul_assoc, hX j (by omega) i hi, ← sm_mul]
      exact sm_congr _ fun l _ => (Int.mul_assoc _ _ _).symm
    rw [e1, sm_comm]
    refine sm_zero _ fun l hl => ?_
    have e2 : sm (fun j => y j * X j l * at0 (V.getD l []) i) (V.length + 1) = at0 (V.getD l []) i * sm (fun j => y j * X j l) (V.length + 1) := by
      rw [← sm_mul]
      exact sm_congr _ fun j _ => Int.mul_comm _ _
    rw [e2, hy l hl]
    omega
/-- leads in steps: a spot of each, where the later ones are 0 -/
structure Ech (m s : Nat) (leads : List (Nat × List Int)) : Prop where
  lt : ∀ p ∈ leads, p.1 < s ∧ at0 p.2 p.1 ≠ 0
  zr : leads.Pairwise fun p q => at0 q.2 p.1 = 0
theorem ech_ind {s : Nat} (hs : s ≤ m) {leads : List (Nat × List Int)} (h : Ech m s leads) (y : Nat → Int) (hy : ∀ i, i < m → sm (fun j => y j * at0 ((leads.map (·.2)).getD j []) i) leads.length = 0) : ∀ j, j < leads.length → y j = 0 := by
  intro j
  induction j using Nat.strongRecOn with
  | ind j ih =>
    intro hj
    have hm := List.getElem_mem hj
    have l1 := h.lt _ hm
    have z := hy leads[j].1 (Nat.lt_of_lt_of_le l1.1 hs)
    have g : ∀ i (hi : i < leads.length), (leads.map (·.2)).getD i [] = leads[i].2 := fun i hi => by
      rw [List.getD_eq_getElem?_getD, List.getElem?_map, List.getElem?_eq_getElem hi]
      rfl
    rw [sm_one hj fun i hi hij => ?_, g j hj] at z
    · exact (Int.mul_eq_zero.mp z).resolve_right l1.2
    · rcases Nat.lt_or_gt_of_ne hij with hlt | hgt
      · rw [ih i hlt hi]
        omega
      · rw [g i hi, List.pairwise_iff_getElem.mp h.zr j i hj hi hgt]
        omega
theorem elim_len {s : Nat} {lead line : List Int} (h1 : lead.length = m) (h2 : line.length = m) : (elim s lead line).length = m := by simp [elim, h1, h2]
theorem elim_at {s i : Nat} {lead line : List Int} (h1 : lead.length = m) (h2 : line.length = m) (hi : i < m) : at0 (elim s lead line) i = at0 lead s * at0 line i - at0 line s * at0 lead i :=
  at0_zip (by omega) (by omega)
/-- what stands after some spots -/
structure RkInv (m s : Nat) (rows L : List (List Int)) (leads : List (Nat × List Int)) : Prop where
  len : ∀ l ∈ L, l.length = m ∧ ∀ i, i < s → at0 l i = 0
  ech : Ech m s leads
  inn : (∀ l ∈ L, In m (· ∈ rows) (at0 l)) ∧ ∀ p ∈ leads, In m (· ∈ rows) (at0 p.2)
  out : ∀ r ∈ rows, ∃ k : Int, k ≠ 0 ∧ In m (fun g => g ∈ leads.map (·.2) ∨ g ∈ L) fun i => k * at0 r i
theorem RkInv.step {s : Nat} {rows L : List (List Int)} {leads : List (Nat × List Int)} (hs : s < m) (h : RkInv m s rows L leads) : ∃ leads', RkInv m (s + 1) rows (rkSt (L, leads.length) s).1 leads' ∧ (rkSt (L, leads.length) s).2 = leads'.length := by
  unfold rkSt
  have sub : ∀ l ∈ L.filter (fun l => l.getD s 0 != 0), l ∈ L ∧ at0 l s ≠ 0 := fun l hl => by
    obtain ⟨h1, h2⟩ := List.mem_filter.mp hl
    exact ⟨h1, by simpa using h2⟩
  have nsub : ∀ l ∈ L, at0 l s ≠ 0 → l ∈ L.filter (fun l => l.getD s 0 != 0) := fun l hl z => List.mem_filter.mpr ⟨hl, by simpa using z⟩
  cases hf : L.filter (fun l => l.getD s 0 != 0) with
  | nil =>
    refine ⟨leads, ⟨fun l hl => ⟨(h.len l hl).1, fun i hi => ?_⟩, ⟨fun p hp => ⟨Nat.lt_succ_of_lt (h.ech.lt p hp).1, (h.ech.lt p hp).2⟩, h.ech.zr⟩, h.inn, h.out⟩, rfl⟩
    rcases Nat.lt_or_ge i s with h1 | h1
    · exact (h.len l hl).2 i h1
    · have : i = s := by omega
      subst this
      refine Classical.byContradiction fun z => ?_
      have := nsub l hl z
      rw [hf] at this
      cases this
  | cons lead rest =>
    rw [hf] at sub nsub
    have hlead := sub lead List.mem_cons_self
    have ll := h.len lead hlead.1
    have hrest : ∀ l ∈ rest, l ∈ L ∧ at0 l s ≠ 0 := fun l hl => sub l (List.mem_cons_of_mem _ hl)
    refine ⟨leads ++ [(s, lead)], ⟨fun l hl => ?_, ⟨fun p hp => ?_, ?_⟩, ⟨fun l hl => ?_, fun p hp => ?_⟩, fun r hr => ?_⟩, by simp⟩
    · rcases List.mem_append.mp hl with hl | hl
      · obtain ⟨h1, h2⟩ := List.mem_filter.mp hl
        have h2 : at0 l s = 0 := by simpa using h2
        refine ⟨(h.len l h1).1, fun i hi => ?_⟩
        rcases Nat.lt_or_ge i s with h3 | h3
        · exact (h.len l h1).2 i h3
        · rw [show i = s by omega]
          exact h2
      · obtain ⟨l0, h1, rfl⟩ := List.mem_map.mp hl
        have h0 := h.len l0 (hrest l0 h1).1
        refine ⟨elim_len ll.1 h0.1, fun i hi => ?_⟩
        rw [elim_at ll.1 h0.1 (by omega)]
        rcases Nat.lt_or_ge i s with h3 | h3
        · rw [h0.2 i h3, ll.2 i h3]
          omega
        · rw [show i = s by omega, Int.mul_comm]
          omega
    · rcases List.mem_append.mp hp with hp | hp
      · exact ⟨Nat.lt_succ_of_lt (h.ech.lt p hp).1, (h.ech.lt p hp).2⟩
      · rw [List.mem_singleton.mp hp]
        exact ⟨Nat.lt_succ_self s, hlead.2⟩
    · refine List.pairwise_append.mpr ⟨h.ech.zr, List.pairwise_singleton _ _, fun p hp q hq => ?_⟩
      rw [List.mem_singleton.mp hq]
      exact ll.2 _ (h.ech.lt p hp).1
    · rcases List.mem_append.mp hl with hl | hl
      · exact h.inn.1 l (List.mem_filter.mp hl).1
      · obtain ⟨l0, h1, rfl⟩ := List.mem_map.mp hl
        have h0 := h.len l0 (hrest l0 h1).1
        refine .ext (((h.inn.1 l0 (hrest l0 h1).1).mul (at0 lead s)).plus ((h.inn.1 lead hlead.1).mul (- at0 l0 s))) fun i hi => ?_
        rw [elim_at ll.1 h0.1 hi, Int.neg_mul]
        omega
    · rcases List.mem_append.mp hp with hp | hp
      · exact h.inn.2 p hp
      · rw [List.mem_singleton.mp hp]
        exact h.inn.1 lead hlead.1
    · obtain ⟨k, hk, q⟩ := h.out r hr
      refine ⟨at0 lead s * k, fun z => (Int.mul_eq_zero.mp z).elim hlead.2 hk, ?_⟩
      have inL : In m (fun g => g ∈ (leads ++ [(s, lead)]).map (·.2) ∨ g ∈ L.filter (fun l => l.getD s 0 == 0) ++ rest.map (elim s lead)) (at0 lead) := .mem (.inl (by simp))
      refine .ext (q.via (c := at0 lead s) fun g hg => ?_) fun i _ => by rw [Int.mul_assoc]
      rcases hg with hg | hg
      · refine .mul _ (.mem (.inl ?_))
        rw [List.map_append]
        exact List.mem_append_left _ hg
      · by_cases z : at0 g s = 0
        · exact .mul _ (.mem (.inr (List.mem_append_left _ (List.mem_filter.mpr ⟨hg, by simpa using z⟩))))
        · rcases List.mem_cons.mp (nsub g hg z) with e | e
          · rw [e]
            exact .mul _ inL
          · have h0 := h.len g hg
            refine .ext ((In.mem (.inr (List.mem_append_right _ (List.mem_map_of_mem e)))).plus (inL.mul (at0 g s))) fun i hi => ?_
            rw [elim_at ll.1 h0.1 hi]
            omega
theorem rk_run {rows : List (List Int)} : ∀ (n s : Nat) (L : List (List Int)) (leads : List (Nat × List Int)), s + n = m → RkInv m s rows L leads → ∃ L' leads', RkInv m m rows L' leads' ∧ ((List.range' s n).foldl rkSt (L, leads.length)).2 = leads'.length
  | 0, s, L, leads, e, h => ⟨L, leads, by have : s = m := by omega
                                          rw [← this]; rw [← this] at h; exact h, rfl⟩
  | n + 1, s, L, leads, e, h => by
    obtain ⟨l', h', e'⟩ := h.step (by omega)
    obtain ⟨L2, l2, h2, e2⟩ := rk_run n (s + 1) _ l' (by omega) h'
    refine ⟨L2, l2, h2, ?_⟩
    rw [List.range'_succ, List.foldl_cons, ← e2, ← e']
/-- the rank of the table of values is the length of the shortest recurrence -/
theorem rank_eq {size d : Nat} {a c : Nat → Int} (hd : d ≤ size) (H1 : ∀ i, a (d + i) = sm (fun j => c j * a (j + i)) d)
    (H2 : ∀ x : Nat → Int, (∀ i, i < size → sm (fun j => x j * a (j + i)) d = 0) → ∀ j, j < d → x j = 0) : rank ((List.range size).map fun t => (List.range size).map fun i => a (t + i)) = d := by
  generalize hrows : (List.range size).map (fun t => (List.range size).map fun i => a (t + i)) = rows
  have rl : rows.length = size := by rw [← hrows]; simp
  have rat : ∀ t, t < size → ∃ r ∈ rows, r.length = size ∧ ∀ i, i < size → at0 r i = a (t + i) := fun t ht => by
    refine ⟨(List.range size).map fun i => a (t + i), by rw [← hrows]; exact List.mem_map_of_mem (List.mem_range.mpr ht), by simp, fun i hi => ?_⟩
    unfold at0
    rw [List.getD_eq_getElem?_getD, List.getElem?_map, List.getElem?_range hi]
    rfl
  have rall : ∀ r ∈ rows, ∃ t, t < size ∧ r.length = size ∧ ∀ i, i < size → at0 r i = a (t + i) := fun r hr => by
    rw [← hrows] at hr
    obtain ⟨t, ht, rfl⟩ := List.mem_map.mp hr
    refine ⟨t, List.mem_range.mp ht, by simp, fun i hi => ?_⟩
    unfold at0
    rw [List.getD_eq_getElem?_getD, List.getElem?_map, List.getElem?_range hi]
    rfl
  have inv0 : RkInv size 0 rows rows [] := ⟨fun l hl => ⟨by obtain ⟨_, _, z, _⟩ := rall l hl; exact z, fun i hi => absurd hi (Nat.not_lt_zero i)⟩, ⟨(fun p hp => by cases hp), List.Pairwise.nil⟩, ⟨fun l hl => .mem hl, (fun p hp => by cases hp)⟩, fun r hr => ⟨1, by decide, .mul 1 (.mem (.inr hr))⟩⟩
  obtain ⟨L', leads, hi, he⟩ := rk_run size 0 rows [] (Nat.zero_add _) inv0
  have hrank : rank rows = leads.length := by
    unfold rank
    rw [rl, List.range_eq_range']
    exact he
  rw [hrank]
  have ml : (leads.map (·.2)).length = leads.length := by simp
  -- generators: the first d rows
  have first : ∀ t, t < size → In size (· ∈ rows.take d) fun i => a (t + i) := by
    intro t
    induction t using Nat.strongRecOn with
    | ind t ih =>
      intro ht
      by_cases h : t < d
      · have hg : (List.range size).map (fun i => a (t + i)) ∈ rows.take d := by
          rw [← hrows, ← List.map_take, List.take_range]
          exact List.mem_map_of_mem (f := fun t => (List.range size).map fun i => a (t + i)) (List.mem_range.mpr (by omega))
        refine .ext (.mem hg) fun i hi => ?_
        unfold at0
        rw [List.getD_eq_getElem?_getD, List.getElem?_map, List.getElem?_range hi]
        rfl
      · have sumIn : ∀ n, n ≤ d → In size (· ∈ rows.take d) fun i => sm (fun j => c j * a (j + (t - d + i))) n := by
          intro n
          induction n with
          | zero => intro _; exact .ext .zero fun i _ => rfl
          | succ n ihn =>
            intro hn
            refine .ext ((ihn (by omega)).plus ((ih (n + (t - d)) (by omega) (by omega)).mul (c n))) fun i _ => ?_
            rw [sm, show n + (t - d + i) = n + (t - d) + i by omega]
        refine .ext (sumIn d (Nat.le_refl _)) fun i _ => ?_
        rw [show t + i = d + (t - d + i) by omega]
        exact H1 _
  refine Nat.le_antisymm ?_ ?_
  · have := few_ind (m := size) (n := leads.length) (u := fun j => at0 ((leads.map (·.2)).getD j [])) (V := rows.take d) (k := fun _ => 1) (fun _ _ => by decide) (fun j hj => ?_) (fun y hy => ech_ind (Nat.le_refl _) hi.ech y hy)
    · rw [List.length_take, rl] at this
      omega
    · refine .mul 1 ?_
      have hm := List.getElem_mem hj
      have e : (leads.map (·.2)).getD j [] = leads[j].2 := by
        rw [List.getD_eq_getElem?_getD, List.getElem?_map, List.getElem?_eq_getElem hj]
        rfl
      rw [e]
      refine (hi.inn.2 _ hm).mono fun g hg => ?_
      obtain ⟨t, ht, _, hgt⟩ := rall g hg
      exact .ext (first t ht) hgt
  · have ex : ∀ j, ∃ k : Int, k ≠ 0 ∧ (j < d → In size (· ∈ leads.map (·.2)) fun i => k * a (j + i)) := fun j => by
      by_cases hj : j < d
      · obtain ⟨r, hr, _, hra⟩ := rat j (by omega)
        obtain ⟨k, hk, q⟩ := hi.out r hr
        refine ⟨k, hk, fun _ => .ext (q.mono fun g hg => ?_) fun i hi => by rw [hra i hi]⟩
        rcases hg with hg | hg
        · exact .mem hg
        · exact .ext .zero fun i hii => (hi.len g hg).2 i hii
      · exact ⟨1, by decide, fun z => absurd z hj⟩
    have ⟨k, hk⟩ := Classical.axiomOfChoice ex
    have := few_ind (m := size) (n := d) (u := fun j i => a (j + i)) (V := leads.map (·.2)) (k := k) (fun j _ => (hk j).1) (fun j hj => (hk j).2 hj) H2
    rw [ml] at this
    exact this
end
end Fb
set_option Elab.async false
set_option linter.all false
set_option maxRecDepth 100000
set_option maxHeartbeats 4000000
/-! k53: places by a book, ranks. -/
namespace Fb
open PySem L2 Dl
def cPlaceK : Ct := fun args M P => ∃ (b : Nat) (rows : List NR) (head : Nat) (bl : List Nat) (t : Nat), args = [.dat (dKind b rows), .dat (.int (head : Nat)), .dat (dN bl), .dat (.int (t : Nat))] ∧ M = [] ∧ b ≤ 4 ∧ head < 2 ^ 200 ∧ bl.length ≤ 10 ∧ (∀ f ∈ bl, f < b) ∧ t ≤ 100 ∧ P false (.int (placeV b head bl t : Nat)) []
def cRankF : Ct := fun args M P => ∃ (L : List (List Int)) (m : Nat), args = [.dat (dM L)] ∧ M = [] ∧ L.length = m ∧ m ≤ 4 ∧ (∀ l ∈ L, l.length = m ∧ Bd 2000 l) ∧ P false (.int (rank L : Nat)) []
theorem eqD_dM (xs ys : List (List Int)) : eqD (dM xs) (dM ys) = decide (xs = ys) := eqD_map eqD_dI xs ys
theorem okN_dI (xs : List Int) : OkN 1 (dI xs) := okN_map fun _ _ => okN_int
theorem okD_dM (xs : List (List Int)) : okD (dM xs) = true := (okN_map fun x _ => okN_dI x).ok
/-- what stands after some spots -/
def rkAt (L : List (List Int)) (i : Nat) : List (List Int) × Nat := (List.range i).foldl rkSt (L, 0)
theorem rkAt_succ (L : List (List Int)) (i : Nat) : rkAt L (i + 1) = rkSt (rkAt L i) i := by
  unfold rkAt
  rw [List.range_succ, List.foldl_append]
  rfl
/-- bits after so many spots -/
def rb : Nat → Nat
  | 0 => 2000
  | i + 1 => 2 * rb i + 1
theorem elim_bd {s b : Nat} {lead line : List Int} (h1 : Bd b lead) (h2 : Bd b line) : Bd (2 * b + 1) (elim s lead line) := fun x hx => by
  obtain ⟨u, hu, v, hv, rfl⟩ := mem_zipWith hx
  have a1 := mul_bd (getD_bd h1 s) (h2 u hu)
  have a2 := mul_bd (getD_bd h2 s) (h1 v hv)
  have e : 2 ^ (2 * b + 1) = 2 ^ (b + b) + 2 ^ (b + b) := by rw [show 2 * b + 1 = (b + b) + 1 by omega, Nat.pow_succ]; omega
  omega
theorem rkSt_ok {m b s : Nat} {st : List (List Int) × Nat} (h : ∀ l ∈ st.1, l.length = m ∧ Bd b l) : ∀ l ∈ (rkSt st s).1, l.length = m ∧ Bd (2 * b + 1) l := by
  intro l hl
  unfold rkSt at hl
  have up : ∀ l ∈ st.1, l.length = m ∧ Bd (2 * b + 1) l := fun l hl => ⟨(h l hl).1, (h l hl).2.mono (by omega)⟩
  split at hl
  · exact up l hl
  · rename_i lead rest hf
    have mem : ∀ x ∈ lead :: rest, x ∈ st.1 := fun x hx => by
      rw [← hf] at hx
      exact (List.mem_filter.mp hx).1
    rcases List.mem_append.mp hl with hl | hl
    · exact up l (List.mem_filter.mp hl).1
    · obtain ⟨l0, h0, rfl⟩ := List.mem_map.mp hl
      have h1 := h lead (mem lead List.mem_cons_self)
      have h2 := h l0 (mem l0 (List.mem_cons_of_mem _ h0))
      exact ⟨by simp [elim, h1.1, h2.1], elim_bd h1.2 h2.2⟩
theorem rkAt_ok {m : Nat} {L : List (List Int)} (h : ∀ l ∈ L, l.length = m ∧ Bd 2000 l) : ∀ i, ∀ l ∈ (rkAt L i).1, l.length = m ∧ Bd (rb i) l
  | 0 => h
  | i + 1 => by
    rw [rkAt_succ]
    exact rkSt_ok (rkAt_ok h i)
theorem rkSt_len {st : List (List Int) × Nat} {s : Nat} : (rkSt st s).1.length ≤ st.1.length := by
  unfold rkSt
  split
  · exact Nat.le_refl _
  · rename_i lead rest hf
    have e : ∀ xs : List (List Int), (xs.filter fun l => l.getD s 0 == 0).length + (xs.filter fun l => l.getD s 0 != 0).length = xs.length := fun xs => by
      induction xs with
      | nil => rfl
      | cons x xs ih =>
        by_cases z : x.getD s 0 = 0
        · have z1 : (x.getD s 0 == 0) = true := by simpa using z
          have z2 : (x.getD s 0 != 0) = false := by simpa using z
          simp only [List.filter_cons, z1, z2, if_true, Bool.false_eq_true, if_false, List.length_cons]
          omega
        · have z1 : (x.getD s 0 == 0) = false := by simpa using z
          have z2 : (x.getD s 0 != 0) = true := by simpa using z
          simp only [List.filter_cons, z1, z2, if_true, Bool.false_eq_true, if_false, List.length_cons]
          omega
    have e := e st.1
    rw [hf] at e
    rw [List.length_append, List.length_map]
    simp only [List.length_cons] at e
    omega
theorem rkAt_len {L : List (List Int)} : ∀ i, (rkAt L i).1.length ≤ L.length
  | 0 => Nat.le_refl _
  | i + 1 => by
    rw [rkAt_succ]
    exact Nat.le_trans rkSt_len (rkAt_len i)
theorem rkAt_cnt {L : List (List Int)} : ∀ i, (rkAt L i).2 ≤ i
  | 0 => Nat.le_refl _
  | i + 1 => by
    rw [rkAt_succ]
    have := rkAt_cnt (L := L) i
    unfold rkSt
    split
    · omega
    · show (rkAt L i).2 + 1 ≤ i + 1
      omega
section
variable {P : Program} {w : World} {K : PySem.W.Frag} {mg : Str → Option Value} {base : Heap}
theorem body_lplaceK {f : Addr} (hrg : mg "range" = none) : BodyOk P w K mg base 0 ["kind", "begin", "some", "often", "turn", "last"] ["kind", "begin", "some", "often"] "_law_place" s_Lplace f cPlaceK := by
  intro cdv A outer s H E hr args M P0 ⟨b, rows, head, bl, t, e1, e2, hb, hh, hl, hf, ht, hP⟩
  subst e1
  subst e2
  have nd := sc_Lplace.nd
  show SDs _ _ ([.dat (dKind b rows), .dat (.int (head : Nat)), .dat (dN bl), .dat (.int (t : Nat)), .un, .un], []) _ _
  refine sds_cons (sd_forF (t := .one 4) (tg_name nd) (id_range1 hrg (ev 3 rfl ⟨_, rfl, by omega, by omega, ?_⟩)))
  refine ⟨fun i c => c = ([.dat (dKind b rows), .dat (.int (placeV b head bl i : Nat)), .dat (dN bl), .dat (.int (t : Nat)), .un, .un], []), .of rfl, ?_, ?_⟩
  · rintro i c dd hdd rfl
    rw [rangeD_map] at hdd
    obtain ⟨y, hy, rfl⟩ := map_get hdd
    have hi : i < t := by
      have := (List.getElem?_eq_some_iff.mp hy).1
      simpa using this
    have hpl := placeV_lt hb hf hh i
    refine ⟨trivial, _, rfl, ?_⟩
    show SDs _ _ ([.dat (dKind b rows), .dat (.int (placeV b head bl i : Nat)), .dat (dN bl), .dat (.int (t : Nat)), .dat (.int (0 + (y : Nat))), .un], []) _ _
    have hstep : placeV b head bl (i + 1) = placeB b (placeV b head bl i) bl := rfl
    generalize placeV b head bl i = p at *
    refine sds_one (sd_forF (t := .one 5) (tg_name nd) (id_list (ev 2 rfl ⟨bl.map fun n => .int (n : Nat), rfl, ?_⟩)))
    refine ⟨fun j c => c = ([.dat (dKind b rows), .dat (.int (placeB b p (bl.take j) : Nat)), .dat (dN bl), .dat (.int (t : Nat)), .dat (.int (0 + (y : Nat))), .un], []), .of rfl, ?_, ?_⟩
    · rintro j c dd hdd rfl
      obtain ⟨f0, hf0, rfl⟩ := map_get hdd
      have hp2 := placeB_lt hb (bl.take j) p _ (fun q hq => hf q (List.mem_of_mem_take hq)) hpl
      have st : placeB b p (bl.take (j + 1)) = b * placeB b p (bl.take j) + f0 := by
        rw [placeB, placeB, foldl_take hf0]
      have hbits : 200 + i * (2 * bl.length) + 2 * (bl.take j).length ≤ 5000 := by
        have h1 : i * (2 * bl.length) ≤ 100 * 20 := Nat.mul_le_mul (by omega) (by omega)
        have h2 : (bl.take j).length ≤ bl.length := by rw [List.length_take]; exact Nat.min_le_right _ _
        omega
      generalize placeB b p (bl.take j) = z at *
      refine ⟨rfl, _, rfl, ?_⟩
      refine sds_one (sd_set (i := 1) (ed_add (ed_mul (ed_ix (ev 0 rfl (ed_int ⟨.int (b : Nat), rfl, ev 1 rfl ⟨mulB_of (a := 3) (b := 5000) (by omega) ?_ (by decide), ev 5 rfl ?_⟩⟩))))) nd)
      · rw [Int.natAbs_natCast]
        exact Nat.lt_of_lt_of_le hp2 (Nat.pow_le_pow_right (by decide) hbits)
      · refine UpG.by (e0 := [.dat (dKind b rows), .dat (.int (placeB b p (bl.take (j + 1)) : Nat)), .dat (dN bl), .dat (.int (t : Nat)), .dat (.int (0 + (y : Nat))), .un]) rfl ⟨.inl rfl, .inl ?_, .inl rfl, .inl rfl, .inl rfl, .inr rfl, trivial⟩
        rw [st]
        push_cast
        rfl
    · rintro c rfl
      rw [List.length_map, List.take_length, ← hstep]
      exact ⟨rfl, UpG.by (e0 := [.dat (dKind b rows), .dat (.int (placeV b head bl (i + 1) : Nat)), .dat (dN bl), .dat (.int (t : Nat)), .un, .un]) rfl ⟨.inl rfl, .inl rfl, .inl rfl, .inl rfl, .inr rfl, .inr rfl, trivial⟩⟩
  · rintro c rfl
    rw [show (rangeD 0 ((t : Int)).toNat).length = t by simp [rangeD]]
    exact ⟨trivial, sds_one (sd_ret (ev 1 rfl (ret_dat (po0 hP))))⟩
abbrev nsRank : List Str := ["lines", "found", "many", "spot", "heads_here", "lead", "left", "line", "one", "two"]
theorem get_dM {l : List Int} {i : Nat} (h : i < l.length) : L2.atI (l.map D.int) (i : Nat) = some (.int (l.getD i 0)) := atI_nat (by rw [List.getElem?_map, List.getElem?_eq_getElem h, List.getD_eq_getElem?_getD, List.getElem?_eq_getElem h]; rfl)
theorem cut_one {α : Type} {x : α} {xs : List α} : cutD (x :: xs) (some 1) none = xs := by
  show cutD (x :: xs) (some ((1 : Nat) : Int)) none = xs
  unfold cutD
  rw [HT.sIx_nat, HT.sIx_none, Nat.min_eq_left (by simp), List.take_of_length_le (by simp)]
  rfl
theorem body_lrank {f : Addr} (hl : mg "len" = none) (hrg : mg "range" = none) (hz : mg "zip" = none) : BodyOk P w K mg base 0 nsRank ["lines"] "_law_rank" s_Lrank f cRankF := by
  intro cdv A outer s H E hr args M P0 ⟨L, m, e1, e2, hL, hm, hll, hP⟩
  subst e1
  subst e2
  have nd := sc_Lrank.nd
  have hu := hr.units
  refine sds_cons (sd_par (i := 1) (j := 2) (ad_cons (ed_int (ad_cons (ed_len hl (ev 0 rfl ⟨_, m, rfl, by simp [LenOk, dM, hL], ad_nil ⟨_, _, rfl, ?_⟩⟩))))) nd)
  refine sds_cons (sd_forF (t := .one 3) (tg_name nd) (id_range1 hrg (ev 2 rfl ⟨_, rfl, by omega, by omega, ?_⟩)))
  refine ⟨fun i c => c = ([.dat (dM (rkAt L i).1), .dat (.int ((rkAt L i).2 : Nat)), .dat (.int (m : Nat)), .un, .un, .un, .un, .un, .un, .un], []), .of rfl, ?_, ?_⟩
  · rintro i c dd hdd rfl
    rw [rangeD_map] at hdd
    obtain ⟨y, hy, rfl⟩ := map_get hdd
    have hi : i < m := by
      have := (List.getElem?_eq_some_iff.mp hy).1
      simpa using this
    have hyi : y = i := by
      have := (List.getElem?_eq_some_iff.mp hy).2
      simpa using this.symm
    subst hyi
    have ok := rkAt_ok hll y
    have hlen := rkAt_len (L := L) y
    have hcnt := rkAt_cnt (L := L) y
    have hst := rkAt_succ L y
    have hb : rb y ≤ 20000 := by
      have : y = 0 ∨ y = 1 ∨ y = 2 ∨ y = 3 := by omega
      rcases this with rfl | rfl | rfl | rfl <;> decide
    have e0 : (0 : Int) + (y : Nat) = (y : Nat) := by omega
    rw [e0]
    generalize hnn : rkAt L (y + 1) = nxt at *
    generalize rkAt L y = cur at *
    obtain ⟨C, cnt⟩ := cur
    refine ⟨trivial, _, rfl, ?_⟩
    show SDs _ _ ([.dat (dM C), .dat (.int (cnt : Nat)), .dat (.int (m : Nat)), .dat (.int (y : Nat)), .un, .un, .un, .un, .un, .un], []) _ _
    refine sds_cons (sd_setLc (i := 4) (own := [("line", 7)]) (t := .one 7) nd (blkOk_by (N := nsRank) (sc := defScope s_Lrank) (by decide +kernel)) (fun s H C cl fp => tg_name nd) ?_)
    refine id_list (ev 0 rfl ⟨_, rfl, ?_⟩)
    refine lcd_filter C dI (fun l => l.getD y 0 != 0) dI rfl (szl (by simp at hlen ⊢; omega)) ?_ (fun acc => rfl) ?_
    · intro l hlm acc
      have hll := (ok l hlm).1
      refine ⟨_, rfl, fun s H C cl fp => ?_, fun _ s H C cl fp => ev 7 rfl ⟨rfl, rfl⟩⟩
      exact td_neI hu (ed_ix (ev 7 rfl (ev 3 rfl ⟨_, get_dM (by omega), ed_int ⟨_, _, rfl, rfl, rfl, rfl⟩⟩)))
    refine .inr ?_
    have hhd : ∀ l ∈ C.filter (fun l => l.getD y 0 != 0), l ∈ C := fun l hl => (List.mem_filter.mp hl).1
    have hnx : (nxt = match C.filter (fun l => l.getD y 0 != 0) with
      | [] => (C, cnt)
      | lead :: rest => (C.filter (fun l => l.getD y 0 == 0) ++ rest.map (elim y lead), cnt + 1)) := hst
    show SDs _ _ ([.dat (dM C), .dat (.int (cnt : Nat)), .dat (.int (m : Nat)), .dat (.int (y : Nat)), .dat (dM (C.filter fun l => l.getD y 0 != 0)), .un, .un, .un, .un, .un], []) _ _
    refine sds_one (sd_if (td_ne hu (ev 4 rfl (ed_lst (ad_nil ⟨[], rfl, Nat.zero_le _, dM (C.filter fun l => l.getD y 0 != 0), dM [], rfl, rfl, okD_dM _, okD_dM _, _, rfl, fun hb => ?_, fun hb => sds_nil ?_⟩)))))
    rotate_left
    · have hb' : C.filter (fun l => l.getD y 0 != 0) = [] := by
        rw [eqD_dM] at hb
        simpa using hb
      rw [hb'] at hnx
      have hnx : nxt = (C, cnt) := hnx
      refine UpG.by (e0 := [.dat (dM C), .dat (.int (cnt : Nat)), .dat (.int (m : Nat)), .un, .un, .un, .un, .un, .un, .un]) (by show _ = _; rw [hnn, hnx]) ⟨.inl rfl, .inl rfl, .inl rfl, .inr rfl, .inr rfl, .inl rfl, .inl rfl, .inl rfl, .inl rfl, .inl rfl, trivial⟩
    cases hf : C.filter (fun l => l.getD y 0 != 0) with
    | nil =>
      rw [hf, eqD_dM] at hb
      simp at hb
    | cons lead rest =>
      rw [hf] at hnx hhd
      have hnx : nxt = (C.filter (fun l => l.getD y 0 == 0) ++ rest.map (elim y lead), cnt + 1) := hnx
      have okl := ok lead (hhd lead List.mem_cons_self)
      have hrl : rest.length ≤ 4 ∧ (C.filter (fun l => l.getD y 0 == 0)).length ≤ 4 := by
        have h1 : (C.filter (fun l => l.getD y 0 == 0)).length ≤ C.length := List.length_filter_le _ _
        have h3 : (lead :: rest).length ≤ C.length := by
          rw [← hf]
          exact List.length_filter_le _ _
        simp only [List.length_cons] at h3
        have h4 : C.length ≤ L.length := hlen
        omega
      clear hst hf hb
      refine sds_cons (sd_unp (t := .tup [5, 1]) (tg_tup (tgs_cons (tgs_cons tgs_nil nd) nd)) (ed_tup (ad_cons (ed_ix (ev 4 rfl (ed_int ⟨dI lead, atI_nat (j := 0) rfl, ad_cons (ed_add (ev 1 rfl (ed_int (ad_nil ⟨[_, _], rfl, szl (by simp), _, _, rfl, rfl, ?_⟩))))⟩))))))
      show SDs _ _ ([.dat (dM C), .dat (.int ((cnt : Nat) + 1)), .dat (.int (m : Nat)), .dat (.int (y : Nat)), .dat (dM (lead :: rest)), .dat (dI lead), .un, .un, .un, .un], []) _ _
      refine sds_cons (sd_setLc (i := 6) (own := [("line", 7)]) (t := .one 7) nd (blkOk_by (N := nsRank) (sc := defScope s_Lrank) (by decide +kernel)) (fun s H C cl fp => tg_name nd) ?_)
      refine id_list (ev 0 rfl ⟨_, rfl, ?_⟩)
      refine lcd_filter C dI (fun l => l.getD y 0 == 0) dI rfl (szl (by simp at hlen ⊢; omega)) ?_ (fun acc => rfl) ?_
      · intro l hlm acc
        have hll := (ok l hlm).1
        refine ⟨_, rfl, fun s H C cl fp => ?_, fun _ s H C cl fp => ev 7 rfl ⟨rfl, rfl⟩⟩
        exact td_eqI hu (ed_ix (ev 7 rfl (ev 3 rfl ⟨_, get_dM (by omega), ed_int ⟨_, _, rfl, rfl, rfl, rfl⟩⟩)))
      refine .inl ?_
      generalize C.filter (fun l => l.getD y 0 == 0) = Z at *
      show SDs _ _ ([.dat (dM C), .dat (.int ((cnt : Nat) + 1)), .dat (.int (m : Nat)), .dat (.int (y : Nat)), .dat (dM (lead :: rest)), .dat (dI lead), .cel 0, .un, .un, .un], [.lst (Z.map dI)]) _ _
      refine sds_cons (sd_forF (t := .one 7) (tg_name nd) (id_list (ed_of_en (en_slice (ev 4 rfl (od_some (ed_int ⟨1, rfl, od_none ⟨_, rfl, ?_⟩⟩)))))))
      rw [show (lead :: rest).map dI = dI lead :: rest.map dI from rfl, cut_one]
      refine ⟨rest.map dI, rfl, ?_⟩
      refine ⟨fun j c => c = ([.dat (dM C), .dat (.int ((cnt : Nat) + 1)), .dat (.int (m : Nat)), .dat (.int (y : Nat)), .dat (dM (lead :: rest)), .dat (dI lead), .cel 0, .un, .un, .un], [.lst ((Z ++ (rest.take j).map (elim y lead)).map dI)]), .of (by simp), ?_, ?_⟩
      · rintro j c dd hdd rfl
        obtain ⟨ln, hln, rfl⟩ := map_get hdd
        have hj := (List.getElem?_eq_some_iff.mp hln).1
        have okn := ok ln (hhd ln (List.mem_cons_of_mem _ (List.mem_of_getElem? hln)))
        refine ⟨rfl, _, rfl, ?_⟩
        refine sds_one (sd_expr (ed_append (ev 6 rfl ⟨0, _, rfl, rfl, ?_⟩)))
        refine ed_of_en (en_lc (own := [("one", 8), ("two", 9)]) (t := .tup [8, 9]) nd (blkOk_by (N := nsRank) (sc := defScope s_Lrank) (by decide +kernel)) (fun s H C cl fp => tg_tup (tgs_cons (tgs_cons tgs_nil nd) nd)) ?_)
        refine id_zip hz (ev 7 rfl (ev 5 rfl ⟨_, _, rfl, rfl, ?_⟩))
        refine lcd_map (ln.zip lead) (fun p => .tup [.int p.1, .int p.2]) (fun p => .int (lead.getD y 0 * p.1 - ln.getD y 0 * p.2)) (zipD_map _ _ ln lead) (szl (by simp; omega)) ?_ (fun acc => ⟨rfl, rfl⟩) ?_
        · intro p hp acc
          have h1 := okl.2 _ (List.of_mem_zip hp).2
          have h2 := okn.2 _ (List.of_mem_zip hp).1
          refine ⟨_, rfl, fun s H C cl fp => ?_⟩
          refine ed_sub (ed_mul (ed_ix (ev 5 rfl (ev 3 rfl ⟨_, get_dM (by omega), ev 8 rfl ⟨mulB_of (a := 20000) (b := 20000) (Nat.lt_of_lt_of_le (getD_bd okl.2 y) (Nat.pow_le_pow_right (by decide) hb)) (Nat.lt_of_lt_of_le h2 (Nat.pow_le_pow_right (by decide) hb)) (by decide), ?_⟩⟩))))
          exact ed_mul (ed_ix (ev 7 rfl (ev 3 rfl ⟨_, get_dM (by omega), ev 9 rfl ⟨mulB_of (a := 20000) (b := 20000) (Nat.lt_of_lt_of_le (getD_bd okn.2 y) (Nat.pow_le_pow_right (by decide) hb)) (Nat.lt_of_lt_of_le h1 (Nat.pow_le_pow_right (by decide) hb)) (by decide), _, _, rfl, rfl, trivial, rfl, rfl⟩⟩)))
        have eel : (ln.zip lead).map (fun p => D.int (lead.getD y 0 * p.1 - ln.getD y 0 * p.2)) = (elim y lead ln).map D.int := by
          unfold elim
          rw [← List.map_uncurry_zip_eq_zipWith, List.map_map]
          rfl
        refine ⟨_, _, rfl, rfl, szlt (by simp; omega), ?_⟩
        refine UpG.by (e0 := [.dat (dM C), .dat (.int ((cnt : Nat) + 1)), .dat (.int (m : Nat)), .dat (.int (y : Nat)), .dat (dM (lead :: rest)), .dat (dI lead), .cel 0, .un, .un, .un]) ?_ ⟨.inl rfl, .inl rfl, .inl rfl, .inl rfl, .inl rfl, .inl rfl, .inl rfl, .inr rfl, .inl rfl, .inl rfl, trivial⟩
        show (_, _) = (_, _)
        rw [eel, take_snoc hln]
        simp [dI]
      · rintro c rfl
        rw [List.length_map, List.take_length]
        refine ⟨rfl, ?_⟩
        refine sds_one (sd_set (i := 0) (ed_frz (i := 6) (k := 0) rfl rfl (Nat.zero_le _) ?_) nd)
        refine UpG.gc (e0 := [.dat (dM nxt.1), .dat (.int (nxt.2 : Nat)), .dat (.int (m : Nat)), .un, .un, .un, .un, .un, .un, .un]) (M0 := []) (by show _ = _; rw [hnn]) ⟨.inl ?_, .inl ?_, .inl rfl, .inr rfl, .inr rfl, .inr rfl, .inr rfl, .inl rfl, .inl rfl, .inl rfl, trivial⟩ rfl (Nat.zero_le _) (fun e he => ?_)
        · rw [hnx]
          rfl
        · rw [hnx]
          rfl
        · simp at he
          rcases he with rfl | rfl | rfl | rfl <;> exact trivial
  · rintro c rfl
    rw [show (rangeD 0 ((m : Int)).toNat).length = m by simp [rangeD]]
    refine ⟨trivial, sds_one (sd_ret (ev 1 rfl (ret_dat (po0 ?_))))⟩
    unfold rank at hP
    rw [hL] at hP
    exact hP
end
end Fb
set_option Elab.async false
set_option linter.all false
set_option maxRecDepth 100000
set_option maxHeartbeats 4000000
namespace Fb
open PySem L2 Dl
def dT (xs : List Int) : D := .tup (xs.map .int)
section
variable {P : Program} {w : World} {K : PySem.W.Frag} {mg : Str → Option Value} {base : Heap}
end
end Fb
set_option Elab.async false
set_option linter.all false
set_option maxRecDepth 100000
set_option maxHeartbeats 2000000
/-! Dl part 20: == and != by an own __eq__, isinstance of instances. -/
namespace Dl
open PySem L2 PyProof.Rows
/-! ### != of an instance whose class has __eq__ alone -/
section
variable {prog : Program} {w : World} {A A₀ : Around} {E : Value → Shared → Prop} {s : Shared} {K : PySem.W.Frag} {x C L f : Addr} {h₀ : Heap} {m : Str → Option Value} {ox : Obj} {od : Option Obj} {b tb : Value}
theorem isObj {M : Model} (X : K.In s.heap) (I : PySem.W.InstAt s.heap x ox C od) (hob : PySem.W.mroIn K C (.type "object") = some true) : PySem.W.Looks M s.heap (isInstance (.ref x) (.type "object")) true :=
  I.type.andThen (PySem.W.looks_mroIn X hob)
theorem ifNe {args : List Value} {Q : Option Value → Shared → Prop} (X : K.In s.heap) (I : PySem.W.InstAt s.heap x ox C od) (hne : PySem.W.findIn K (.ref C) "__ne__" = some (some (.builtin "object.__ne__")))
    (h : wpAny (model prog w) A (call (.builtin "object.__ne__") (.ref x :: args)) (fun v => Q (some v)) E s) : wpAny (model prog w) A (callSpecialIfBound? (.ref x) "__ne__" args) Q E s := by
  have S := PySem.F.cmp_object.ne
  simp only [callSpecialIfBound?, bindSpecialIfBound?]
  refine wpAny_holding (wpAny_bind (wpAny_bind (wpAny_bind (I.type.here ((PySem.W.looks_findIn X hne).here ?_)))))
  simp only [S.bind]
  refine wpAny_bind (wpAny_askSetting (wpAny_ite ?_))
  have fin : wpAny (model prog w) A (call (.builtin "object.__ne__") ([.ref x] ++ args) >>= fun v => pure (some v)) Q E s := wpAny_bind (wpAny_mono h (fun v s' z => wpAny_pure z) fun _ _ z => z)
  split
  · exact wpAny_bind (wpAny_pure (wpAny_pure fin))
  · exact wpAny_tryCatch (wpAny_bind (wpAny_pure (wpAny_pure fin)))
/-- x != b: the turned answer of the own __eq__ -/
theorem ne_own {Q : Value → Shared → Prop} (hu : A.units + 1 < cLine) (F : Fr h₀ L s.heap m) (X₀ : K.In h₀) (I : PySem.W.InstAt s.heap x ox C od) (hb : PySem.W.Looks (model prog w) s.heap (typeOf b) tb) (hn : PySem.W.notFirst K C tb = true)
    (hob : PySem.W.mroIn K C (.type "object") = some true) (hne : PySem.W.findIn K (.ref C) "__ne__" = some (some (.builtin "object.__ne__"))) (hs : PySem.W.findIn K (.ref C) "__eq__" = some (some (.ref f))) (hf : PySem.W.isFn K (.ref f) = true)
    (h : wpAny (model prog w) A.in1 (call (.ref f) [.ref x, b]) (fun v s' => ∃ r, v = .bool r ∧ Q (.bool (!r)) s') E s) : wpAny (model prog w) A (richCompare .NotEq (.ref x) b) Q E s := by
  have X := X₀.keeps F.keep
  have SF := PySem.F.cmp_object.ne
  have inner : ∀ (Z : Fin → Shared → Prop), (∀ r s', Q (.bool (!r)) s' → Z (.done (.ret (.bool (!r)))) s') → wpAny (model prog w) A.in1 (Builtin.«object.__ne__» ⟨[.ref x, b], []⟩) Z E s := by
    intro Z hZ
    unfold Builtin.«object.__ne__»
    have hu1 : A.in1.units < cLine := hu
    repeat (first
      | with_reducible refine wpAny_cRoomFor hu1 ?_
      | (refine wpAny_bind (m := callSpecialIfBound? (.ref x) (Str.ofString "__eq__") [b])
          (PySem.W.ifBound_K X I hs hf (wpAny_mono h (fun r s' hr => by
            obtain ⟨b, rfl, hq⟩ := hr
            have z := hZ b s' hq
            repeat (first | exact z | exact wpAny_pure z | (refine wpAny_bind (m := truthy (.bool _)) (wpAny_truthy_bool ?_)) | wp_step)) fun _ _ e => e)))
      | wp_step)
  have one : wpAny (model prog w) A (tryCompare (.ref x) "__ne__" b) (fun r s' => ∃ v, r = some v ∧ Q v s') E s := by
    unfold tryCompare
    refine wpAny_bind (ifNe X I hne (wpAny_call (codeAny_call_builtin SF.plain PySem.F.cmpEntry_ne
      (PySem.W.check_slot PySem.F.cmpKind_ne PySem.F.cmpSplit_ne (isObj X I hob) (PySem.F.cmpArgs_ne _ _) (inner _ fun r s' q => ?_)))))
    exact wpAny_pure ⟨_, rfl, q⟩
  unfold richCompare
  simp only [oneThing_ref]
  refine wpAny_holding (wpAny_bind (wpAny_cRoomFor (Nat.lt_of_succ_lt hu) ?_))
  refine wpAny_bind (I.type.here (wpAny_bind (hb.here ?_)))
  split
  · rename_i q
    have e : PySem.W.subIn K tb (.ref C) = some false := (Bool.or_eq_true_iff.mp hn).elim (fun e => by rw [beq_iff_eq.mp e] at q; simp at q) fun e => beq_iff_eq.mp e
    refine wpAny_bind ((PySem.W.looks_subIn X e).here ?_)
    simp only [Bool.false_eq_true, if_false]
    exact wpAny_bind (wpAny_mono one (fun r s' z => by obtain ⟨v, rfl, q⟩ := z; exact wpAny_pure q) fun _ _ e => e)
  · refine wpAny_bind (wpAny_pure ?_)
    simp only [Bool.false_eq_true, if_false]
    exact wpAny_bind (wpAny_mono one (fun r s' z => by obtain ⟨v, rfl, q⟩ := z; exact wpAny_pure q) fun _ _ e => e)
end
/-! ### the rules -/
/-- a class with its own __eq__, f -/
structure OwnC (K : PySem.W.Frag) (C f : Addr) : Prop where
  eq : PySem.W.findIn K (.ref C) "__eq__" = some (some (.ref f))
  fn : PySem.W.isFn K (.ref f) = true
  ne : PySem.W.findIn K (.ref C) "__ne__" = some (some (.builtin "object.__ne__"))
  ob : PySem.W.mroIn K C (.type "object") = some true
/-- a class whose instances isinstance is asked of -/
structure IsC (K : PySem.W.Frag) (C : Addr) : Prop where
  cg : PySem.W.findIn K (.ref C) "__class__" = some (some (.builtin "object.__class__"))
  sp : PySem.W.specialIn K (.builtin "object.__class__") "__get__" = some (some (.builtin "getset_descriptor.__get__"))
  tk : PySem.W.takesIn K (.builtin "object.__class__") = some true
  ob : PySem.W.mroIn K C (.type "object") = some true
structure OwnG (P : Program) (w : World) (K : PySem.W.Frag) (mg : Str → Option Value) (base : Heap) (k : Nat) (C : Addr) (F : Ct) : Prop where
  ex : ∃ f fd ps, FnOk P w K mg base CX0 k f fd ps (SpD K F) ∧ OwnC K C f ∧ Binds K fd ps []
def FO (K : PySem.W.Frag) (C : Addr) (qual : Str) (st : Stmt) : Prop := ∃ f, FunX K "__eq__" qual st f ∧ OwnC K C f
section
variable {K : PySem.W.Frag} {f C : Addr} {qual : Str} {st : Stmt} {oc : Value} {od an : Option Addr} {osl : Array (Option Value)} {kV doc pm cdv ct : Value}
theorem fx_own (a : PySem.W.findIn K (.ref C) "__eq__" = some (some (.ref f))) (i : PySem.W.isFn K (.ref f) = true) (e : PySem.W.findIn K (.ref C) "__ne__" = some (some (.builtin "object.__ne__"))) (o : PySem.W.mroIn K C (.type "object") = some true)
    (l : K.lookup f = some ⟨oc, od, .func (PySem.W.fnOf "__eq__" qual (defArgs st) (defBody st) (defScope st) .none kV doc pm an cdv ct), osl⟩) (c : PySem.W.codeIn K cdv qual = true) (k : PySem.W.keepIn K (.ref f) = true) : FO K C qual st :=
  ⟨f, ⟨_, fun_mk l c k⟩, ⟨a, i, e, o⟩⟩
variable {Pg : Program} {w : World} {mg : Str → Option Value} {base : Heap} {N ps : List Str} {k : Nat} {F : Ct}
theorem ownG_of (fx : FunX K "__eq__" qual st f) (oc : OwnC K C f) (S : FnScope N ps (defScope st)) (hb : BindOk "__eq__" qual st ps) (hl : ∀ args M P, F args M P → args.length = ps.length) (body : BodyOk Pg w K mg base k N ps qual st f F) : OwnG Pg w K mg base (k + 1) C F := by
  obtain ⟨fd, Fn⟩ := fx.ex
  exact ⟨f, fd, ps, fn_okD Fn S hl body, oc, Fn.binds hb⟩
end
section
variable {X : Cx} {n : Nat} {env : EnvD} {M : Mem} {c : Conf} {P : PP} {e a b o : Expr} {pos : Pos} {k : Nat} {F : Ct} {C : Addr}
/-- two instances, the first one's own __eq__ is asked -/
def rOwn (K : PySem.W.Frag) (C : Addr) (F : Ct) (neg : Bool) : R2 := fun x y H Q => ∃ a b C2 dx dy fs gs, x = .ref a ∧ y = .ref b ∧ H a = some (.ins C dx fs) ∧ H b = some (.ins C2 dy gs) ∧ PySem.W.notFirst K C (.ref C2) = true ∧
  SpD K F [x, y] H (fun v H' => ∃ r, v = .bl r ∧ Q (.bl (xor neg r)) H') fun _ _ _ => False
theorem op_own (G : OwnG X.prog X.w X.K X.mg X.base k C F) (hr : Room k X.A) : OpR X (compareOp .Eq) (rOwn X.K C F false) := by
  obtain ⟨f, fd, ps, G, oc, hb⟩ := G.ex
  intro pins s σ H x y v u Q I rx ry hq
  obtain ⟨a, b, C2, dx, dy, fs, gs, rfl, rfl, ha, hb', nf, hsp⟩ := hq
  obtain rfl : v = Value.ref a := rx
  obtain rfl : u = Value.ref b := ry
  obtain ⟨mA, J, _⟩ := ins_get I.hok ha
  obtain ⟨mB, J', _⟩ := ins_get I.hok hb'
  obtain ⟨od, J, _⟩ := J.look
  obtain ⟨od', J', _⟩ := J'.look
  obtain ⟨m, hF⟩ := I.fr
  show wpAny (model X.prog X.w) X.A (richCompare .Eq (.ref a) (.ref b)) (EP X pins σ Q) X.xe s
  refine PySem.W.cmp_K (op := .Eq) (tb := .ref C2) hr.units0 hF I.ok.mod.kin J J'.type nf oc.eq oc.fn ?_
  refine wpAny_mono (run_fn (us := [.ref a, .ref b]) (vs := [.ref a, .ref b]) G hr hb .nil pass0 I (.cons rfl (.cons rfl .nil)) hsp) (fun u s' z => ?_) fun _ _ z => z
  obtain ⟨w, H', I', rw', r, rfl, q⟩ := z
  obtain rfl : u = Value.bool r := rw'
  exact ⟨.bl r, H', I', rfl, by simpa using q⟩
theorem op_ownN (G : OwnG X.prog X.w X.K X.mg X.base k C F) (hr : Room (k + 1) X.A) : OpR X (compareOp .NotEq) (rOwn X.K C F true) := by
  obtain ⟨f, fd, ps, G, oc, hb⟩ := G.ex
  intro pins s σ H x y v u Q I rx ry hq
  obtain ⟨a, b, C2, dx, dy, fs, gs, rfl, rfl, ha, hb', nf, hsp⟩ := hq
  obtain rfl : v = Value.ref a := rx
  obtain rfl : u = Value.ref b := ry
  obtain ⟨mA, J, _⟩ := ins_get I.hok ha
  obtain ⟨mB, J', _⟩ := ins_get I.hok hb'
  obtain ⟨od, J, _⟩ := J.look
  obtain ⟨od', J', _⟩ := J'.look
  obtain ⟨m, hF⟩ := I.fr
  show wpAny (model X.prog X.w) X.A (richCompare .NotEq (.ref a) (.ref b)) (EP X pins σ Q) X.xe s
  refine ne_own (tb := .ref C2) (by have := hr.units; omega) hF I.ok.mod.kin J J'.type nf oc.ob oc.ne oc.eq oc.fn ?_
  have hl := G.len _ _ _ _ hsp
  have e0 : Env0 X.prog X.w X.K X.mg X.base X.A.in1 X.stack s H := I.env0.in1
  refine wpAny_call (codeAny_mono (G.run X.A.in1 X.stack s H ⟨[.ref a, .ref b], []⟩ [.ref a, .ref b] [.ref a, .ref b] _ (fun _ _ _ => False) hr.in1 e0 (by
    have z := hb s [.ref a, .ref b] I.kIn (by simpa using hl)
    simpa using z) (.cons rfl (.cons rfl .nil)) hsp) fun r s' hq => ?_)
  cases r with
  | error e => exact pass0 (X := X) pins σ H s e s' I hq
  | ok fl =>
    cases fl with
    | ret w =>
      obtain ⟨z, H', I', rz, r, rfl, q⟩ := I.after hq
      obtain rfl : w = Value.bool r := rz
      exact ⟨r, rfl, .bl (!r), H', I', rfl, by simpa using q⟩
    | next => exact False.elim hq
    | brk => exact False.elim hq
    | cont => exact False.elim hq
/-- what is asked of ==, != : instances, arguments, what the own __eq__ does -/
def fOwn (K : PySem.W.Frag) (C : Addr) (F : Ct) (neg : Bool) (r1 r2 : EI) (M : Mem) (P : PP) : Prop :=
  (∃ fs ds, rdD M r1 = some (.ins C fs ds)) ∧ (∃ C2 fs ds, rdD M r2 = some (.ins C2 fs ds) ∧ PySem.W.notFirst K C (.ref C2) = true) ∧
    ∃ ρ args, CallAt ρ args [r1, r2] M ∧ F args (selM M ρ) fun fr d M' => fr = false ∧ ∃ b, d = .bl b ∧ P (.dat (.bl (xor neg b))) (updM M ρ M')
theorem od_own {K : PySem.W.Frag} {neg : Bool} : OpD K (rOwn K C F neg) (fOwn K C F neg) := by
  intro B as env M σ H r1 r2 v1 v2 Cf o1 o2 P ⟨⟨fs, ds, e1⟩, ⟨C2, gs, es, e2, nf⟩, ρ, args, ca, hF⟩ Q q
  obtain ⟨p, dx, us, rfl, h1, _, _⟩ := rd_ins Cf o1 e1
  obtain ⟨p2, dy, ws, rfl, h2, _, _⟩ := rd_ins Cf o2 e2
  refine ⟨p, p2, C2, dx, dy, us, ws, rfl, rfl, h1, h2, nf, ?_⟩
  have ov : VsOk K (Ne B as M) H as [r1, r2] [.ref p, .ref p2] := ⟨_, _, rfl, o1, _, _, rfl, o2, rfl⟩
  refine ⟨_, _, _, _, _, Cf.entry ca ov, hF, fun fr d M' ⟨efr, b, ed, pb⟩ v H' ex => ?_⟩
  subst efr
  subst ed
  obtain ⟨C2', dv, _⟩ := Cf.exit ca ex
  exact ⟨b, dv, q _ _ _ as H' pb ⟨List.prefix_refl _, C2'⟩ rfl⟩
theorem ed_own (G : OwnG X.prog X.w X.K X.mg X.base k C F) (hr : Room k X.A) (h : ED n X (env, M) a fun r1 M1 => ED n X (env, M1) b fun r2 M2 => fOwn X.K C F false r1 r2 M2 P) : ED n X (env, M) (.Compare a [.Eq] [b] pos) P := ed_cmpR (op_own G hr) od_own h
theorem ed_ownN (G : OwnG X.prog X.w X.K X.mg X.base k C F) (hr : Room (k + 1) X.A) (h : ED n X (env, M) a fun r1 M1 => ED n X (env, M1) b fun r2 M2 => fOwn X.K C F true r1 r2 M2 P) : ED n X (env, M) (.Compare a [.NotEq] [b] pos) P := ed_cmpR (op_ownN G hr) od_own h
theorem td_own {P : Bool → Mem → Prop} (G : OwnG X.prog X.w X.K X.mg X.base k C F) (hr : Room k X.A) (h : ED n X (env, M) a fun r1 M1 => ED n X (env, M1) b fun r2 M2 => fOwn X.K C F false r1 r2 M2 (isB P)) : TD n X (env, M) (.Compare a [.Eq] [b] pos) P := td_cmpR (op_own G hr) od_own h
theorem td_ownN {P : Bool → Mem → Prop} (G : OwnG X.prog X.w X.K X.mg X.base k C F) (hr : Room (k + 1) X.A) (h : ED n X (env, M) a fun r1 M1 => ED n X (env, M1) b fun r2 M2 => fOwn X.K C F true r1 r2 M2 (isB P)) : TD n X (env, M) (.Compare a [.NotEq] [b] pos) P := td_cmpR (op_ownN G hr) od_own h
/-- isinstance(a, C2), a an instance -/
theorem ed_isi {x : Str} {C2 : Addr} {p p2 : Pos} (hm : X.mg "isinstance" = none) (hc : X.mg x = some (.ref C2)) (h : ED n X (env, M) a fun r M1 => ∃ C fs ds r', rdD M1 r = some (.ins C fs ds) ∧ Cls X.K C ∧ IsC X.K C ∧ PySem.W.kitOne X.K (.ref C) (.ref C2) = some r' ∧ P (.dat (.bl r')) M1)
    (hg : Gl X "isinstance" := by rfl) (hg2 : Gl X x := by rfl) (hdb : (x == ("__debug__" : Str)) = false := by decide) (he : starEach (a :: [.Name x p2]) X.env = (false, eval a X.env) :: starEach [.Name x p2] X.env := by rfl) (he2 : starEach (.Name x p2 :: []) X.env = (false, eval (.Name x p2) X.env) :: starEach [] X.env := by rfl)
    (hpl : (backTo pos (starEach [.Name x p2] X.env)).any (·.1) = false := by rfl) : ED n X (env, M) (.Call (.Name "isinstance" p) [a, .Name x p2] [] pos) P :=
  ed_lift (pe_callB call_isi hg hm PyProof.Rows.Boot.«isinstance» (pa_cons wpE_ok (pa_cons (pe_glob (v := .ref C2) hg2 hc rfl hdb) pa_nil he2) he) (by decide) (by decide) he hpl) fun B as σ H hb Cf Q q => by
    refine h B as σ H hb Cf _ fun r v M1 as1 H1 h1 C1 o1 => ?_
    obtain ⟨C, fs, ds, r', e, cl, ic, ko, pb⟩ := h1
    obtain ⟨p, dx, us, rfl, hp, _, _⟩ := rd_ins C1.cf o1 e
    exact ⟨.ref p, .ref C2, .ref C, .ref C2, r', rfl, .own C2, .base (.ins hp cl ic.cg ic.sp ic.tk ic.ob), ko, q _ _ _ as1 H1 pb C1 rfl⟩
theorem kit_same {K : PySem.W.Frag} : PySem.W.kitOne K (.ref C) (.ref C) = some true := by
  unfold PySem.W.kitOne
  rw [if_pos (by simp)]
theorem nf_same {K : PySem.W.Frag} : PySem.W.notFirst K C (.ref C) = true := by simp [PySem.W.notFirst]
end
end Dl
set_option Elab.async false
set_option linter.all false
set_option maxRecDepth 100000
set_option maxHeartbeats 2000000
/-! Dl part 21: repr of data, wide ints among them. -/
namespace Dl
open PySem L2 PyProof.Rows
mutual
/-- what repr tells: ints of at most 4300 digits, no dicts -/
def wide : PyData → Bool
  | .int i => decide (i.natAbs < 10 ^ 4300)
  | .list xs => wides xs
  | .tuple xs => wides xs
  | .dict _ => false
  | _ => true
def wides : List PyData → Bool
  | [] => true
  | x :: xs => wide x && wides xs
end
/-- None, a list or a tuple -/
def topS : PyData → Bool
  | .none => true
  | .list _ => true
  | .tuple _ => true
  | _ => false
section
variable {prog : Program} {w : World} {A : Around} {E : Value → Shared → Prop} {s : Shared} {h₀ : Heap}
theorem repr_wide {a : Int} {t : Tok} {Q : Value → Shared → Prop} (hn : s.heap.NoDigits) (ha : a.natAbs < 10 ^ 4300) (hu : A.units < cLine) (q : ∀ u tk, Q (.str (toString a) u) { s with toks := tk }) : wpAny (model prog w) A (pyReprObj (.int a t)) Q E s := by
  refine wpAny_pyReprObj_slot hu (typeIs_int s a t) F.slot_int_repr.toG ?_
  refine wpAny_call (codeAny_call_builtin F.slot_int_repr.plain F.entry_int_repr (F.slot_int_repr.check _ _ _ _ _ _ _ _ (typeIs_int s a t) (F.args_int_repr_1 _) ?_))
  unfold Builtin.«int.__repr__»
  show wpAny _ _ (do let r ← Builtin.overDigitLimit? a; _) _ _ s
  refine wpAny_bind (overDigitLimit_any hn (fun hlt => ?_) (fun hge => absurd ha (Nat.not_lt.mpr hge)))
  exact wpAny_bind (wpAny_mkStr (wpAny_pure ⟨_, _, rfl, q _ _⟩) (int_text_fits10 hlt))
theorem rk_int {a : Int} {t : Tok} {as : List Addr} {d : Nat} (hn : h₀.NoDigits) (ha : a.natAbs < 10 ^ 4300) : ReprK prog w as h₀ d (.int a t) (toString a) := by
  intro base hb A g E s Q hg hcl hu hk hQ
  rw [pyReprUnder_leaf (v := .int a t) (by omega) (fun _ e => nomatch e)]
  unfold pyRepr
  exact wpAny_bind (repr_wide (hn.keeps hk) ha (by omega) fun u tk => wpAny_pure (hQ s.heap tk fun _ _ z => z))
mutual
theorem rk (hn : h₀.NoDigits) : ∀ (d : PyData) (v : Value) (as : List Addr), Reads h₀ v d as → wide d = true → d.shown.length ≤ sizeLine → ∃ bs, ReadAtMost h₀ d.depth bs ∧ ReprK prog w bs h₀ d.depth v d.shown
  | .none, _, _, r, _, _ => by
    cases r
    refine ⟨[], (fun _ z => nomatch z), ?_⟩
    simp only [PyData.shown]
    exact .of_is ReprIs.none _ _ _
  | .bool b, _, _, r, _, _ => by
    cases r
    refine ⟨[], (fun _ z => nomatch z), ?_⟩
    simp only [PyData.shown]
    exact .of_is (ReprIs.bool b) _ _ _
  | .int i, _, _, r, k, _ => by
    cases r
    refine ⟨[], (fun _ z => nomatch z), ?_⟩
    simp only [PyData.shown]
    exact rk_int hn (by simpa [wide] using k)
  | .str x, _, _, r, _, z => by
    cases r
    refine ⟨[], (fun _ z => nomatch z), ?_⟩
    simp only [PyData.shown] at z ⊢
    exact .of_is (ReprIs.str x _ z) _ _ _
  | .list xs, v, _, r, k, z => by
    have r0 := r
    cases r with
    | @list a o vs n _ as h1 h2 h3 h4 =>
      simp only [PyData.shown] at z
      obtain ⟨bs, hb, hk⟩ := rks hn xs vs.toList as h4 (by simpa [wide] using k) fun t ht => Nat.le_trans (listText_mem_le ht) z
      have hna : a ∉ bs := not_mem_of_deeper r0 (by simp only [PyData.depth]; omega) hb
      refine ⟨a :: bs, ReadAtMost.cons r0 (by simp only [PyData.depth]; omega) hb, ?_⟩
      simp only [PyData.depth, PyData.shown]
      obtain ⟨l⟩ := vs
      cases l with
      | nil =>
        have h5 : ReadsAll h₀ [] xs as := h4
        cases h5
        rw [show PyData.shownAll [] = [] from rfl, listText_nil]
        exact ReprK.listEmpty h1 h2 h3
      | cons x l => exact ReprK.list h1 h2 h3 hna (by simpa using hk.length_eq) fun i y e => hk.item i y (by simpa using e)
  | .tuple xs, v, _, r, k, z => by
    have r0 := r
    cases r with
    | @tuple a o vs n _ as h1 h2 h3 h4 =>
      simp only [PyData.shown] at z
      obtain ⟨bs, hb, hk⟩ := rks hn xs vs.toList _ h4 (by simpa [wide] using k) fun t ht => Nat.le_trans (tupleText_mem_le ht) z
      have hna : a ∉ bs := not_mem_of_deeper r0 (by simp only [PyData.depth]; omega) hb
      refine ⟨a :: bs, ReadAtMost.cons r0 (by simp only [PyData.depth]; omega) hb, ?_⟩
      simp only [PyData.depth, PyData.shown]
      exact ReprK.tuple h1 h2 h3 hna hk
  | .dict _, _, _, _, k, _ => by simp [wide] at k
theorem rks (hn : h₀.NoDigits) : ∀ (ds : List PyData) (vs : List Value) (as : List Addr), ReadsAll h₀ vs ds as → wides ds = true → (∀ t ∈ PyData.shownAll ds, t.length ≤ sizeLine) → ∃ bs, ReadAtMost h₀ (PyData.depthAll ds) bs ∧ ReprAllK prog w bs h₀ (PyData.depthAll ds) vs (PyData.shownAll ds)
  | [], _, _, r, _, _ => by
    cases r
    exact ⟨[], (fun _ z => nomatch z), by simp only [PyData.shownAll]; exact .nil⟩
  | d :: ds, _, _, r, k, z => by
    cases r with
    | cons r1 r2 =>
      have k' : wide d = true ∧ wides ds = true := by simpa [wides] using k
      obtain ⟨b1, hb1, k1⟩ := rk hn d _ _ r1 k'.1 (z _ (by simp only [PyData.shownAll]; exact List.mem_cons_self ..))
      obtain ⟨b2, hb2, k2⟩ := rks hn ds _ _ r2 k'.2 fun t ht => z t (by simp only [PyData.shownAll]; exact List.mem_cons_of_mem _ ht)
      refine ⟨b1 ++ b2, (hb1.mono (Nat.le_max_left _ _)).append (hb2.mono (Nat.le_max_right _ _)), ?_⟩
      simp only [PyData.depthAll, PyData.shownAll]
      exact .cons ((k1.more fun b hb => List.mem_append_left _ hb).level_le (Nat.le_max_left _ _)) (k2.more_le (fun b hb => List.mem_append_right _ hb) (Nat.le_max_right _ _))
end
/-- repr(v) -/
theorem call_reprW {v : Value} {d : PyData} {as : List Addr} {Q : Value → Shared → Prop} (r : Reads s.heap v d as) (k : wide d = true) (ht : topS d = true) (z : d.shown.length ≤ sizeLine) (hn : s.heap.NoDigits) (hg : A.guards = some []) (hu : A.units + d.depth + 2 < cLine)
    (q : ∀ h' u tk, (∀ b o, s.heap.get? b = some o → h'.get? b = some o) → Q (.str d.shown u) { s with heap := h', toks := tk }) : wpAny (model prog w) A (call (.builtin "repr") [v]) Q E s := by
  cases d with
  | none =>
    cases r
    simp only [PyData.shown] at q
    refine call_repr_slot (by omega) (typeIs_none s) F.slot_NoneType_repr.toG ?_
    exact call_gives F.slot_NoneType_repr (typeIs_none s) F.entry_NoneType_repr (F.args_NoneType_repr_1 _) gives_none_repr ⟨by decide, ⟨_, _, rfl, q _ _ _ fun _ _ z => z⟩⟩
  | list xs =>
    have r0 := r
    cases r with
    | @list a o vs n _ as h1 h2 h3 h4 =>
      simp only [PyData.shown] at z q
      obtain ⟨bs, hb, hk⟩ := rks (prog := prog) (w := w) hn xs vs.toList as h4 (by simpa [wide] using k) fun t ht => Nat.le_trans (listText_mem_le ht) z
      have hna : a ∉ bs := not_mem_of_deeper r0 (by simp only [PyData.depth]; omega) hb
      simp only [PyData.depth] at hu
      refine call_repr_slot (by omega) ⟨o, h1, h2⟩ F.slot_list_repr.toG ?_
      obtain ⟨l⟩ := vs
      cases l with
      | nil =>
        have h5 : ReadsAll s.heap [] xs as := h4
        cases h5
        rw [show PyData.shownAll [] = [] from rfl, listText_nil] at q
        exact call_list_repr_empty ⟨o, h1, h2⟩ h1 h3 ⟨_, _, rfl, q _ _ _ fun _ _ z => z⟩
      | cons x l =>
        exact call_list_reprK (A := A.in1) h1 h2 h3 hna (by simpa using hk.length_eq) (fun i y e => hk.item i y (by simpa using e)) hg (fun b _ => Clear.nil b) (by show A.units + 1 + _ < cLine; omega) (fun _ _ z => z) (fun h' u tk hk' => ⟨_, _, rfl, q h' u tk hk'⟩) z
  | tuple xs =>
    have r0 := r
    cases r with
    | @tuple a o vs n _ as h1 h2 h3 h4 =>
      simp only [PyData.shown] at z q
      obtain ⟨bs, hb, hk⟩ := rks (prog := prog) (w := w) hn xs vs.toList _ h4 (by simpa [wide] using k) fun t ht => Nat.le_trans (tupleText_mem_le ht) z
      have hna : a ∉ bs := not_mem_of_deeper r0 (by simp only [PyData.depth]; omega) hb
      simp only [PyData.depth] at hu
      exact call_repr_slot (by omega) ⟨o, h1, h2⟩ F.slot_tuple_repr (call_tuple_reprK (A := A.in1) h1 h2 h3 hna hk hg (fun b _ => Clear.nil b) (by show A.units + 1 + _ < cLine; omega) (fun _ _ z => z) (fun h' u tk hk' => ⟨_, _, rfl, q h' u tk hk'⟩) z)
  | dict _ => simp [wide] at k
  | _ => simp [topS] at ht
end
section
variable {X : Cx} {n : Nat} {env : EnvD} {M : Mem} {P : PP} {a : Expr} {p pos : Pos}
/-- what repr tells of data -/
def shD (d : D) : Str := (toPy d).shown
/-- repr(a) -/
theorem ed_repr (hm : X.mg "repr" = none) (hn : X.base.NoDigits) (hgd : X.A.guards = some []) (hu : X.A.units + 130 < cLine) (h : ED n X (env, M) a fun r M1 => ∃ d, rdD M1 r = some d ∧ pure0 d = true ∧ wide (toPy d) = true ∧ topS (toPy d) = true ∧ (toPy d).depth ≤ 64 ∧ (shD d).length ≤ sizeLine ∧ P (.dat (.str (shD d))) M1)
    (hg : Gl X "repr" := by rfl) (he : starEach (a :: []) X.env = (false, eval a X.env) :: starEach [] X.env := by rfl) (hpl : (backTo pos (starEach [] X.env)).any (·.1) = false := by rfl) : ED n X (env, M) (.Call (.Name "repr" p) [a] [] pos) P := by
  have hc : CallR X (.builtin "repr") (fun xs H Q => ∃ v d, xs = [v] ∧ Dp X.K H v d ∧ wide d = true ∧ topS d = true ∧ d.depth ≤ 64 ∧ d.shown.length ≤ sizeLine ∧ Q (.str d.shown) H) := by
    intro pins s σ H xs us Q I r hq
    obtain ⟨v, d, rfl, dp, k, ht, dd, z, q⟩ := hq
    cases r with
    | cons r1 r2 =>
      cases r2
      obtain ⟨as, rd⟩ := Dp.reads I d v _ dp r1
      refine call_reprW rd k ht z (hn.keeps I.bk) hgd (by omega) fun h' u tk hk => ?_
      exact ⟨.str d.shown, H, I.kept (t' := tk) hk, ⟨u, rfl⟩, q⟩
  refine ed_b1 hc (F := fun r M P => ∃ d, rdD M r = some d ∧ pure0 d = true ∧ wide (toPy d) = true ∧ topS (toPy d) = true ∧ (toPy d).depth ≤ 64 ∧ (shD d).length ≤ sizeLine ∧ P (.dat (.str (shD d))) M) ?_ hm h (by decide +kernel) hg (by decide) (by decide) he hpl
  intro B as env M σ H r1 v1 Cf o P ⟨d, e, h1, h2, h3, h4, h5, pp⟩ Q q
  exact ⟨v1, toPy d, rfl, Cf.rd_dp o e h1, h2, h3, h4, h5, q _ _ M as H pp Cf.g rfl⟩
end
end Dl
set_option Elab.async false
set_option linter.all false
set_option maxRecDepth 100000
set_option maxHeartbeats 2000000
/-! Dl part 22: defs that are called where no repr runs (repr asks of it). -/
namespace Dl
open PySem L2 PyProof.Rows
/-- FnOk, where the guards around are known: none -/
structure FnOkR (P : Program) (w : World) (K : PySem.W.Frag) (mg : Str → Option Value) (base : Heap) (k : Nat) (f : Addr) (fd : FuncData) (ps : List Str) (sp : Sp) : Prop where
  len : ∀ vs H Q E, sp vs H Q E → vs.length = ps.length
  run : ∀ (A : Around) (outer : List Env) (s : Shared) (H : Hp) (args : Args) (us : List Value) (vs : List V) (Q : VK) (E : XK), A.guards = some [] → Room k A → Env0 P w K mg base A outer s H → BindsTo s fd args (ps.zip us) → Vals vs us → sp vs H Q E →
    codeAny (model P w) A (.call (.ref f) args) (CR CX0 outer P w H s Q E) s
section
variable {P : Program} {w : World} {K : PySem.W.Frag} {mg : Str → Option Value} {base : Heap} {F : Ct} {x qual : Str} {st : Stmt} {f : Addr} {fd : FuncData} {N ps : List Str} {k : Nat}
/-- a body, from the entry on -/
theorem body_run {X : Cx} (hXK : X.K = K) (S : FnScope N ps (defScope st)) {vs : List V} {H : Hp} {Q : VK} {N0 : Addr → Prop} {as : List Addr} {args : List EI} {M : Mem} {P0 : Bool → D → Mem → Prop} (en : EntryOk K N0 as args M vs H) (ha : args.length = ps.length)
    (hP : ∀ fr d M', P0 fr d M' → ∀ v H', ExitOk K N0 as H fr d M' v H' → Q v H') (body : SDs M.length X (args ++ List.replicate (N.length - ps.length) .un, M) (defBody st) (PoOf M.length P0)) : wpSs X (defBody st) { nx := fun _ H' => Q .non H', rt := Q } (start N vs) H := by
  subst hXK
  have hv := en.vals.length
  have hnl : ps.length ≤ N.length := by
    rw [← S.pre, List.length_take]
    exact Nat.min_le_right _ _
  have C0 : CF X.K ⟨N0, H, as, []⟩ as (args ++ List.replicate (N.length - ps.length) .un, M) (start N vs) H := by
    have ne : ∀ a, Ne ⟨N0, H, as, []⟩ as M a → N0 a := fun a z => by
      rcases z with z | ⟨k, c, e1, _, _⟩
      · exact z
      · exact en.inN a (List.mem_of_getElem? e1)
    have hvs : ∀ (args : List EI) (vs : List V) (i : Nat) (e : EI), VsOk X.K N0 H as args vs → args[i]? = some e → ∃ v, vs[i]? = some v ∧ VOk X.K N0 H as e v := by
      intro args
      induction args with
      | nil => intro vs i e _ h; simp at h
      | cons r rs ih =>
        intro vs i e h1 h2
        obtain ⟨v, us, rfl, o, t⟩ := h1
        cases i with
        | zero =>
          simp at h2
          subst h2
          exact ⟨v, rfl, o⟩
        | succ i => exact ih us i e t (by simpa using h2)
    have kp : Kp N0 (Ne ⟨N0, H, as, []⟩ as M) H H := ⟨fun a z => .inl (ne a z), fun _ _ _ z => z⟩
    refine { len := en.len, nd := en.nd, nb := en.n0, n0 := en.n0, a0 := fun a z => en.n0 a (en.inN a z), pre := List.prefix_refl _, cells := fun i a y e1 e2 => (en.cells i a y e1 e2).mono ne, sl := ?_, slots := fun i e z => ?_, frame := fun a o e _ => e, fresh := fun i a e hi => ?_, gh := fun g hg => by cases hg }
    · simp [L2.start]
      omega
    · have z : (args ++ List.replicate (N.length - ps.length) EI.un)[i]? = some e := z
      by_cases hi : i < args.length
      · rw [List.getElem?_append_left hi] at z
        obtain ⟨v, e1, o⟩ := hvs args vs i e en.vals z
        refine ⟨some v, ?_, SlOk.of (o.kp kp (List.prefix_refl _))⟩
        unfold L2.start
        rw [List.getElem?_append_left (by rw [List.length_map, ← hv]; exact hi), List.getElem?_map, e1]
        rfl
      · rw [List.getElem?_append_right (by omega)] at z
        have z2 := List.getElem?_eq_some_iff.mp z
        obtain ⟨h3, h4⟩ := z2
        rw [List.getElem_replicate] at h4
        subst h4
        refine ⟨none, ?_, trivial⟩
        unfold L2.start
        simp at h3
        rw [List.getElem?_append_right (by rw [List.length_map]; omega)]
        rw [List.getElem?_eq_getElem (by simp; omega), List.getElem_replicate]
    · have hi : as.length ≤ i := hi
      have := (List.getElem?_eq_some_iff.mp e).1
      omega
  have exit : ∀ (fr : Bool) (d : D) (c' : Conf) (as' : List Addr) (σ' : L2.St) (H' : Hp) (v : V), P0 fr d (c'.2.take M.length) → (∀ x ∈ c'.2.take M.length, x.live = true) → CG X.K ⟨N0, H, as, []⟩ as as' c' σ' H' → RetOk X.K M.length ⟨N0, H, as, []⟩ as' c'.2 H' fr d v → Q v H' := fun fr d c' as' σ' H' v hp lv C' ro => by
    obtain ⟨r, er⟩ := C'.px
    have hl' : as'.length = c'.2.length := C'.cf.len
    have al : as.length = M.length := en.len
    have ale : as.length ≤ c'.2.length := by rw [← hl', ← er]; simp
    refine hP fr d _ hp v H' { len := ?_, live := lv, cells := fun i a y e1 e2 => ?_, frame := fun a o hn e => C'.cf.frame a o e hn, al := fun a ha => C'.cf.a0 a (C'.px.subset ha), res := ?_ }
    · rw [List.length_take]
      omega
    · have hi : i < as.length := (List.getElem?_eq_some_iff.mp e1).1
      rw [List.getElem?_take_of_lt (by omega)] at e2
      refine (C'.cf.cells i a y ?_ e2).mono fun b z => ?_
      · rw [← er, List.getElem?_append_left hi]
        exact e1
      · rcases z with z | ⟨hf, hv⟩
        · exact .inl z
        · unfold RetOk at ro
          rw [if_pos hf] at ro
          obtain ⟨k, p, c, h1, h2, h3, h4, h5, _⟩ := ro
          rw [hv] at h3
          have h3 : b = p := by injection h3
          subst h3
          exact .inr ⟨k, c, h2, h4, Cell.opn_live h5⟩
    · unfold RetOk at ro
      cases fr with
      | false =>
        rw [if_neg (by decide)] at ro
        rw [if_neg (by decide)]
        exact ro.mono fun a z => .inl z
      | true =>
        rw [if_pos rfl] at ro
        rw [if_pos rfl]
        obtain ⟨k, p, c, h1, h2, h3, h4, h5, h6⟩ := ro
        have ec : cellOf d = c := by rw [← h6]; exact cellOf_toD h5
        have hH : H p = none := C'.cf.fresh k p h2 (show as.length ≤ k by omega)
        refine ⟨p, h3, hH, by rw [ec]; exact Cell.opn_live h5, ?_⟩
        rw [ec]
        refine (C'.cf.cells k p c h2 h4).mono fun b z => ?_
        rcases z with z | z
        · exact .inl z
        · rw [z]
          exact .inr ⟨k, c, h2, h4, Cell.opn_live h5⟩
  refine body ⟨N0, H, as, []⟩ as (start N vs) H en.len C0 _ ⟨fun c' as' σ' H' h C' => ?_, fun fr d env M' as' σ' H' v h C' ro => ?_, fun _ _ _ _ h _ => h.elim, fun _ _ _ _ h _ => h.elim⟩
  · exact exit false .non c' as' σ' H' .non h.1 h.2 C' rfl
  · exact exit fr d (env, M') as' σ' H' v h.1 h.2 C' ro
theorem fn_okR (Fn : Fun K x qual st f fd) (S : FnScope N ps (defScope st)) (hl : ∀ args M P, F args M P → args.length = ps.length)
    (body : ∀ cdv A outer s H E, (A.deeper (envOfC qual (defScope st) s.heap.objs.size f cdv)).guards = some [] → Room k (A.deeper (envOfC qual (defScope st) s.heap.objs.size f cdv)) → ∀ args M P0, F args M P0 →
      SDs M.length (cxOf CX0 P w K mg base N qual (defScope st) f cdv A outer s H E).nox (args ++ List.replicate (N.length - ps.length) .un, M) (defBody st) (PoOf M.length P0)) :
    FnOkR P w K mg base (k + 1) f fd ps (SpD K F) := by
  obtain ⟨oc, od, kV, doc, pm, an, cdv, ct, osl, rfl, lk, hcd⟩ := Fn.ex
  have hln : ∀ vs H Q E, SpD K F vs H Q E → vs.length = ps.length := fun vs H Q E ⟨N0, as, args, M, P0, en, hF, _⟩ => by
    rw [← en.vals.length]
    exact hl args M P0 hF
  refine ⟨hln, fun A outer s H args us vs Q E hgd hr e0 hb rv hsp => ?_⟩
  have lv := hln _ _ _ _ hsp
  have KX : K.In s.heap := e0.mod.kin.keeps fun a o q => (e0.bs a o q).1
  have lim : s.heap.NoLimit := e0.mod.nolimit.keeps fun a o q => (e0.bs a o q).1
  have hkind : ∀ y ∈ ps.zip us, (defScope st).names.lookup y.1 = some .local ∨ ((defScope st).names.lookup y.1 = some .cell ∧ ((cellsFrom (s.heap.objs.size + 1) (defScope st).names []).lookup y.1).isSome = true) := fun ⟨m, v⟩ hy =>
    (S.par m (List.of_mem_zip hy).1).elim .inl fun q => .inr ⟨q, PySem.W.cellsFrom_some _ _ _ (.inl q)⟩
  refine codeAny_call_function hr.depth (KX _ _ lk) rfl S.co S.gen rfl (PySem.W.codeRec_of KX hcd) (hb _ _ _ _ ?_)
  refine wpAny_newFunctionEnv_cells S.kind hkind fun env he s1 x => ?_
  subst he
  refine ⟨lim.keeps x.toInCall.keep, codeAny_func ?_⟩
  obtain ⟨N0, as, args', M, P0, en, hF, hP⟩ := hsp
  have I : Inv (cxOf CX0 P w K mg base N qual (defScope st) f cdv A outer s H E) [] (start N vs) H s1 := inv_start S hr.hd e0 lv rv x
  have wr := body_run (X := (cxOf CX0 P w K mg base N qual (defScope st) f cdv A outer s H E).nox) rfl S en (hl args' M P0 hF) hP (body cdv A outer s H E hgd (hr.deeper _) args' M P0 hF)
  have I' : Inv (cxOf CX0 P w K mg base N qual (defScope st) f cdv A outer s H E).nox [] (start N vs) H s1 := I.wish _
  refine wpAny_mono (wr [] s1 I') (fun fl s' hs => ?_) fun e s' hs => hs.elim
  have fin : ∀ {σ' : L2.St} {H' : Hp} {v : V} {u : Value}, Inv (cxOf CX0 P w K mg base N qual (defScope st) f cdv A outer s H E).nox [] σ' H' s' → RelV v u → Q v H' → CE outer P w H s Q u s' :=
    fun {σ' H' v u} J rv q => ⟨v, H', J.os, J.bare, J.base, J.hok, rv, q⟩
  match fl, hs with
  | .ret u, ⟨v, σ', H', J, rv, q⟩ => exact fin J rv q
  | .next, ⟨σ', H', J, q⟩ => exact fin (v := V.non) (u := Value.none) J rfl q
  | .brk, ⟨_, _, _, q⟩ => exact q.elim
  | .cont, ⟨_, _, _, q⟩ => exact q.elim
structure FnR (P : Program) (w : World) (K : PySem.W.Frag) (mg : Str → Option Value) (base : Heap) (k : Nat) (x : Str) (F : Ct) : Prop where
  ex : ∃ f fd ps, FnOkR P w K mg base k f fd ps (SpD K F) ∧ mg x = some (.ref f) ∧ PySem.W.keepIn K (.ref f) = true ∧ Binds K fd ps []
abbrev BodyOkR (Pg : Program) (w : World) (K : PySem.W.Frag) (mg : Str → Option Value) (base : Heap) (k : Nat) (N ps : List Str) (qual : Str) (st : Stmt) (f : Addr) (F : Ct) : Prop :=
  ∀ cdv A outer s H E, (A.deeper (envOfC qual (defScope st) s.heap.objs.size f cdv)).guards = some [] → Room k (A.deeper (envOfC qual (defScope st) s.heap.objs.size f cdv)) → ∀ args M P0, F args M P0 →
      SDs M.length (cxOf CX0 Pg w K mg base N qual (defScope st) f cdv A outer s H E).nox (args ++ List.replicate (N.length - ps.length) .un, M) (defBody st) (PoOf M.length P0)
theorem fnR_of (fx : FunX K x qual st f) (hm : mg x = some (.ref f)) (S : FnScope N ps (defScope st)) (hb : BindOk x qual st ps) (hl : ∀ args M P, F args M P → args.length = ps.length) (body : BodyOkR P w K mg base k N ps qual st f F) : FnR P w K mg base (k + 1) x F := by
  obtain ⟨fd, Fn⟩ := fx.ex
  exact ⟨f, fd, ps, fn_okR Fn S hl body, hm, Fn.kp, Fn.binds hb⟩
end
section
variable {X : Cx} {n : Nat} {env : EnvD} {M : Mem} {P : PP} {e : Expr} {es : List Expr} {x : Str} {p pos : Pos} {k : Nat} {F : Ct}
/-- f(..), no repr around -/
theorem ed_callR (G : FnR X.prog X.w X.K X.mg X.base k x F) (hgd : X.A.guards = some []) (hr : Room k X.A) (h : AD n X (env, M) (e :: es) fun rs M1 => ∃ ρ args, CallAt ρ args rs M1 ∧ F args (selM M1 ρ) fun fr d M' => P (.dat d) (updM M1 ρ M'))
    (hg : Gl X x := by rfl) (hdb : (x == ("__debug__" : Str)) = false := by decide) (he : starEach (e :: es) X.env = (false, eval e X.env) :: starEach es X.env := by rfl) (hpl : (backTo pos (starEach es X.env)).any (·.1) = false := by rfl) :
    ED n X (env, M) (.Call (.Name x p) (e :: es) [] pos) P := by
  obtain ⟨f, fd, ps, G, hm, hk, hb⟩ := G.ex
  have pe : PE X (.Call (.Name x p) (e :: es) [] pos) (tCall (SpD X.K F) [] (fun _ _ _ => False) (wpA X (e :: es))) := by
    refine ⟨fun pins s σ H Q I q => wpAny_Call_Name_kw (ld_glob I hg hm ?_ hdb)⟩
    refine PySem.W.callWith_K (h₀ := X.base) I.ok.mod.kin hk (thn ((wpA_ok (X := X)).run pos pins s σ H _ I q) fun us s1 ⟨vs, H1, I1, r, q1⟩ => ⟨I1.kIn, ?_⟩) he hpl
    have q2 : SpD X.K F vs H1 Q (fun _ _ _ => False) := by simpa using q1
    have hl : us.length = ps.length := by rw [← r.length]; exact G.len _ _ _ _ q2
    refine wpAny_call (codeAny_mono (G.run X.A X.stack s1 H1 ⟨us, []⟩ us vs Q _ hgd hr I1.env0 (by have z := hb s1 us I1.kIn (by simpa using hl); simpa using z) r q2) fun r s' hq => ?_)
    match r, hq with
    | .error e, hq => exact pass0 (X := X) pins σ H1 s1 e s' I1 hq
    | .ok (.ret u), hq => exact I1.after hq
    | .ok .next, hq => exact hq.elim
    | .ok .brk, hq => exact hq.elim
    | .ok .cont, hq => exact hq.elim
  intro B as σ H hn C Q q
  refine wpE_of pe ?_
  refine h B as σ H hn C _ fun rs vs M1 as1 H1 ⟨ρ, args, c, hF⟩ C1 ov => ?_
  rw [List.append_nil]
  refine ⟨_, _, _, _, _, C1.cf.entry c ov, hF, fun fr d M' p v H' ex => ?_⟩
  obtain ⟨C2, dv, _⟩ := C1.cf.exit c ex
  exact q _ v _ as1 H' p ⟨C1.px, C2⟩ dv
end
end Dl
set_option Elab.async false
set_option linter.all false
set_option maxRecDepth 100000
set_option maxHeartbeats 2000000
/-! Dl part 23: the law's end, where the law's defs ask for repr. -/
namespace Dl
open PySem L2 PyProof.Rows PySem.W
/-- what the head asks: the law's def, over every base in which ints are told as usual -/
def HeadR (P : Program) (w : World) (K : PySem.W.Frag) (mg : Str → Option Value) (k : Nat) (fa : Addr) : Prop :=
  ∃ fd : FuncData, (∀ (s : Shared) (u : Value), BindsTo s fd ⟨[u], []⟩ [("script", u)]) ∧ ∀ base : Heap, K.In base → base.Ns mainGlobals mg → base.NoDigits → FnOkR P w K mg base k fa fd ["script"] (SpD K cLaw)
theorem law_callR {P : Program} {w : World} {K : PySem.W.Frag} {mg mb : Str → Option Value} {k : Nat} {fa a : Addr} {s1 : Shared} {vs : List Value} {ns : List Int} (KX : K.In s1.heap) (hns : s1.heap.Ns mainGlobals mg) (hb : s1.heap.Ns builtinsNs mb) (hbb : ∀ x : Str, x ≠ "__name__" → mb x = bootBuiltins x)
    (hlim : s1.heap.NoLimit) (hdg : s1.heap.NoDigits) (hg : s1.gens = #[]) (ha : s1.heap.get? a = some { cls := .type "list", data := .seq vs.toArray }) (hi : IntsAre vs ns) (hl : ns.length ≤ sizeLine) (hr : Room k callerA) (F : HeadR P w K mg k fa) :
    codeAny (model P w) callerA (.call (.ref fa) ⟨[.ref a], []⟩) (fun r s' => r = .ok (.ret (.bool true)) ∧ OldK s1.heap s'.heap ∧ s'.os = s1.os ∧ AllBare s'.gens) s1 := by
  obtain ⟨fd, hbind, F⟩ := F
  have rv := L2.vals_ints hi
  have lenV := hi.length
  have go : ∀ H : Hp, Only H → SqL K H a (ns.map V.int) → HOk P w H s1.heap → (∀ b, H b ≠ none → b = a) → (H a ≠ none → K.lookup a = none) →
      codeAny (model P w) callerA (.call (.ref fa) ⟨[.ref a], []⟩) (fun r s' => r = .ok (.ret (.bool true)) ∧ OldK s1.heap s'.heap ∧ s'.os = s1.os ∧ AllBare s'.gens) s1 := fun H hO hS hok hA hK => by
    -- what is no list is not tracked
    have free : ∀ {b : Addr} {o : Obj} {es : Array DictEntry} {ep : Nat}, s1.heap.get? b = some o → o.data = .dict es ep → H b = none := fun {b o es ep} e d => Classical.byContradiction fun n => by
      have e' := hA b n
      subst e'
      rw [ha] at e
      cases e
      exact nomatch (show Data.seq vs.toArray _ = Data.dict es ep from d)
    have ns' : ∀ {b : Addr} {m : Str → Option Value}, s1.heap.Ns b m → (hidT s1.heap H).Ns b m := fun {b m} ⟨o, es, ep, e, d, r⟩ => ⟨o, es, ep, hidT_get e (free e d), d, r⟩
    have kin : K.In (hidT s1.heap H) := fun b o e => hidT_get (KX b o e) (Classical.byContradiction fun n => by
      have e' := hA b n
      subst e'
      rw [hK n] at e
      cases e)
    have md : Mod K mg (hidT s1.heap H) := ⟨kin, ns' hns, ⟨mb, ns' hb, hbb⟩, by
      obtain ⟨mc, x, y⟩ := hlim
      exact ⟨mc, ns' x, y⟩⟩
    have dg : (hidT s1.heap H).NoDigits := by
      obtain ⟨mc, x, y⟩ := hdg
      exact ⟨mc, ns' x, y⟩
    have e0 : Env0 P w K mg (hidT s1.heap H) callerA [] s1 H := { frames := rfl, mod := md, bs := fun b o e => of_hidT e, bsz := Nat.le_of_eq (hidT_size _ _), funs := trivial, frf := fun b hb => (by cases hb), hok := hok, bare := .of_eq hg }
    refine codeAny_mono ((F _ kin (ns' hns) dg).run callerA [] s1 H ⟨[.ref a], []⟩ [.ref a] [.ref a] (fun v _ => v = .bl true) (fun _ _ _ => False) rfl hr e0 (hbind s1 (.ref a)) (.cons rfl .nil) (law_sp hS)) fun r s' h => ?_
    match r, h with
    | .error e, h => exact h.elim
    | .ok .next, h => exact h.elim
    | .ok .brk, h => exact h.elim
    | .ok .cont, h => exact h.elim
    | .ok (.ret u), ⟨v, H', os, bare, un, hok', r', q⟩ =>
      have q' : v = .bl true := q
      subst q'
      obtain rfl : u = Value.bool true := r'
      refine ⟨rfl, OldK.of_keep fun b o e => ?_, os, bare⟩
      rcases hO b with z | ⟨ob, xs, z⟩
      · exact un.keep b o e z (fun y => by cases y) (by simp)
      · obtain ⟨e1, _⟩ := hok b _ z
        obtain ⟨e2, _⟩ := hok' b _ (un.frzs b ob _ z)
        rw [e] at e1
        cases e1
        exact e2
  cases hk : K.lookup a with
  | some o =>
    have e := KX a o hk
    rw [ha] at e
    cases e
    exact go (fun _ => none) (fun _ => .inl rfl) (.inr ⟨_, vs.toArray, _, hk, rfl, rfl, rfl, by rw [List.size_toArray, lenV]; exact hl, by simpa using rv⟩) (fun b u z => nomatch (show (none : Option HO) = some u from z)) (fun b z => absurd rfl z) fun z => absurd rfl z
  | none =>
    refine go (fun b => if b = a then some (.frz { cls := .type "list", data := .seq vs.toArray } (.lst (ns.map V.int))) else none) (fun b => ?_) (.inl (.inr ⟨{ cls := .type "list", data := .seq vs.toArray }, if_pos rfl⟩)) (fun b u z => ?_) (fun b z => ?_) fun _ => hk
    · by_cases hb : b = a
      · exact .inr ⟨_, _, if_pos hb⟩
      · exact .inl (if_neg hb)
    · by_cases hb : b = a
      · cases (if_pos hb).symm.trans z
        subst hb
        exact ⟨ha, by rw [List.length_map]; exact hl, vs, _, rv, ha⟩
      · cases (if_neg hb).symm.trans z
    · exact Classical.byContradiction fun hb => z (if_neg hb)
theorem law_endR {l : PySem.W.OpenLaw} {q : Program} {loose : List Str} {XP : (Str → Option Value) → Heap → Prop} {YP : World → Heap → Prop} {d : DefRec} {K : Params → PySem.W.Frag} {k : Nat} (hn : l.most = some 63) (hdf : d.params.defaults = []) (hr : Room k callerA)
    (hY : ∀ (w : World) (h : Heap), YP w h → (K w.params).In h)
    (F : ∀ (w : World) (mg : Str → Option Value) (fa : Addr) (h : Heap), (K w.params).In h → h.Ns mainGlobals mg → mg d.name = some (.ref fa) → HeadR l.prog w (K w.params) mg k fa) :
    PySem.W.WalkO q loose XP YP l.row.toRowW d [] (fun f vs => PySem.call f vs) := by
  refine Att.attach_call hn hdf fun w s0 s1 mg mb fa o pm cd doc a vs ns G Y ho hd hcd hmg hobj hints hlen hg => ?_
  have KX := hY w _ Y
  exact law_callR KX G.T.g G.T.b G.T.builtins G.T.nolimit G.T.nodigits hg hobj hints (Nat.le_trans hlen (by decide)) hr (F w mg fa _ KX G.T.g hmg)
end Dl
set_option Elab.async false
set_option linter.all false
set_option maxRecDepth 100000
set_option maxHeartbeats 2000000
/-! Dl part 24: == of scalars without a look at their signs; == of tuples of pairs. -/
namespace Dl
open PySem L2 PyProof.Rows
section
variable {X : Cx} {n : Nat} {env : EnvD} {M : Mem} {P : PP} {a b : Expr} {pos : Pos} {K : PySem.W.Frag}
def fEqS (r1 r2 : EI) (M : Mem) (P : PP) : Prop := ∃ x y : Str, rdD M r1 = some (.str x) ∧ rdD M r2 = some (.str y) ∧ P (.dat (.bl (decide (x = y)))) M
theorem od_eqS : OpD K rEq fEqS := by
  intro B as env M σ H r1 r2 v1 v2 Cf o1 o2 P ⟨x, y, e1, e2, p⟩ Q q
  have d1 : v1 = .str x := rd_dv Cf o1 e1 trivial
  have d2 : v2 = .str y := rd_dv Cf o2 e2 trivial
  subst d1
  subst d2
  refine ⟨rfl, q _ _ M as H p Cf.g ?_⟩
  show V.bl _ = V.bl _
  by_cases h : x = y <;> simp [h]
/-- x == y, texts -/
theorem ed_eqS (h : ED n X (env, M) a fun r1 M1 => ED n X (env, M1) b fun r2 M2 => fEqS r1 r2 M2 P) : ED n X (env, M) (.Compare a [.Eq] [b] pos) P := ed_cmpR op_eq od_eqS h
theorem td_eqS {P : Bool → Mem → Prop} (h : ED n X (env, M) a fun r1 M1 => ED n X (env, M1) b fun r2 M2 => fEqS r1 r2 M2 (isB P)) : TD n X (env, M) (.Compare a [.Eq] [b] pos) P := td_cmpR op_eq od_eqS h
def fNeS (r1 r2 : EI) (M : Mem) (P : PP) : Prop := ∃ x y : Str, rdD M r1 = some (.str x) ∧ rdD M r2 = some (.str y) ∧ P (.dat (.bl (decide (x ≠ y)))) M
theorem od_neS : OpD K rNe fNeS := by
  intro B as env M σ H r1 r2 v1 v2 Cf o1 o2 P ⟨x, y, e1, e2, p⟩ Q q
  have d1 : v1 = .str x := rd_dv Cf o1 e1 trivial
  have d2 : v2 = .str y := rd_dv Cf o2 e2 trivial
  subst d1
  subst d2
  refine ⟨rfl, q _ _ M as H p Cf.g ?_⟩
  show V.bl _ = V.bl _
  by_cases h : x = y <;> simp [h]
theorem ed_neS (h : ED n X (env, M) a fun r1 M1 => ED n X (env, M1) b fun r2 M2 => fNeS r1 r2 M2 P) : ED n X (env, M) (.Compare a [.NotEq] [b] pos) P := ed_cmpR op_ne od_neS h
theorem td_neS {P : Bool → Mem → Prop} (h : ED n X (env, M) a fun r1 M1 => ED n X (env, M1) b fun r2 M2 => fNeS r1 r2 M2 (isB P)) : TD n X (env, M) (.Compare a [.NotEq] [b] pos) P := td_cmpR op_ne od_neS h
end
theorem eqD_mapT {α : Type} [DecidableEq α] {f : α → D} (h : ∀ a b, eqD (f a) (f b) = decide (a = b)) (xs ys : List α) : eqD (.tup (xs.map f)) (.tup (ys.map f)) = decide (xs = ys) := by
  have e : eqD (.tup (xs.map f)) (.tup (ys.map f)) = eqD (.lst (xs.map f)) (.lst (ys.map f)) := by
    unfold eqD
    show PyData.eqv (.tuple (toPys (xs.map f))) (.tuple (toPys (ys.map f))) = PyData.eqv (.list (toPys (xs.map f))) (.list (toPys (ys.map f)))
    rw [PyData.eqv, PyData.eqv]
  rw [e, eqD_map h]
theorem eqD_tup2 {a b c d : D} : eqD (.tup [a, b]) (.tup [c, d]) = (eqD a c && eqD b d) := by
  unfold eqD
  show PyData.eqv (.tuple [toPy a, toPy b]) (.tuple [toPy c, toPy d]) = _
  simp [PyData.eqv, PyData.eqvAll]
theorem eqD_tup3 {a b c d e f : D} : eqD (.tup [a, b, c]) (.tup [d, e, f]) = (eqD a d && eqD b e && eqD c f) := by
  unfold eqD
  show PyData.eqv (.tuple [toPy a, toPy b, toPy c]) (.tuple [toPy d, toPy e, toPy f]) = _
  simp [PyData.eqv, PyData.eqvAll, Bool.and_assoc]
theorem eqD_strS {i j : Str} : eqD (.str i) (.str j) = decide (i = j) := by
  unfold eqD
  show PyData.eqv (.str i) (.str j) = _
  rw [PyData.eqv]
  by_cases h : i = j <;> simp [h]
theorem okN_tupM {α : Type} {k : Nat} {f : α → D} {xs : List α} (h : ∀ x ∈ xs, OkN k (f x)) : OkN (k + 1) (.tup (xs.map f)) := okN_tup fun d hd => by
  obtain ⟨x, hx, rfl⟩ := List.mem_map.mp hd
  exact h x hx
end Dl
set_option Elab.async false
set_option linter.all false
set_option maxRecDepth 100000
set_option maxHeartbeats 4000000
/-! == of books and rows. -/
namespace Fb
open PySem L2 Dl
instance decNR : DecidableEq NR := fun r q => decidable_of_iff (r.name = q.name ∧ r.start = q.start ∧ r.forms = q.forms) (by cases r; cases q; simp)
def cBookEq (C : Addr) : Ct := fun args M P => ∃ (g b : Nat) (rows : List NR) (g' b' : Nat) (rows' : List NR), args = [.dat (dBook C b rows), .dat (dBook C b' rows')] ∧ M = [] ∧ BookOk g b rows ∧ BookOk g' b' rows' ∧ P false (.bl (decide (b = b' ∧ rows = rows'))) []
def cRowEq (CR CB : Addr) : Ct := fun args M P => ∃ (g b : Nat) (rows : List NR) (sh : List Int) (g' b' : Nat) (rows' : List NR) (sh' : List Int), args = [.dat (dRow CR CB b rows sh), .dat (dRow CR CB b' rows' sh')] ∧ M = [] ∧ BookOk g b rows ∧ BookOk g' b' rows' ∧ P false (.bl (decide (b = b' ∧ rows = rows' ∧ sh = sh'))) []
theorem eqD_term (s t : Int × Str) : eqD (dTerm s) (dTerm t) = decide (s = t) := by
  unfold dTerm
  rw [eqD_tup2, eqD_int', eqD_strS]
  obtain ⟨a, b⟩ := s
  obtain ⟨c, d⟩ := t
  by_cases h1 : a = c <;> by_cases h2 : b = d <;> simp [h1, h2]
theorem eqD_nrt (r q : NR) : eqD (dNRT r) (dNRT q) = decide (r = q) := by
  unfold dNRT
  rw [eqD_tup3, eqD_strS, eqD_int', eqD_mapT (f := dFormT) (fun a b => eqD_mapT eqD_term a b)]
  obtain ⟨a, b, c⟩ := r
  obtain ⟨d, e, f⟩ := q
  by_cases h1 : a = d <;> by_cases h2 : b = e <;> by_cases h3 : c = f <;> simp [h1, h2, h3]
theorem okN_term {g b : Nat} {rows : List NR} (h : BookOk g b rows) {t : Int × Str} (ht : t.2 ∈ names rows) : OkN 1 (dTerm t) := okN_tup fun d hd => by
  obtain ⟨r, hr, e⟩ := List.mem_map.mp ht
  rcases List.mem_cons.mp hd with rfl | hd
  · exact okN_int
  · cases List.mem_singleton.mp hd
    rw [← e]
    exact okN_name (h.nm r hr)
theorem okN_rows {g b : Nat} {rows : List NR} (h : BookOk g b rows) : OkN 5 (.tup (rows.map dNRT)) := okN_tupM fun r hr => okN_tup fun d hd => by
  rcases List.mem_cons.mp hd with rfl | hd
  · exact (okN_name (h.nm r hr)).mono (by decide)
  · rcases List.mem_cons.mp hd with rfl | hd
    · exact okN_int.mono (by decide)
    · cases List.mem_singleton.mp hd
      exact okN_tupM fun f hf => okN_tupM fun t ht => okN_term h ((h.tm r hr f hf).2 t ht).1
theorem okN_sh (sh : List Int) : OkN 1 (.tup (sh.map .int)) := okN_tupM fun _ _ => okN_int
section
variable {P : Program} {w : World} {K : PySem.W.Frag} {mg : Str → Option Value} {base : Heap}
theorem body_bookeq {f CB : Addr} (cl : Cls K CB) (nf : NoAttr K CB "figures") (nk : NoAttr K CB "kept") (hi : mg "isinstance" = none) (mc : mg "Book" = some (.ref CB)) (ic : IsC K CB) : BodyOk P w K mg base 0 ["self", "other"] ["self", "other"] "Book.__eq__" s_BookI_eqI f (cBookEq CB) := by
  intro cdv A outer s H E hr args M P0 ⟨g, b, rows, g', b', rows', e1, e2, ok, ok', hP⟩
  subst e1
  subst e2
  have hu := hr.units
  refine sds_one (sd_ret (ed_and (ed_isi hi mc (ev 1 rfl ⟨CB, _, _, true, rfl, cl, ic, kit_same, _, rfl, fun _ => ?_, fun z => absurd z (by decide)⟩))))
  refine ed_and (ed_eqI hu (ed_fld cl nf (ev 0 rfl (.inl ⟨_, _, _, rfl, rfl, ed_fld cl nf (ev 1 rfl (.inl ⟨_, _, _, rfl, rfl, (b : Int), (b' : Int), rfl, rfl, _, rfl, fun hb => ?_, fun hb => ?_⟩))⟩))))
  · refine ed_one (ed_eq hu (ed_fld cl nk (ev 0 rfl (.inl ⟨_, _, _, rfl, rfl, ed_fld cl nk (ev 1 rfl (.inl ⟨_, _, _, rfl, rfl, _, _, rfl, rfl, (okN_rows ok).ok, (okN_rows ok').ok, ret_dat (po0 ?_)⟩))⟩))))
    rw [eqD_mapT eqD_nrt]
    have hb' : b = b' := by
      have z : (b : Int) = (b' : Int) := by simpa using hb
      omega
    simpa [hb'] using hP
  · have hb' : ¬ b = b' := by
      have z : ¬ (b : Int) = (b' : Int) := by simpa using hb
      omega
    exact ret_dat (po0 (by simpa [hb'] using hP))
theorem body_roweq {f CR CB : Addr} (cl : Cls K CR) (nt : NoAttr K CR "told_by") (ns : NoAttr K CR "shares") (hi : mg "isinstance" = none) (mc : mg "Row" = some (.ref CR)) (ic : IsC K CR) (GB : OwnG P w K mg base 1 CB (cBookEq CB)) : BodyOk P w K mg base 1 ["self", "other"] ["self", "other"] "Row.__eq__" s_RowI_eqI f (cRowEq CR CB) := by
  intro cdv A outer s H E hr args M P0 ⟨g, b, rows, sh, g', b', rows', sh', e1, e2, ok, ok', hP⟩
  subst e1
  subst e2
  have hu := hr.units
  refine sds_one (sd_ret (ed_and (ed_isi hi mc (ev 1 rfl ⟨CR, _, _, true, rfl, cl, ic, kit_same, _, rfl, fun _ => ?_, fun z => absurd z (by decide)⟩))))
  refine ed_and (ed_own GB hr (ed_fld cl nt (ev 0 rfl (.inl ⟨_, _, _, rfl, rfl, ed_fld cl nt (ev 1 rfl (.inl ⟨_, _, _, rfl, rfl, ⟨_, _, rfl⟩, ⟨CB, _, _, rfl, nf_same⟩, [], [_, _], callAt_pure (ds := [_, _]), g, b, rows, g', b', rows', rfl, rfl, ok, ok', rfl, _, rfl, _, rfl, fun hb => ?_, fun hb => ?_⟩))⟩))))
  · refine ed_one (ed_eq hu (ed_fld cl ns (ev 0 rfl (.inl ⟨_, _, _, rfl, rfl, ed_fld cl ns (ev 1 rfl (.inl ⟨_, _, _, rfl, rfl, _, _, rfl, rfl, (okN_sh _).ok, (okN_sh _).ok, ret_dat (po0 ?_)⟩))⟩))))
    rw [eqD_mapT (fun a b => eqD_int')]
    have hb' : b = b' ∧ rows = rows' := by simpa using hb
    simpa [hb'.1, hb'.2] using hP
  · have hb' : ¬ (b = b' ∧ rows = rows') := by simpa using hb
    refine ret_dat (po0 ?_)
    have e : decide (b = b' ∧ rows = rows' ∧ sh = sh') = false := decide_eq_false fun z => hb' ⟨z.1, z.2.1⟩
    rw [e] at hP
    simpa [updM] using hP
end
end Fb
set_option Elab.async false
set_option linter.all false
set_option maxRecDepth 100000
set_option maxHeartbeats 4000000
namespace Fb
open PySem L2 Dl
section
variable {P : Program} {w : World} {K : PySem.W.Frag} {mg : Str → Option Value} {base : Heap}
theorem body_lrowed {f CR CB : Addr} (hli : mg "list" = none) (GM : FnG P w K mg base 5 "_law_made" (cMade CB)) (GR : MakeG P w K mg base 3 "Row" CR (cRowInit CR CB)) : BodyOk P w K mg base 5 ["kind", "shares"] ["kind", "shares"] "_law_rowed" s_Lrowed f (cRowed CR CB) := by
  intro cdv A outer s H E hr args M P0 ⟨g, b, rows, sh, e1, e2, ok, hl, hP⟩
  subst e1
  subst e2
  refine sds_one (sd_retn (en_make GR (hr.mono (by decide)) (ad_cons (ed_callp GM hr (ad_cons (ev 0 rfl (ad_nil ⟨[_], rfl, g, b, rows, rfl, rfl, ok, ?_⟩)))))))
  refine ad_cons (ed_of_en (en_list hli (ev 1 rfl ⟨dI sh, sh.map .int, rfl, rfl, ?_⟩)))
  exact ad_nil ⟨[_, _], rfl, b, rows, sh, rfl, rfl, ok.few, hl, rfl, _, _, rfl, rfl, Nat.zero_le _, po0 hP⟩
end
end Fb
set_option Elab.async false
set_option linter.all false
set_option maxRecDepth 100000
set_option maxHeartbeats 4000000
namespace Fb
open PySem L2 Dl
theorem idx_ne {n x : Str} {ns : List Str} (h : ¬ n = x) : (n :: ns).idxOf x = ns.idxOf x + 1 := by
  have : (n == x) = false := by simpa using h
  simp [List.idxOf_cons, this]
theorem valD_at : ∀ (ns : List Str) (fw : List Int) (x : Str), x ∈ ns → fw.length = ns.length → valD (ns.map Sum.inr) (fw.map D.int) (Sum.inr x) = some (.int (fw.getD (ns.idxOf x) 0))
  | [], _, _, h, _ => nomatch h
  | n :: ns, [], _, _, h => by simp at h
  | n :: ns, v :: fw, x, hx, hl => by
    rw [List.map_cons, List.map_cons, valD]
    by_cases h : n = x
    · subst h
      simp
    · have h' : ¬ (Sum.inr n : Key) = Sum.inr x := fun z => h (by injection z)
      rw [if_neg h', valD_at ns fw x (by rcases List.mem_cons.mp hx with e | e; exact absurd e.symm h; exact e) (by simpa using hl)]
      rw [idx_ne h]
      simp
theorem putDs_at : ∀ (ns : List Str) (fw : List Int) (x : Str) (v : Int), ns.Nodup → x ∈ ns → fw.length = ns.length → putDs (ns.map Sum.inr) (fw.map D.int) (Sum.inr x) (.int v) = (fw.set (ns.idxOf x) v).map .int
  | [], _, _, _, _, h, _ => nomatch h
  | n :: ns, [], _, _, _, _, h => by simp at h
  | n :: ns, u :: fw, x, v, nd, hx, hl => by
    rw [List.map_cons, List.map_cons, putDs]
    have hl' : fw.length = ns.length := by simpa using hl
    rw [List.nodup_cons] at nd
    by_cases h : n = x
    · subst h
      rw [if_pos rfl, List.idxOf_cons_self, List.set_cons_zero, List.map_cons]
      congr 1
      have : ∀ (ms : List Str) (gw : List Int), n ∉ ms → gw.length = ms.length → putDs (ms.map Sum.inr) (gw.map D.int) (Sum.inr n) (.int v) = gw.map .int := by
        intro ms
        induction ms with
        | nil => intro gw _ h; rw [List.eq_nil_of_length_eq_zero h]; rfl
        | cons m ms ih =>
          intro gw hm h
          cases gw with
          | nil => simp at h
          | cons g gw =>
            have h1 : ¬ (Sum.inr m : Key) = Sum.inr n := fun z => hm (by injection z with z; rw [z]; exact List.mem_cons_self)
            rw [List.map_cons, List.map_cons, putDs, if_neg h1, ih gw (fun z => hm (List.mem_cons_of_mem _ z)) (by simpa using h)]
      exact this ns fw nd.1 hl'
    · have h' : ¬ (Sum.inr n : Key) = Sum.inr x := fun z => h (by injection z)
      have hx' : x ∈ ns := by rcases List.mem_cons.mp hx with e | e; exact absurd e.symm h; exact e
      rw [if_neg h', putDs_at ns fw x v nd.2 hx' hl', idx_ne h]
      rfl
theorem nKeys_eq (rows : List NR) : nKeys rows = (names rows).map Sum.inr := by simp [nKeys, names]
theorem any_key {ns : List Str} {x : Str} (h : x ∈ ns) : ((ns.map Sum.inr).any fun k' : Key => decide (k' = Sum.inr x)) = true := by
  rw [List.any_eq_true]
  exact ⟨Sum.inr x, List.mem_map_of_mem h, by simp⟩
theorem put_at {rows : List NR} {fw : List Int} {x : Str} {v : Int} (nd : (names rows).Nodup) (hx : x ∈ names rows) (hl : fw.length = rows.length) : putKey (nKeys rows) (Sum.inr x) = nKeys rows ∧ putVal (nKeys rows) (fw.map D.int) (Sum.inr x) (.int v) = (fw.set ((names rows).idxOf x) v).map .int := by
  rw [nKeys_eq]
  unfold putKey putVal
  rw [if_pos (any_key hx), if_pos (any_key hx)]
  exact ⟨rfl, putDs_at _ _ _ _ nd hx (by simp [hl, names])⟩
theorem val_at {rows : List NR} {fw : List Int} {x : Str} (hx : x ∈ names rows) (hl : fw.length = rows.length) : valD (nKeys rows) (fw.map D.int) (Sum.inr x) = some (.int (fw.getD ((names rows).idxOf x) 0)) := by
  rw [nKeys_eq]
  exact valD_at _ _ _ hx (by simp [hl, names])
theorem idx_at {rows : List NR} (nd : (names rows).Nodup) {i : Nat} {r : NR} (h : rows[i]? = some r) : (names rows).idxOf r.name = i := by
  have hi := (List.getElem?_eq_some_iff.mp h).1
  have e : r = rows[i] := (List.getElem?_eq_some_iff.mp h).2.symm
  have := nd.idxOf_getElem i (by simpa [names] using hi)
  rw [e]
  simpa [names] using this
theorem formsV {rows : List NR} (nd : (names rows).Nodup) {r : NR} (hr : r ∈ rows) : valD (nKeys rows) (rows.map fun r => D.lst (r.forms.map dForm)) (Sum.inr r.name) = some (.lst (r.forms.map dForm)) :=
  valD_map (kf := fun r : NR => (Sum.inr r.name : Key)) (vf := fun r => D.lst (r.forms.map dForm)) (List.pairwise_map.mpr ((List.pairwise_map.mp nd).imp fun h z => h (by injection z))) hr
theorem nKeys_nd {rows : List NR} (nd : (names rows).Nodup) : (nKeys rows).Nodup := List.pairwise_map.mpr ((List.pairwise_map.mp nd).imp fun h z => h (by injection z))
theorem zip_keys {rows : List NR} {sh : List Int} (h : sh.length = rows.length) : ((rows.zip sh).map fun p => (Sum.inr p.1.name : Key)) = nKeys rows ∧ ((rows.zip sh).map fun p => D.int p.2) = sh.map .int := by
  induction rows generalizing sh with
  | nil => rw [List.eq_nil_of_length_eq_zero h]; exact ⟨rfl, rfl⟩
  | cons r rows ih =>
    cases sh with
    | nil => simp at h
    | cons s sh =>
      obtain ⟨h1, h2⟩ := ih (sh := sh) (by simpa using h)
      exact ⟨by rw [List.zip_cons_cons, List.map_cons, h1]; rfl, by rw [List.zip_cons_cons, List.map_cons, h2]; rfl⟩
/-- bits on the way -/
theorem addT_bd {ns : List Str} {x : Int} {fw : List Int} {t : Int × Str} {m B : Nat} (h : ∀ y ∈ fw, y.natAbs ≤ m * B) (hx : (x * t.1).natAbs ≤ B) : ∀ y ∈ addT ns x fw t, y.natAbs ≤ (m + 1) * B := fun y hy => by
  rcases List.mem_or_eq_of_mem_set hy with h1 | h1
  · have := h y h1
    rw [Nat.succ_mul]
    omega
  · have h0 : (fw.getD (ns.idxOf t.2) 0).natAbs ≤ m * B := by
      rw [List.getD_eq_getElem?_getD]
      cases e : fw[ns.idxOf t.2]? with
      | none => simp
      | some z => exact h z (List.mem_of_getElem? e)
    rw [h1, Nat.succ_mul]
    omega
/-- cells of the walk: wanted (locked), formulas, fewer -/
structure FarM (rows : List NR) (w fw : List Int) (j m : Nat) (od : Obj) (kvs : List (Key × V)) (M : Mem) : Prop where
  wan : M[j]? = some (.fz od kvs (w.map .int))
  fo : M[1]? = some (.dic (nKeys rows) (rows.map fun r => D.lst (r.forms.map dForm)))
  few : M[m]? = some (.dic (nKeys rows) (fw.map .int))
  len : M.length = m + 1
theorem FarM.put {rows w fw fw' j m od kvs M} (h : FarM rows w fw j m od kvs M) (hj : j ≠ m) (h1 : m ≠ 1) : FarM rows w fw' j m od kvs (M.set m (.dic (nKeys rows) (fw'.map .int))) :=
  ⟨by rw [List.getElem?_set_ne (Ne.symm hj)]; exact h.wan, by rw [List.getElem?_set_ne h1]; exact h.fo, by rw [List.getElem?_set_self (by have := h.len; omega)], by rw [List.length_set]; exact h.len⟩
section
variable {P : Program} {w : World} {K : PySem.W.Frag} {mg : Str → Option Value} {base : Heap}
abbrev nsFar : List Str := ["kind", "shares", "spot", "wanted", "formulas", "last", "fewer", "letter", "often", "other", "line", "share"]
theorem body_lfar {f : Addr} (hd : mg "dict" = none) (hz : mg "zip" = none) (hs : mg "sum" = none) (GF : FnG P w K mg base 1 "_law_figures" cFigs) : BodyOk P w K mg base 1 nsFar ["kind", "shares", "spot"] "_law_far" s_Lfar f cLFar := by
  intro cdv A outer s H E hr args M P0 ⟨b, rows, sh, spot, many, e1, e2, ko, hm, hsl, hsb, hfl, hP⟩
  subst e1
  subst e2
  have hu := hr.units
  have nd := sc_Lfar.nd
  have bnd := ko.bk.nd
  have hrl := ko.few
  have hbb := ko.bk.base
  show SDs _ _ ([.dat (dKind b rows), .dat (dI sh), .dat (.int (spot : Nat)), .un, .un, .un, .un, .un, .un, .un, .un, .un], []) _ _
  refine sds_cons (sd_set (i := 3) (ed_new (en_dictP hd (ed_of_en (en_lc (own := [("line", 10), ("share", 11)]) (t := .tup [10, 11]) nd (blkOk_by (N := nsFar) (sc := defScope s_Lfar) (by decide +kernel)) (fun s H C cl fp => tg_tup (tgs_cons (tgs_cons tgs_nil nd) nd)) ?_)))) nd)
  refine id_zip hz (ed_ix (ev 0 rfl (ed_int ⟨.lst (rows.map dNR), rfl, ev 1 rfl ⟨rows.map dNR, sh.map .int, rfl, rfl, ?_⟩⟩)))
  rw [zipD_map]
  refine lcd_map (rows.zip sh) _ (fun p => .tup [.str p.1.name, .int p.2]) rfl (szl (by rw [List.length_zip]; omega)) ?_ (fun acc => ⟨rfl, rfl⟩) ?_
  · intro p hp acc
    exact ⟨_, rfl, fun s H C cl fp => ed_tup (ad_cons (ed_ix (ev 10 rfl (ed_int ⟨.str p.1.name, rfl, ad_cons (ev 11 rfl (ad_nil ⟨[_, _], rfl, szl (by simp), rfl, rfl⟩))⟩))))⟩
  obtain ⟨k1, k2⟩ := zip_keys hsl
  refine ⟨(rows.zip sh).map fun p => (Sum.inr p.1.name, .int p.2), ?_, ?_, ?_⟩
  · show some (D.lst _) = _
    rw [List.map_map]
    rfl
  · rw [List.map_map]
    show ((rows.zip sh).map fun p => (Sum.inr p.1.name : Key)).Nodup
    rw [k1]
    exact nKeys_nd bnd
  have k1' : (((rows.zip sh).map fun p => ((Sum.inr p.1.name : Key), D.int p.2)).map (·.1)) = nKeys rows := by rw [List.map_map]; exact k1
  have k2' : (((rows.zip sh).map fun p => ((Sum.inr p.1.name : Key), D.int p.2)).map (·.2)) = sh.map .int := by rw [List.map_map]; exact k2
  rw [k1', k2']
  show SDs _ _ ([.dat (dKind b rows), .dat (dI sh), .dat (.int (spot : Nat)), .cel 0, .un, .un, .un, .un, .un, .un, .un, .un], [.dic (nKeys rows) (sh.map .int)]) _ _
  refine sds_cons (sd_set (i := 4) (ed_new (en_dictP hd (ed_of_en (en_lc (own := [("line", 10)]) (t := .one 10) nd (blkOk_by (N := nsFar) (sc := defScope s_Lfar) (by decide +kernel)) (fun s H C cl fp => tg_name nd) ?_)))) nd)
  refine id_list (ed_ix (ev 0 rfl (ed_int ⟨.lst (rows.map dNR), rfl, rows.map dNR, rfl, ?_⟩)))
  refine lcd_map rows dNR (fun r => .tup [.str r.name, .lst (r.forms.map dForm)]) rfl (szl (by omega)) ?_ (fun acc => rfl) ?_
  · intro r hr' acc
    exact ⟨_, rfl, fun s H C cl fp => ed_tup (ad_cons (ed_ix (ev 10 rfl (ed_int ⟨.str r.name, rfl, ad_cons (ed_ix (ev 10 rfl (ed_int ⟨.lst (r.forms.map dForm), rfl, ad_nil ⟨[_, _], rfl, szl (by simp), rfl, rfl⟩⟩)))⟩))))⟩
  refine ⟨rows.map fun r => (Sum.inr r.name, .lst (r.forms.map dForm)), ?_, ?_, ?_⟩
  · show some (D.lst _) = _
    rw [List.map_map]
    rfl
  · rw [List.map_map]
    exact nKeys_nd bnd
  rw [List.map_map, List.map_map]
  show SDs _ _ ([.dat (dKind b rows), .dat (dI sh), .dat (.int (spot : Nat)), .cel 0, .cel 1, .un, .un, .un, .un, .un, .un, .un], [.dic (nKeys rows) (sh.map .int), .dic (nKeys rows) (rows.map fun r => D.lst (r.forms.map dForm))]) _ _
  -- the figures, from the last one on
  refine sds_cons (sd_forF (t := .one 5) (tg_name nd) (id_list (ed_of_en (en_rev (ed_callp GF hr (ad_cons (ev 2 rfl (ad_cons (ed_ix (ev 0 rfl (ed_int ⟨.int (b : Nat), rfl, ad_nil ⟨[_, _], rfl, spot, b, rfl, rfl, hbb.1, by omega, by omega, ?_⟩⟩)))))))))))
  refine ⟨(figL b spot).map fun n => .int (n : Nat), rfl, _, rfl, ?_⟩
  rw [← List.map_reverse, figL, List.reverse_reverse]
  refine ⟨fun i c => ∃ (M : Mem) (j : Nat), c = ([.dat (dKind b rows), .dat (dI sh), .dat (.int (spot : Nat)), .cel j, .cel 1, .un, .un, .un, .un, .un, .un, .un], M) ∧ j ≠ 1 ∧ M[j]? = some (.dic (nKeys rows) ((((figR b spot).take i).foldl (rowV rows) sh).map .int)) ∧ M[1]? = some (.dic (nKeys rows) (rows.map fun r => D.lst (r.forms.map dForm))) ∧ Bd (7 + 12 * i) (((figR b spot).take i).foldl (rowV rows) sh), .of ⟨_, 0, rfl, by decide, rfl, rfl, hsb⟩, ?_, ?_⟩
  · rintro i c dd hdd ⟨M, j, rfl, hj1, hMj, hM1, hbd⟩
    obtain ⟨r, hrr, rfl⟩ := map_get hdd
    have hi := (List.getElem?_eq_some_iff.mp hrr).1
    have hrb : r < b := figR_lt hbb.1 spot r (List.mem_of_getElem? hrr)
    have step := foldl_take (f := rowV rows) (b := sh) hrr
    have wl : (((figR b spot).take i).foldl (rowV rows) sh).length = rows.length := by
      cases i with
      | zero => simpa using hsl
      | succ i =>
        have hx : (figR b spot)[i]? = some (figR b spot)[i] := List.getElem?_eq_getElem (by omega)
        rw [foldl_take hx]
        exact rowV_len
    generalize ((figR b spot).take i).foldl (rowV rows) sh = v at *
    have m1 : 1 < M.length := (List.getElem?_eq_some_iff.mp hM1).1
    have mj : j < M.length := (List.getElem?_eq_some_iff.mp hMj).1
    refine ⟨rfl, _, rfl, ?_⟩
    show SDs _ _ ([.dat (dKind b rows), .dat (dI sh), .dat (.int (spot : Nat)), .cel j, .cel 1, .dat (.int (r : Nat)), .un, .un, .un, .un, .un, .un], M) _ _
    refine sds_cons (sd_lockC (k := 1) hM1 fun od kvs ek => ?_)
    have eit : kvs.map (fun kv => keyD kv.1) = rows.map fun r => D.str r.name := by
      have : (kvs.map (·.1)).map keyD = (nKeys rows).map keyD := by rw [ek]
      rw [List.map_map] at this
      rw [nKeys, List.map_map] at this
      exact this
    have s1 : (M.set 1 (.fz od kvs (rows.map fun r => D.lst (r.forms.map dForm))))[1]? = some (.fz od kvs (rows.map fun r => D.lst (r.forms.map dForm))) := List.getElem?_set_self m1
    refine sd_set (i := 6) (ed_new (en_dictP hd (ed_of_en (en_lc (own := [("letter", 7)]) (t := .one 7) nd (blkOk_by (N := nsFar) (sc := defScope s_Lfar) (by decide +kernel)) (fun s H C cl fp => tg_name nd) ?_)))) nd
    refine id_keys (ev 4 rfl ⟨1, od, kvs, _, rfl, s1, ?_⟩)
    refine lcd_map rows (fun r => .str r.name) (fun r => .tup [.str r.name, .int 0]) eit (szl (by omega)) ?_ (fun acc => ?_) ?_
    · intro q hq acc
      exact ⟨_, rfl, fun s H C cl fp => ed_tup (ad_cons (ev 7 rfl (ad_cons (ed_int (ad_nil ⟨[_, _], rfl, szl (by simp), rfl, rfl⟩)))))⟩
    · rw [List.getElem?_append_left (by rw [List.length_set]; exact m1)]
      exact s1
    refine ⟨rows.map fun r => (Sum.inr r.name, .int 0), ?_, ?_, ?_⟩
    · show some (D.lst _) = _
      rw [List.map_map]
      rfl
    · rw [List.map_map]
      exact nKeys_nd bnd
    rw [List.map_map, List.map_map]
    refine ⟨?_, ?_⟩
    · show ((M.set 1 _) ++ [_])[1]? = _
      rw [List.getElem?_append_left (by rw [List.length_set]; exact m1)]
      exact s1
    have em : (M.set 1 (Cell.fz od kvs (rows.map fun r : NR => D.lst (r.forms.map dForm))) ++ [Cell.dic (nKeys rows) ((List.replicate rows.length (0 : Int)).map .int)]).set 1 (Cell.dic (kvs.map (·.1)) (rows.map fun r : NR => D.lst (r.forms.map dForm))) = M ++ [Cell.dic (nKeys rows) ((List.replicate rows.length (0 : Int)).map .int)] := by
      rw [List.set_append_left _ _ (by rw [List.length_set]; exact m1), set_set, ek]
      congr 1
      refine List.ext_getElem? fun q => ?_
      rw [List.getElem?_set]
      by_cases hq : 1 = q
      · subst hq
        rw [if_pos rfl, if_pos m1, hM1]
      · rw [if_neg hq]
    have ez : rows.map (Prod.snd ∘ fun r : NR => ((Sum.inr r.name : Key), D.int 0)) = (List.replicate rows.length (0 : Int)).map .int := by
      rw [List.map_replicate]
      exact List.map_const'
    have ekk : rows.map (Prod.fst ∘ fun r : NR => ((Sum.inr r.name : Key), D.int 0)) = nKeys rows := rfl
    have ml : (M.set 1 (Cell.fz od kvs (rows.map fun r : NR => D.lst (r.forms.map dForm)))).length = M.length := List.length_set
    rw [ez, ekk, ml]
    refine (congrArg (fun MM => SDs _ _ (([.dat (dKind b rows), .dat (dI sh), .dat (.int (spot : Nat)), .cel j, .cel 1, .dat (.int (r : Nat)), .cel M.length, .un, .un, .un, .un, .un] : EnvD), MM) _ _) em).mpr ?_
    clear em s1 eit ek ml ez ekk
    -- for letter in wanted
    have hMj' : (M ++ [Cell.dic (nKeys rows) ((List.replicate rows.length (0 : Int)).map .int)])[j]? = some (.dic (nKeys rows) (v.map .int)) := by
      rw [List.getElem?_append_left mj]
      exact hMj
    refine sds_cons (sd_lockC (k := j) hMj' fun od2 kvs2 ek2 => ?_)
    have eit2 : kvs2.map (fun kv => keyD kv.1) = rows.map fun r => D.str r.name := by
      have : (kvs2.map (·.1)).map keyD = (nKeys rows).map keyD := by rw [ek2]
      rw [List.map_map] at this
      rw [nKeys, List.map_map] at this
      exact this
    have start : FarM rows v (List.replicate rows.length 0) j M.length od2 kvs2 ((M ++ [Cell.dic (nKeys rows) ((List.replicate rows.length (0 : Int)).map .int)]).set j (Cell.fz od2 kvs2 (v.map .int))) := by
      refine ⟨List.getElem?_set_self (by simp; omega), ?_, ?_, by simp⟩
      · rw [List.getElem?_set_ne hj1, List.getElem?_append_left m1]
        exact hM1
      · rw [List.getElem?_set_ne (by omega)]
        exact get_last _ _
    generalize (M ++ [Cell.dic (nKeys rows) ((List.replicate rows.length (0 : Int)).map .int)]).set j (Cell.fz od2 kvs2 (v.map .int)) = M0 at *
    refine sd_forF (t := .one 7) (tg_name nd) (id_keys (ev 3 rfl ⟨j, od2, kvs2, _, rfl, start.wan, ?_⟩))
    rw [eit2]
    refine ⟨fun i' c => ∃ MM, c = ([.dat (dKind b rows), .dat (dI sh), .dat (.int (spot : Nat)), .cel j, .cel 1, .dat (.int (r : Nat)), .cel M.length, .un, .un, .un, .un, .un], MM) ∧ FarM rows v (((rows.zip v).take i').foldl (addL (names rows) r) (List.replicate rows.length 0)) j M.length od2 kvs2 MM ∧ ∀ y ∈ ((rows.zip v).take i').foldl (addL (names rows) r) (List.replicate rows.length 0), y.natAbs ≤ (5 * i') * 2 ^ (11 + 12 * i), .of ⟨_, rfl, start, ?_⟩, ?_, ?_⟩
    · intro y hy
      rw [List.take_zero, List.foldl_nil] at hy
      rw [List.eq_of_mem_replicate hy]
      exact Nat.zero_le _
    · rintro i' c dd hdd ⟨MM, rfl, fm, hfb⟩
      obtain ⟨q, hq, rfl⟩ := map_get hdd
      have hi' := (List.getElem?_eq_some_iff.mp hq).1
      have hqm := List.mem_of_getElem? hq
      have hidx := idx_at bnd hq
      have hqn : q.name ∈ names rows := List.mem_map_of_mem hqm
      have hzq : (rows.zip v)[i']? = some (q, v.getD i' 0) := by
        rw [List.getElem?_zip_eq_some]
        exact ⟨hq, by rw [List.getD_eq_getElem?_getD, List.getElem?_eq_getElem (by omega)]; rfl⟩
      have step2 := foldl_take (f := addL (names rows) r) (b := List.replicate rows.length (0 : Int)) hzq
      have fwl : (((rows.zip v).take i').foldl (addL (names rows) r) (List.replicate rows.length 0)).length = rows.length := by rw [foldA_len, List.length_replicate]
      generalize ((rows.zip v).take i').foldl (addL (names rows) r) (List.replicate rows.length 0) = fw0 at *
      have hql : q.forms.length = b := ko.bk.fl q hqm
      have hform : q.forms[r]? = some (q.forms.getD r []) := by
        rw [List.getD_eq_getElem?_getD, List.getElem?_eq_getElem (by omega)]
        rfl
      have hfm : q.forms.getD r [] ∈ q.forms := List.mem_of_getElem? hform
      refine ⟨fm.wan, _, rfl, ?_⟩
      show SDs _ _ ([.dat (dKind b rows), .dat (dI sh), .dat (.int (spot : Nat)), .cel j, .cel 1, .dat (.int (r : Nat)), .cel M.length, .dat (.str q.name), .un, .un, .un, .un], MM) _ _
      have xv : valD (kvs2.map (·.1)) (v.map D.int) (Sum.inr q.name) = some (.int (v.getD i' 0)) := by
        rw [ek2, val_at hqn wl, hidx]
      have hxb : (v.getD i' 0).natAbs < 2 ^ (7 + 12 * i) := getD_bd hbd i'
      generalize v.getD i' 0 = xq at *
      have rfo : rdD MM (.cel 1) = some (.dic (nKeys rows) (rows.map fun r => D.lst (r.forms.map dForm))) := by
        show MM[1]?.map Cell.toD = _
        rw [fm.fo]
        try rfl
      refine sds_one (sd_forF (t := .tup [8, 9]) (tg_tup (tgs_cons (tgs_cons tgs_nil nd) nd)) ?_)
      refine id_list ?_
      refine ed_ix ?_
      refine ed_dget hu ?_
      refine ev 4 rfl ?_
      refine ev 7 rfl ?_
      refine ⟨nKeys rows, rows.map fun r => D.lst (r.forms.map dForm), Sum.inr q.name, _, rfo, rfl, formsV bnd hqm, ?_⟩
      refine ev 5 rfl ?_
      refine ⟨dForm (q.forms.getD r []), atI_nat (by rw [List.getElem?_map, hform]; rfl), ?_⟩
      refine ⟨(q.forms.getD r []).map dTerm, rfl, ?_⟩
      have htl := ko.terms q hqm _ hfm
      have htt := (ko.bk.tm q hqm _ hfm).2
      have htm := (ko.small q hqm).2 _ hfm
      have e5 : addL (names rows) r fw0 (q, xq) = (q.forms.getD r []).foldl (addT (names rows) xq) fw0 := rfl
      rw [e5] at step2
      generalize q.forms.getD r [] = fq at *
      refine ⟨fun l c => ∃ MM, c = ([.dat (dKind b rows), .dat (dI sh), .dat (.int (spot : Nat)), .cel j, .cel 1, .dat (.int (r : Nat)), .cel M.length, .dat (.str q.name), .un, .un, .un, .un], MM) ∧ FarM rows v ((fq.take l).foldl (addT (names rows) xq) fw0) j M.length od2 kvs2 MM ∧ ∀ y ∈ (fq.take l).foldl (addT (names rows) xq) fw0, y.natAbs ≤ (5 * i' + l) * 2 ^ (11 + 12 * i), .of ⟨MM, rfl, fm, hfb⟩, ?_, ?_⟩
      · rintro l c dd hdd ⟨M5, rfl, fm5, hb5⟩
        obtain ⟨t, ht, rfl⟩ := map_get hdd
        have htq := List.mem_of_getElem? ht
        have step3 := foldl_take (f := addT (names rows) xq) (b := fw0) ht
        have f5l : ((fq.take l).foldl (addT (names rows) xq) fw0).length = rows.length := by rw [foldT_len, fwl]
        generalize (fq.take l).foldl (addT (names rows) xq) fw0 = fw1 at *
        obtain ⟨t1, t2⟩ := htt t htq
        obtain ⟨t3, t4⟩ := htm t htq
        have hprod : (xq * t.1).natAbs ≤ 2 ^ (11 + 12 * i) := by
          have := mul_bd (a := 7 + 12 * i) (b := 4) hxb (show t.1.natAbs < 2 ^ 4 by omega)
          rw [show 7 + 12 * i + 4 = 11 + 12 * i by omega] at this
          omega
        refine ⟨rfl, _, rfl, ?_⟩
        show SDs _ _ ([.dat (dKind b rows), .dat (dI sh), .dat (.int (spot : Nat)), .cel j, .cel 1, .dat (.int (r : Nat)), .cel M.length, .dat (.str q.name), .dat (.int t.1), .dat (.str t.2), .un, .un], M5) _ _
        have rfew : rdD M5 (.cel M.length) = some (.dic (nKeys rows) (fw1.map .int)) := by
          show M5[M.length]?.map Cell.toD = _
          rw [fm5.few]
          try rfl
        have rwan : rdD M5 (.cel j) = some (.dic (kvs2.map (·.1)) (v.map .int)) := by
          show M5[j]?.map Cell.toD = _
          rw [fm5.wan]
          try rfl
        obtain ⟨p1, p2⟩ := put_at (v := fw1.getD ((names rows).idxOf t.2) 0 + xq * t.1) bnd t1 f5l
        refine sds_one (sd_dput hu (ed_add (ed_dget hu (ev 6 rfl (ev 9 rfl ⟨_, _, Sum.inr t.2, _, rfew, rfl, val_at t1 f5l, ed_mul (ed_dget hu (ev 3 rfl (ev 7 rfl ⟨_, _, Sum.inr q.name, _, rwan, rfl, xv, ev 8 rfl ⟨mulB_of (a := 7 + 12 * i) (b := 4) hxb (by omega) (by omega), ?_⟩⟩)))⟩)))))
        refine ev 6 rfl ⟨M.length, rfl, ev 9 rfl ⟨_, nKeys rows, fw1.map .int, Sum.inr t.2, rfl, rfl, fm5.few, szlt (by rw [List.length_map]; omega), ?_⟩⟩
        rw [p1, p2]
        refine UpG.by (e0 := [.dat (dKind b rows), .dat (dI sh), .dat (.int (spot : Nat)), .cel j, .cel 1, .dat (.int (r : Nat)), .cel M.length, .dat (.str q.name), .un, .un, .un, .un]) ⟨_, rfl, ?_, ?_⟩ ⟨.inl rfl, .inl rfl, .inl rfl, .inl rfl, .inl rfl, .inl rfl, .inl rfl, .inl rfl, .inr rfl, .inr rfl, .inl rfl, .inl rfl, trivial⟩
        · rw [step3]
          exact fm5.put (by omega) (by omega)
        · rw [step3]
          have := addT_bd (ns := names rows) (t := t) hb5 hprod
          intro y hy
          have := this y hy
          rw [show 5 * i' + (l + 1) = 5 * i' + l + 1 by omega]
          exact this
      · rintro c ⟨M5, rfl, fm5, hb5⟩
        rw [List.length_map] at fm5 hb5
        rw [List.take_length, ← step2] at fm5 hb5
        refine ⟨rfl, UpG.by (e0 := [.dat (dKind b rows), .dat (dI sh), .dat (.int (spot : Nat)), .cel j, .cel 1, .dat (.int (r : Nat)), .cel M.length, .un, .un, .un, .un, .un]) ⟨M5, rfl, fm5, fun y hy => ?_⟩ ⟨.inl rfl, .inl rfl, .inl rfl, .inl rfl, .inl rfl, .inl rfl, .inl rfl, .inr rfl, .inl rfl, .inl rfl, .inl rfl, .inl rfl, trivial⟩⟩
        refine Nat.le_trans (hb5 y hy) (Nat.mul_le_mul_right _ (by omega))
    · rintro c ⟨M5, rfl, fm5, hb5⟩
      rw [List.length_map] at fm5 hb5
      have ezl : (rows.zip v).length = rows.length := by rw [List.length_zip, wl, Nat.min_self]
      have etk : (rows.zip v).take rows.length = rows.zip v := List.take_of_length_le (by omega)
      rw [etk, rowV_eq wl, ← step] at fm5 hb5
      refine ⟨fm5.wan, fm5.wan, ?_⟩
      rw [ek2]
      refine sds_one (sd_set (i := 3) (ev 6 rfl ?_) nd)
      refine UpG.by (e0 := [.dat (dKind b rows), .dat (dI sh), .dat (.int (spot : Nat)), .cel M.length, .cel 1, .un, .un, .un, .un, .un, .un, .un]) ⟨_, M.length, rfl, by omega, ?_, ?_, ?_⟩ ⟨.inl rfl, .inl rfl, .inl rfl, .inl rfl, .inl rfl, .inr rfl, .inr rfl, .inl rfl, .inl rfl, .inl rfl, .inl rfl, .inl rfl, trivial⟩
      · rw [List.getElem?_set_ne (by omega)]
        exact fm5.few
      · rw [List.getElem?_set_ne hj1]
        exact fm5.fo
      · intro y hy
        have h1 := hb5 y hy
        have h2 : 5 * rows.length * 2 ^ (11 + 12 * i) ≤ 130 * 2 ^ (11 + 12 * i) := Nat.mul_le_mul_right _ (by omega)
        have h3 : 2 ^ (7 + 12 * (i + 1)) = 256 * 2 ^ (11 + 12 * i) := by
          rw [show 7 + 12 * (i + 1) = 8 + (11 + 12 * i) by omega, Nat.pow_add]
        have h4 := Nat.two_pow_pos (11 + 12 * i)
        omega
  · rintro c ⟨M, j, rfl, hj1, hMj, hM1, hbd⟩
    rw [List.length_map] at hMj hbd
    rw [List.take_length] at hMj hbd
    have wl : ((figR b spot).foldl (rowV rows) sh).length = rows.length := by
      cases hfg : (figR b spot).reverse with
      | nil =>
        rw [List.reverse_eq_nil_iff] at hfg
        rw [hfg]
        exact hsl
      | cons g gs =>
        have : figR b spot = gs.reverse ++ [g] := by
          rw [← List.reverse_reverse (figR b spot), hfg, List.reverse_cons]
        rw [this, List.foldl_append]
        exact rowV_len
    rw [farVal] at hP
    generalize (figR b spot).foldl (rowV rows) sh = v at *
    refine ⟨rfl, sds_one (sd_ret (ed_sum hs (ed_of_en (en_lc (own := [("line", 10)]) (t := .one 10) nd (blkOk_by (N := nsFar) (sc := defScope s_Lfar) (by decide +kernel)) (fun s H C cl fp => tg_name nd) ?_))))⟩
    refine id_list (ed_ix (ev 0 rfl (ed_int ⟨.lst (rows.map dNR), rfl, rows.map dNR, rfl, ?_⟩)))
    refine lcd_map rows dNR (fun q => .int (v.getD ((names rows).idxOf q.name) 0 * q.start)) rfl (szl (by omega)) ?_ (fun acc => rfl) ?_
    · intro q hq acc
      refine ⟨_, rfl, fun s H C cl fp => ?_⟩
      refine ed_mul (ed_dget hu (ev 3 rfl (ed_ix (ev 10 rfl (ed_int ⟨.str q.name, rfl, nKeys rows, v.map .int, Sum.inr q.name, _, ?_, rfl, val_at (List.mem_map_of_mem hq) wl, ?_⟩)))))
      · show (M ++ [Cell.lst acc])[j]?.map Cell.toD = _
        rw [List.getElem?_append_left (List.getElem?_eq_some_iff.mp hMj).1, hMj]
        rfl
      · refine ed_ix (ev 10 rfl (ed_int ⟨.int q.start, rfl, mulB_of (a := 7 + 12 * (figR b spot).length) (b := 10) (getD_bd hbd _) ?_ (by omega), rfl, rfl⟩))
        have := (ko.small q hq).1
        omega
    · refine ⟨rows.map fun q => v.getD ((names rows).idxOf q.name) 0 * q.start, by simp [rdD, Function.comp_def], ret_dat (po0 ?_)⟩
      have e : (rows.map fun q => v.getD ((names rows).idxOf q.name) 0 * q.start) = List.zipWith (· * ·) v (rows.map NR.start) := by
        refine List.ext_getElem (by simp [wl]) fun i h1 h2 => ?_
        have hi : i < rows.length := by simpa using h1
        have := idx_at bnd (List.getElem?_eq_getElem hi)
        simp only [List.getElem_map, List.getElem_zipWith, this]
        rw [List.getD_eq_getElem?_getD, List.getElem?_eq_getElem (by omega)]
        rfl
      rw [e]
      exact hP
end
end Fb
set_option Elab.async false
set_option linter.all false
set_option maxRecDepth 100000
set_option maxHeartbeats 4000000
/-! k53: the law's right. -/
namespace Fb
open PySem L2 Dl
def cRight53 : Ct := fun args M P => ∃ (k : Nat) (d : List D), args = [.cel 0] ∧ M = [.lst d] ∧ PoolOk k d ∧ k ≤ 800000000 ∧ ∀ d', PoolOk (k + 7000) d' → P false (.bl true) [.lst d']
theorem eqD_blB {i j : Bool} : eqD (.bl i) (.bl j) = decide (i = j) := by cases i <;> cases j <;> rfl
theorem cut_midK {α : Type} {xs : List α} {i n : Nat} (h : i + n ≤ xs.length) : cutD xs (some (i : Int)) (some ((i : Int) + (n : Int))) = (xs.drop i).take n := by
  rw [show (i : Int) + (n : Int) = ((i + n : Nat) : Int) by omega]
  unfold cutD
  rw [HT.sIx_nat, HT.sIx_nat, Nat.min_eq_left h, Nat.min_eq_left (show i ≤ xs.length by omega)]
  congr 1
  omega
theorem drop_range {a : Nat → Int} {i n m : Nat} (h : i + n ≤ m) : ((((List.range m).map a).map D.int).drop i).take n = ((List.range n).map fun j => a (i + j)).map D.int := by
  refine List.ext_getElem (by simp; omega) fun j h1 h2 => ?_
  simp at h2
  simp
theorem shD_ints {xs : List Int} (h : ∀ x ∈ xs, x.natAbs < 10 ^ 4300) (hl : xs.length ≤ 100) : wide (toPy (dI xs)) = true ∧ (shD (dI xs)).length ≤ sizeLine := by
  have key : ∀ ys : List Int, (∀ x ∈ ys, x.natAbs < 10 ^ 4300) → wides (toPys (ys.map D.int)) = true ∧ ((PyData.shownAll (toPys (ys.map D.int))).map (·.length)).sum ≤ 4301 * ys.length ∧ (PyData.shownAll (toPys (ys.map D.int))).length = ys.length := by
    intro ys
    induction ys with
    | nil => exact fun _ => ⟨rfl, Nat.le_refl _, rfl⟩
    | cons y ys ih =>
      intro hy
      obtain ⟨i1, i2, i3⟩ := ih fun x hx => hy x (List.mem_cons_of_mem _ hx)
      have h0 := hy y List.mem_cons_self
      have ht : (Str.ofString (toString y)).length ≤ 4301 := by
        rw [ofString_length]
        exact int_text_length_le10 (by decide) h0
      have e1 : toPys ((y :: ys).map D.int) = PyData.int y :: toPys (ys.map D.int) := rfl
      have e2 : PyData.shownAll (PyData.int y :: toPys (ys.map D.int)) = Str.ofString (toString y) :: PyData.shownAll (toPys (ys.map D.int)) := rfl
      rw [e1, e2]
      refine ⟨?_, ?_, ?_⟩
      · rw [wides, i1, wide, decide_eq_true h0]
        rfl
      · rw [List.map_cons, List.sum_cons, List.length_cons]
        clear h0 hy
        omega
      · rw [List.length_cons, List.length_cons, i3]
  obtain ⟨k1, k2, k3⟩ := key xs h
  refine ⟨?_, ?_⟩
  · show wide (.list (toPys (xs.map D.int))) = true
    rw [wide]
    exact k1
  · have e : shD (dI xs) = listText (PyData.shownAll (toPys (xs.map D.int))) := by
      show PyData.shown (.list (toPys (xs.map D.int))) = _
      rw [PyData.shown]
    have z := listText_len_le (PyData.shownAll (toPys (xs.map D.int)))
    rw [e, sizeLine_eq]
    clear h key
    omega
theorem KindOk.up {b m m' : Nat} {rows : List NR} (h : KindOk b rows m) (l : m ≤ m') : KindOk b rows m' := ⟨h.bk, h.some, Nat.le_trans h.few l, h.terms, h.small⟩
section
variable {P : Program} {w : World} {K : PySem.W.Frag} {mg : Str → Option Value} {base : Heap}
abbrev nsR53 : List Str := ["pool", "kind", "shares", "some", "one", "begin", "size", "line", "told", "at", "kept", "often", "back", "share", "value"]
theorem body_right53 {f CR CB : Addr} (hl : mg "len" = none) (hrg : mg "range" = none) (hs : mg "sum" = none) (hen : mg "enumerate" = none) (hrp : mg "repr" = none) (hnd : base.NoDigits) (GD : FnG P w K mg base 1 "_law_draw" cDraw) (GK : FnG P w K mg base 4 "_law_kind" cKindF) (GN : FnG P w K mg base 2 "_law_known" cKnown) (GS : FnG P w K mg base 2 "_law_shares" cShares)
    (GO : FnG P w K mg base 2 "_law_some" cSomeF) (GR : FnG P w K mg base 6 "_law_rowed" (cRowed CR CB)) (GP : FnG P w K mg base 2 "_law_spot" cSpotF) (GF : FnG P w K mg base 2 "_law_far" cLFar) (GL : FnG P w K mg base 1 "_law_place" cPlaceK) (GC : FnG P w K mg base 5 "recurrence" (cRecur CR CB)) (GCK : FnKG P w K mg base 5 "recurrence" ["block", "head", "row"] [2, 1, 0] (cRecur CR CB))
    (GX : FnG P w K mg base 1 "_law_rank" cRankF) (GE : OwnG P w K mg base 2 CR (cRowEq CR CB)) : BodyOkR P w K mg base 6 nsR53 ["pool"] "_law_right" s_Lright f cRight53 := by
  intro cdv A outer s H E hgd hr args M P0 ⟨k, d, e1, e2, hp, hk, hP⟩
  subst e1
  subst e2
  have hu := hr.units
  have hr1 : Room 1 (A.deeper (PyProof.Rows.envOfC "_law_right" (defScope s_Lright) s.heap.objs.size f cdv)) := hr.mono (by decide)
  have hr2 : Room 2 (A.deeper (PyProof.Rows.envOfC "_law_right" (defScope s_Lright) s.heap.objs.size f cdv)) := hr.mono (by decide)
  have hr4 : Room 4 (A.deeper (PyProof.Rows.envOfC "_law_right" (defScope s_Lright) s.heap.objs.size f cdv)) := hr.mono (by decide)
  have hr5 : Room 5 (A.deeper (PyProof.Rows.envOfC "_law_right" (defScope s_Lright) s.heap.objs.size f cdv)) := hr.mono (by decide)
  have nd := sc_Lright.nd
  have pool1 : ∀ (d : List D) (x : D), CallAt [0] [.cel 0, .dat x] [.cel 0, .dat x] [.lst d] := fun d x => call_pool' rfl
  have pool0 : ∀ (d : List D), CallAt [0] [.cel 0] [.cel 0] [.lst d] := fun d => ⟨rfl, by decide, fun k hk => ⟨_, by cases List.mem_singleton.mp hk; rfl, rfl⟩, fun e he => by
    cases List.mem_singleton.mp he
    exact Nat.zero_lt_one⟩
  show SDs _ _ ([.cel 0, .un, .un, .un, .un, .un, .un, .un, .un, .un, .un, .un, .un, .un, .un], [.lst d]) _ _
  refine sds_cut (fun c => ∃ b rows d1, c = ([.cel 0, .dat (dKind b rows), .un, .un, .un, .un, .un, .un, .un, .un, .un, .un, .un, .un, .un], [.lst d1]) ∧ KindOk b rows 4 ∧ PoolOk (k + 5010) d1) (sd_set (i := 1) (ed_if (td_gt (ed_draw GD hr1 0 rfl (ed_int ⟨4, k, d, _, rfl, rfl, hp, by omega, by decide, by decide, fun v1 d1 a1 b1 hp1 => ?_⟩)))) nd) ?_
  · refine ed_int ⟨_, _, rfl, rfl, trivial, _, rfl, fun _ => ?_, fun _ => ?_⟩
    · refine ed_call GK hr4 (ad_cons (ev 0 rfl (ad_cons (ed_int (ad_nil ⟨[0], [.cel 0, .dat (.int ((4 : Nat) : Int))], pool1 _ _, _, d1, 4, rfl, rfl, hp1, by omega, by decide, by decide, fun b rows d2 ko hp2 => ?_⟩)))))
      exact ⟨b, rows, d2, rfl, ko, hp2.mono (by omega)⟩
    · refine ed_ix (ed_call GN hr2 (ad_cons (ev 0 rfl (ad_nil ⟨[0], [.cel 0], pool0 _, _, d1, rfl, rfl, hp1, by omega, fun rows x d2 ko hx hp2 => ed_int ⟨dKind 2 rows, rfl, ?_⟩⟩))))
      exact ⟨2, rows, d2, rfl, ko.up (by decide), hp2.mono (by omega)⟩
  rintro c ⟨b, rows, d1, rfl, ko, hp1⟩
  have hb := ko.bk.base
  have r1 := ko.some
  have r4 : rows.length ≤ 4 := ko.few
  refine sds_cons (sd_unp (t := .tup [2, 3]) (tg_tup (tgs_cons (tgs_cons tgs_nil nd) nd)) (ed_tup (ad_cons (ed_call GS hr2 (ad_cons (ev 0 rfl (ad_cons (ev 1 rfl (ad_nil ⟨[0], [.cel 0, .dat (dKind b rows)], pool1 _ _, _, d1, b, rows, rfl, rfl, hp1, by omega, r1, by omega, fun sh d2 hsl hs9 hp2 => ?_⟩)))))))))
  refine ad_cons (ed_call GO hr2 (ad_cons (ev 0 rfl (ad_cons (ev 1 rfl (ad_nil ⟨[0], [.cel 0, .dat (dKind b rows)], pool1 _ _, _, d2, b, rows, rfl, rfl, hp2, by omega, hb.1, hb.2, fun bl d3 bl1 bl4 hf hp3 => ?_⟩))))))
  refine ad_nil ⟨[_, _], rfl, szl (by simp), _, _, rfl, rfl, ?_⟩
  show SDs _ _ ([.cel 0, .dat (dKind b rows), .dat (dI sh), .dat (dN bl), .un, .un, .un, .un, .un, .un, .un, .un, .un, .un, .un], [.lst d3]) _ _
  refine sds_cons (sd_unp (t := .tup [4, 5, 6]) (tg_tup (tgs_cons (tgs_cons (tgs_cons tgs_nil nd) nd) nd)) (ed_tup ?_))
  refine ad_cons (ed_callp GR hr (ad_cons (ev 1 rfl (ad_cons (ev 2 rfl (ad_nil ⟨[_, _], rfl, 5, b, rows, sh, rfl, rfl, ko.bk, hsl, ?_⟩))))))
  refine ad_cons (ed_ix (ed_lst (ad_cons (ed_int (ad_cons (ed_int (ad_cons (ed_call GP hr2 (ad_cons (ev 0 rfl (ad_nil ⟨[0], [.cel 0], pool0 _, _, d3, rfl, rfl, hp3, by omega, fun v4 d4 h4 hp4 => ?_⟩)))))))))))
  refine ad_nil ⟨[_, _, _], rfl, szl (by simp), ?_⟩
  refine ed_draw GD hr1 0 rfl (ed_int ⟨3, _, d4, [], rfl, rfl, hp4, by omega, by decide, by decide, fun v5 d5 a5 b5 hp5 => ?_⟩)
  obtain ⟨xh, hxh, head, rfl, hh⟩ := three (P := fun x => ∃ h : Nat, x = .int (h : Nat) ∧ h ≤ 10 ^ 30) a5 b5 ⟨0, rfl, by decide⟩ ⟨1, rfl, by decide⟩ ⟨v4, rfl, h4⟩
  refine ⟨_, hxh, ?_⟩
  have hh100 : head < 2 ^ 100 := Nat.lt_of_le_of_lt hh (by decide)
  have fr : FarRow b rows 4 sh head bl := ⟨ko, r4, hsl, hs9, hf, by omega, by omega, figR_len hb.1 100 head hh100⟩
  refine ad_cons (ed_len hl (ed_ix (ev 1 rfl (ed_int ⟨.lst (rows.map dNR), rfl, _, rows.length, rfl, by simp [LenOk], ad_nil ⟨[_, _, _], rfl, szl (by simp), _, _, rfl, rfl, ?_⟩⟩))))
  obtain ⟨rok, dd, c, hdn, hrec, H1, H2, hcb⟩ := row_rec (head := head) (bl := bl) ko r4 hsl hs9 hf fr.b4 fr.hf
  have H1' : ∀ i, aOf b rows sh head bl (dd + i) = sm (fun j => c j * aOf b rows sh head bl (j + i)) dd := H1
  have H2' : ∀ x : Nat → Int, (∀ i, i < rows.length → sm (fun j => x j * aOf b rows sh head bl (j + i)) dd = 0) → ∀ j, j < dd → x j = 0 := H2
  have tells := tells_of H1'
  have hrank := rank_eq hdn H1' H2'
  have hbits : ∀ t, t ≤ 20 → (aOf b rows sh head bl t).natAbs < 2 ^ 1200 := fun t ht => fr.bits ht
  have efar : ∀ t, farVal b rows sh (placeV b head bl t) = aOf b rows sh head bl t := fun t => by rw [farVal_eq hb.1, col_place ko.bk hf, aOf]
  show SDs _ _ ([.cel 0, .dat (dKind b rows), .dat (dI sh), .dat (dN bl), .dat (dRow CR CB b rows sh), .dat (.int (head : Nat)), .dat (.int (rows.length : Nat)), .un, .un, .un, .un, .un, .un, .un, .un], [.lst d5]) _ _
  refine sds_cons (sd_set (i := 7) (ed_of_en (en_lc (own := [("often", 11)]) (t := .one 11) nd (blkOk_by (N := nsR53) (sc := defScope s_Lright) (by decide +kernel)) (fun s H C cl fp => tg_name nd) ?_)) (by exact nd))
  refine id_range1 hrg (ed_int ⟨20, rfl, by decide, by decide, ?_⟩)
  refine lcd_map (List.range 20) (fun i => D.int (0 + (i : Nat))) (fun i => .int (aOf b rows sh head bl i)) (rangeD_map _ _) (szl (by simp)) ?_ (fun acc => trivial) ?_
  · intro t ht acc
    have ht := List.mem_range.mp ht
    have hpl := placeV_lt hb.2 hf hh100 t
    have hyl : t * (2 * bl.length) ≤ 19 * 8 := Nat.mul_le_mul (by omega) (by omega)
    refine ⟨_, rfl, fun s H C cl fp => ?_⟩
    refine ed_callp GF hr2 (ad_cons (ev 1 rfl (ad_cons (ev 2 rfl (ad_cons (ed_callp GL hr1 (ad_cons (ev 1 rfl (ad_cons (ev 5 rfl (ad_cons (ev 3 rfl (ad_cons (ev 11 rfl (ad_nil ⟨[_, _, _, _], rfl, b, rows, head, bl, t, ?_, rfl, hb.2, Nat.lt_of_lt_of_le hh100 (Nat.pow_le_pow_right (by decide) (by decide)), by omega, hf, by omega, ad_nil ⟨[_, _, _], rfl, b, rows, sh, placeV b head bl t, 4, rfl, rfl, ko, by decide, hsl, fun x hx => Nat.lt_of_le_of_lt (hs9 x hx) (by decide), Nat.le_trans (figR_len hb.1 _ _ hpl) (by omega), ?_⟩⟩)))))))))))))))
    · simp
    · rw [efar]
      exact ⟨rfl, rfl⟩
  have el20 : (D.lst ((List.range 20).map fun i => D.int (aOf b rows sh head bl i))) = dI ((List.range 20).map (aOf b rows sh head bl)) := by simp [dI, Function.comp_def]
  rw [el20]
  show SDs _ _ ([.cel 0, .dat (dKind b rows), .dat (dI sh), .dat (dN bl), .dat (dRow CR CB b rows sh), .dat (.int (head : Nat)), .dat (.int (rows.length : Nat)), .dat (dI ((List.range 20).map (aOf b rows sh head bl))), .un, .un, .un, .un, .un, .un, .un], [.lst d5]) _ _
  refine sds_cons (sd_set (i := 8) (ed_new (en_callp GC hr5 (ad_cons (ev 4 rfl (ad_cons (ev 5 rfl (ad_cons (ev 3 rfl (ad_nil ⟨[_, _, _], rfl, 5, b, rows, sh, head, bl, rfl, rfl, fr.row, fr.far (by omega), rok, rfl, ?_⟩)))))))))  (by exact nd))
  rw [hrec]
  have lineB : Bd 4025 ((List.range dd).map fun back => c (dd - 1 - back)) := fun x hx => by
    obtain ⟨t, ht, rfl⟩ := List.mem_map.mp hx
    have := List.mem_range.mp ht
    exact hcb _ (by omega)
  have lineL : ((List.range dd).map fun back => c (dd - 1 - back)).length = dd := by simp
  have hz : dd = 0 → ∀ i, aOf b rows sh head bl i = 0 := fun h0 i => by
    have z := H1' i
    rw [h0, Nat.zero_add] at z
    exact z
  have hnz : 1 ≤ dd → ¬ ∀ i, i < 20 → aOf b rows sh head bl i = 0 := fun h1 z => by
    have key := H2' (fun j => if j = 0 then 1 else 0) (fun i hi => by
      rw [sm_one (t := 0) (by omega) fun j hj hne => by rw [if_neg hne, Int.zero_mul]]
      show 1 * aOf b rows sh head bl (0 + i) = 0
      rw [z (0 + i) (by omega)]
      rfl) 0 (by omega)
    simp at key
  have a20 : ∀ i, i < 20 → L2.atI (((List.range 20).map (aOf b rows sh head bl)).map D.int) (i : Nat) = some (.int (aOf b rows sh head bl i)) := fun i hi => atI_nat (by simp [List.getElem?_range hi])
  generalize aOf b rows sh head bl = a at *
  generalize (List.range dd).map (fun back => c (dd - 1 - back)) = told at *
  show SDs _ _ ([.cel 0, .dat (dKind b rows), .dat (dI sh), .dat (dN bl), .dat (dRow CR CB b rows sh), .dat (.int (head : Nat)), .dat (.int (rows.length : Nat)), .dat (dI ((List.range 20).map a)), .cel 1, .un, .un, .un, .un, .un, .un], [.lst d5, .lst (told.map .int)]) _ _
  -- as many terms as the rank
  have hX : ∀ M : Mem, (D.lst ((List.range rows.length).map fun i => dI ((List.range rows.length).map fun j => a (i + j)))) = dM ((List.range rows.length).map fun i => (List.range rows.length).map fun j => a (i + j)) := fun _ => by simp [dM, Function.comp_def]
  refine sds_cons (sd_if (td_neI hu (ed_len hl (ev 8 rfl ⟨_, told.length, rfl, by simp [LenOk, Cell.toD], ed_callp GX hr1 (ad_cons (ed_of_en (en_lc (own := [("at", 9)]) (t := .one 9) nd (blkOk_by (N := nsR53) (sc := defScope s_Lright) (by decide +kernel)) (fun s H C cl fp => tg_name nd) ?_)))⟩))))
  refine id_range1 hrg (ev 6 rfl ⟨_, rfl, by omega, by omega, ?_⟩)
  refine lcd_map (List.range rows.length) (fun i => D.int (0 + (i : Nat))) (fun i => dI ((List.range rows.length).map fun j => a (i + j))) (by rw [rangeD_map]; simp) (szl (by simp; omega)) ?_ (fun acc => trivial) ?_
  · intro t ht acc
    have ht := List.mem_range.mp ht
    refine ⟨_, rfl, fun s H C cl fp => ?_⟩
    refine ed_of_en (en_slice (ev 7 rfl (od_some (ev 9 rfl ⟨_, rfl, od_some (ed_add (ev 9 rfl (ev 6 rfl ?_)))⟩))))
    refine ⟨_, rfl, _, rfl, ?_, rfl⟩
    rw [Int.zero_add, cut_midK (by simp; omega), drop_range (by omega)]
    rfl
  rw [hX []]
  refine ad_nil ⟨[_], rfl, _, rows.length, rfl, rfl, by simp, r4, fun l hl => ?_, ?_⟩
  · obtain ⟨t, ht, rfl⟩ := List.mem_map.mp hl
    have ht := List.mem_range.mp ht
    refine ⟨by simp, fun x hx => ?_⟩
    obtain ⟨j, hj, rfl⟩ := List.mem_map.mp hx
    have hj := List.mem_range.mp hj
    exact Nat.lt_of_lt_of_le (hbits _ (by omega)) (Nat.pow_le_pow_right (by decide) (by decide))
  rw [hrank]
  refine ⟨_, _, rfl, rfl, fun hbad => ?_, fun _ => sds_nil ?_⟩
  · rw [lineL] at hbad
    simp at hbad
  -- it goes on
  refine sds_cons (sd_forF (t := .one 9) (tg_name nd) (id_range2 hrg (ad_cons (ed_len hl (ev 8 rfl ⟨_, told.length, rfl, by simp [LenOk, Cell.toD], ad_cons (ed_int (ad_nil ⟨_, _, rfl, by omega, ?_⟩))⟩)))))
  refine ⟨fun i c => c = ([.cel 0, .dat (dKind b rows), .dat (dI sh), .dat (dN bl), .dat (dRow CR CB b rows sh), .dat (.int (head : Nat)), .dat (.int (rows.length : Nat)), .dat (dI ((List.range 20).map a)), .cel 1, .un, .un, .un, .un, .un, .un], [.lst d5, .lst (told.map .int)]), .of rfl, ?_, ?_⟩
  · rintro i c dd2 hdd rfl
    rw [rangeD_map] at hdd
    obtain ⟨y, hy, rfl⟩ := map_get hdd
    have hyi : y = i := by
      have := (List.getElem?_eq_some_iff.mp hy).2
      simpa using this.symm
    subst hyi
    have hi : y < 20 - dd := by
      have := (List.getElem?_eq_some_iff.mp hy).1
      simp [lineL] at this
      omega
    refine ⟨trivial, _, rfl, ?_⟩
    have hsp : ((told.length : Nat) : Int) + (y : Nat) = ((told.length + y : Nat) : Int) := by push_cast; rfl
    rw [hsp]
    have key := tells (told.length + y) (by omega)
    have hq20 : told.length + y < 20 := by omega
    have hqt : told.length ≤ told.length + y := by omega
    generalize told.length + y = q at *
    show SDs _ _ ([.cel 0, .dat (dKind b rows), .dat (dI sh), .dat (dN bl), .dat (dRow CR CB b rows sh), .dat (.int (head : Nat)), .dat (.int (rows.length : Nat)), .dat (dI ((List.range 20).map a)), .cel 1, .dat (.int (q : Nat)), .un, .un, .un, .un, .un], [.lst d5, .lst (told.map .int)]) _ _
    refine sds_one (sd_if (td_neI hu (ed_ix (ev 7 rfl (ev 9 rfl ⟨_, a20 q hq20, ed_sum hs (ed_of_en (en_lc (own := [("back", 12), ("share", 13)]) (t := .tup [12, 13]) nd (blkOk_by (N := nsR53) (sc := defScope s_Lright) (by decide +kernel)) (fun s H C cl fp => tg_tup (tgs_cons (tgs_cons tgs_nil nd) nd)) ?_))⟩)))))
    refine id_enum hen (ev 8 rfl ⟨_, rfl, ?_⟩)
    refine lcd_map told.zipIdx (fun p => .tup [.int (p.2 : Nat), .int p.1]) (fun p => .int (p.1 * a (q - 1 - p.2))) (enumD_map _ told 0) (szl (by simp; omega)) ?_ (fun acc => rfl) ?_
    · intro p hp acc
      obtain ⟨x, j⟩ := p
      have hx := List.mem_zipIdx hp
      have hj : j < told.length := by omega
      have hxm : x ∈ told := by
        have := hx.2.2
        rw [this]
        exact List.getElem_mem _
      refine ⟨_, rfl, fun s H C cl fp => ?_⟩
      have eix : ((q : Int) - 1 - (j : Nat)) = ((q - 1 - j : Nat) : Int) := by omega
      have g2 : L2.atI (((List.range 20).map a).map D.int) ((q : Int) - 1 - (j : Nat)) = some (.int (a (q - 1 - j))) := by
        rw [eix]
        exact a20 _ (by omega)
      exact ed_mul (ev 13 rfl (ed_ix (ev 7 rfl (ed_sub (ed_sub (ev 9 rfl (ed_int ⟨_, _, rfl, rfl, trivial, ev 12 rfl ⟨_, _, rfl, rfl, trivial, _, g2, mulB_of (a := 4025) (b := 1200) (lineB x hxm) (hbits _ (by omega)) (by decide), rfl, rfl⟩⟩)))))))
    · refine ⟨(List.range told.length).map fun at' => told.getD at' 0 * a (q - 1 - at'), ?_, _, _, rfl, rfl, fun hbad => ?_, fun _ => sds_nil (UpG.by (e0 := [.cel 0, .dat (dKind b rows), .dat (dI sh), .dat (dN bl), .dat (dRow CR CB b rows sh), .dat (.int (head : Nat)), .dat (.int (rows.length : Nat)), .dat (dI ((List.range 20).map a)), .cel 1, .un, .un, .un, .un, .un, .un]) rfl ⟨.inl rfl, .inl rfl, .inl rfl, .inl rfl, .inl rfl, .inl rfl, .inl rfl, .inl rfl, .inl rfl, .inr rfl, .inl rfl, .inl rfl, .inl rfl, .inl rfl, .inl rfl, trivial⟩)⟩
      · show some (D.lst _) = some (D.lst _)
        refine congrArg (fun z => some (D.lst z)) (List.ext_getElem (by simp) fun j h1 h2 => ?_)
        simp at h1 h2
        simp [List.getD_eq_getElem?_getD, List.getElem?_eq_getElem h1]
      · rw [← key] at hbad
        simp at hbad
  rintro c rfl
  refine ⟨trivial, ?_⟩
  -- nothing is told of 0 alone
  refine sds_cons (sd_if (td_ne hu (ed_eq hu (ev 8 rfl (ed_lst (ad_nil ⟨[], rfl, Nat.zero_le _, dI told, dI [], rfl, rfl, okD_dI _, okD_dI _, ed_eq hu ?_⟩))))))
  refine ed_of_en (en_lc (own := [("value", 14)]) (t := .one 14) nd (blkOk_by (N := nsR53) (sc := defScope s_Lright) (by decide +kernel)) (fun s H C cl fp => tg_name nd) ?_)
  refine id_list (ev 7 rfl ⟨_, rfl, ?_⟩)
  refine lcd_filter ((List.range 20).map a) D.int (fun v => v != 0) D.int rfl (szl (by simp)) ?_ (fun acc => rfl) ?_
  · intro v hv acc
    refine ⟨_, rfl, fun s H C cl fp => ?_, fun _ s H C cl fp => ev 14 rfl ⟨rfl, rfl⟩⟩
    exact td_neI hu (ev 14 rfl (ed_int ⟨_, _, rfl, rfl, rfl, rfl⟩))
  refine ed_lst (ad_nil ⟨[], rfl, Nat.zero_le _, dI (((List.range 20).map a).filter fun v => v != 0), dI [], rfl, rfl, okD_dI _, okD_dI _, _, _, rfl, rfl, okN_bl.ok, okN_bl.ok, _, rfl, fun hbad => ?_, fun _ => sds_nil ?_⟩)
  · exfalso
    rw [eqD_blB, eqD_dI, eqD_dI] at hbad
    have e : (told = []) ↔ (((List.range 20).map a).filter (fun v => v != 0) = []) := by
      rw [List.filter_eq_nil_iff]
      constructor
      · intro h x hx
        obtain ⟨t, ht, rfl⟩ := List.mem_map.mp hx
        rw [hz (by rw [← lineL, h]; rfl) t]
        decide
      · intro h
        refine List.eq_nil_of_length_eq_zero ?_
        rcases Nat.eq_zero_or_pos dd with h0 | h0
        · omega
        · exact absurd (fun i hi => by
            have := h (a i) (List.mem_map_of_mem (List.mem_range.mpr hi))
            simpa using this) (hnz h0)
    by_cases h1 : told = [] <;> by_cases h2 : ((List.range 20).map a).filter (fun v => v != 0) = [] <;> simp [h1, h2] at hbad <;> simp [h1, h2] at e
  have tw := shD_ints (xs := told) (fun x hx => Nat.lt_of_lt_of_le (Nat.lt_of_lt_of_le (lineB x hx) (Nat.pow_le_pow_right (by decide) (show 4025 ≤ 12900 by decide))) PyProof.Rows.pow_lo) (by omega)
  have hun : (A.deeper (PyProof.Rows.envOfC "_law_right" (defScope s_Lright) s.heap.objs.size f cdv)).units + 130 < cLine := by
    have := hr.un
    omega
  show SDs _ _ ([.cel 0, .dat (dKind b rows), .dat (dI sh), .dat (dN bl), .dat (dRow CR CB b rows sh), .dat (.int (head : Nat)), .dat (.int (rows.length : Nat)), .dat (dI ((List.range 20).map a)), .cel 1, .un, .un, .un, .un, .un, .un], [.lst d5, .lst (told.map .int)]) _ _
  refine sds_cons (sd_set (i := 10) (ed_repr hrp hnd hgd hun (ev 8 rfl ⟨dI told, rfl, (okN_dI told).p, tw.1, rfl, Nat.le_trans (okN_dI told).n (by decide), tw.2, ?_⟩)) (by exact nd))
  refine sds_cons (sd_expr (ed_append (ev 8 rfl ⟨1, _, rfl, rfl, ed_int ⟨_, _, rfl, rfl, szlt (by simp; omega), ?_⟩⟩)))
  show SDs _ _ ([.cel 0, .dat (dKind b rows), .dat (dI sh), .dat (dN bl), .dat (dRow CR CB b rows sh), .dat (.int (head : Nat)), .dat (.int (rows.length : Nat)), .dat (dI ((List.range 20).map a)), .cel 1, .un, .dat (.str (shD (dI told))), .un, .un, .un, .un], [.lst d5, .lst (told.map .int ++ [.int 1])]) _ _
  refine sds_one (sd_ret (ed_and (ed_eqS (ed_repr hrp hnd hgd hun (ed_callKp GCK hr5 (kd_cons (ev 3 rfl (kd_cons (ev 5 rfl (kd_cons (ev 4 rfl (kd_nil ⟨rfl, [_, _, _], rfl, 5, b, rows, sh, head, bl, rfl, rfl, fr.row, fr.far (by omega), rok, ?_⟩))))))))))))
  rw [hrec]
  refine ⟨dI told, rfl, (okN_dI told).p, tw.1, rfl, Nat.le_trans (okN_dI told).n (by decide), tw.2, ev 10 rfl ⟨_, _, rfl, rfl, _, rfl, fun _ => ?_, fun z => ?_⟩⟩
  · refine ed_one (ed_own GE hr2 (ev 4 rfl (ed_callp GR hr (ad_cons (ev 1 rfl (ad_cons (ev 2 rfl (ad_nil ⟨[_, _], rfl, 5, b, rows, sh, rfl, rfl, ko.bk, hsl, ⟨_, _, rfl⟩, ⟨CR, _, _, rfl, nf_same⟩, [], [_, _], callAt_pure (ds := [_, _]), 5, b, rows, sh, 5, b, rows, sh, rfl, rfl, ko.bk, ko.bk, rfl, _, rfl, ret_dat (po1 ?_ rfl)⟩))))))))
    have := hP d5 (hp5.mono (by omega))
    simpa [updM] using this
  · simp at z
end
end Fb
set_option Elab.async false
set_option linter.all false
set_option maxRecDepth 100000
set_option maxHeartbeats 4000000
namespace Fb
open PySem L2 Dl
section
variable {P : Program} {w : World} {K : PySem.W.Frag} {mg : Str → Option Value} {base : Heap}
theorem body_law53 {f : Addr} (hrg : mg "range" = none) (hmx : mg "max" = none) (hmn : mg "min" = none) (hl : mg "len" = none) (GP : FnG P w K mg base 1 "_law_pool" cPool) (GR : FnR P w K mg base 7 "_law_right" cRight53) :
    BodyOkR P w K mg base 7 ["script", "spot", "pool", "turn"] ["script"] "law" s_law f cLaw := by
  intro cdv A outer s H E hgd hr args M P0 ⟨ns, e1, e2, hP⟩
  subst e1
  subst e2
  have nd := sc_law.nd
  refine sds_cons (sd_forF (t := .one 1) (tg_name nd) (id_range1 hrg (ed_max2 hmx (ed_int (ed_min2 hmn (ed_int (ed_len hl (ev 0 rfl ⟨_, ns.length, rfl, rfl, _, _, rfl, rfl, _, _, rfl, rfl, ?_⟩))))))))
  obtain ⟨m, hm, hm6⟩ : ∃ m : Nat, (if (if (ns.length : Int) < 6 then (ns.length : Int) else 6) > 1 then (if (ns.length : Int) < 6 then (ns.length : Int) else 6) else 1) = (m : Int) ∧ m ≤ 6 := by
    refine ⟨max 1 (min 6 ns.length), ?_, by omega⟩
    split <;> split at * <;> omega
  refine ⟨(m : Int), congrArg (fun z : Int => some (D.int z)) hm, by omega, by omega, ?_⟩
  refine ⟨fun i c => c = ([.dat (.scr ns), .un, .un, .un], []), .of rfl, fun i c d hd hI => ?_, fun c hI => ?_⟩
  · subst hI
    rw [rangeD_map] at hd
    obtain ⟨x, hx, rfl⟩ := map_get hd
    have hi : i < m := by
      have := (List.getElem?_eq_some_iff.mp hx).1
      simpa using this
    have hxi : x = i := by
      have := (List.getElem?_eq_some_iff.mp hx).2
      simpa using this.symm
    subst hxi
    refine ⟨trivial, _, rfl, ?_⟩
    refine sds_cons (sd_set (i := 2) (ed_new (en_callp GP (hr.mono (by decide)) (ad_cons (ev 0 rfl (ad_cons (ev 1 rfl (ad_nil ⟨[_, _], rfl, ns, x, by simp, rfl, by omega, fun d hp => ⟨rfl, ?_⟩⟩))))))) (by exact nd))
    show SDs _ _ ([.dat (.scr ns), .dat (.int ((0 : Int) + (x : Nat))), .cel 0, .un], [.lst d]) _ _
    refine sds_one (sd_forF (t := .one 3) (tg_name nd) (id_range1 hrg (ed_int ⟨3, rfl, by decide, by decide, ?_⟩)))
    refine ⟨fun j c => ∃ d', c = ([.dat (.scr ns), .dat (.int ((0 : Int) + (x : Nat))), .cel 0, .un], [.lst d']) ∧ PoolOk (7000 * j) d', ?_, fun j c dd hdd hI => ?_, fun c hI => ?_⟩
    · exact .of ⟨d, rfl, hp⟩
    · obtain ⟨d', rfl, hp'⟩ := hI
      have hj : j < 3 := by
        have := (List.getElem?_eq_some_iff.mp hdd).1
        simpa [rangeD] using this
      rw [rangeD_map] at hdd
      obtain ⟨y, hy, rfl⟩ := map_get hdd
      refine ⟨trivial, _, rfl, ?_⟩
      refine sds_one (sd_if (td_not (td_val (ed_callR GR hgd hr (ad_cons (ev 2 rfl (ad_nil ⟨[0], [.cel 0], ⟨rfl, by decide, fun k hk => ⟨_, by cases List.mem_singleton.mp hk; rfl, rfl⟩, fun e he => by
        cases List.mem_singleton.mp he
        exact Nat.zero_lt_one⟩, 7000 * j, d', rfl, rfl, hp', by omega, fun d'' hp'' => ?_⟩)))))))
      refine ⟨true, rfl, ?_⟩
      refine ⟨fun hb => absurd hb (by decide), fun _ => sds_nil ?_⟩
      refine UpG.by ⟨d'', rfl, ?_⟩ ⟨.inl rfl, .inl rfl, .inl rfl, .inr rfl, trivial⟩
      rw [show 7000 * (j + 1) = 7000 * j + 7000 by omega]
      exact hp''
    · obtain ⟨d', rfl, hp'⟩ := hI
      refine ⟨trivial, ?_⟩
      refine UpG.gc (M0 := []) (M1 := [.lst d']) (e0 := [.dat (.scr ns), .un, .un, .un]) rfl ⟨.inl rfl, .inr rfl, .inr rfl, .inl rfl, trivial⟩ rfl (Nat.zero_le _) (fun e he => ?_)
      simp at he
      rcases he with rfl | rfl <;> exact trivial
  · subst hI
    exact ⟨trivial, sds_one (sd_ret (ed_bl (ret_dat (po0 hP))))⟩
end
end Fb
set_option Elab.async false
set_option linter.all false
set_option maxRecDepth 100000
set_option maxHeartbeats 4000000
namespace Fb
open PySem L2 Dl
/-! ### the end: what the top has left, all defs put together, the head (printed by gen2.py) -/
def R_Span (K : PySem.W.Frag) (C : Addr) : Prop := NoAttr K C "lines" ∧ FI K C "Span.__init__" s_SpanI_initI ∧ FM K C "rest" "Span.rest" s_Span_rest ∧ FM K C "take" "Span.take" s_Span_take
def R_Book (K : PySem.W.Frag) (C : Addr) : Prop := NoAttr K C "figures" ∧ NoAttr K C "kept" ∧ FI K C "Book.__init__" s_BookI_initI ∧ FP K C "base" "Book.base" s_Book_base ∧ FP K C "names" "Book.names" s_Book_names ∧ FO K C "Book.__eq__" s_BookI_eqI ∧ IsC K C
def R_System (K : PySem.W.Frag) (C : Addr) : Prop := NoAttr K C "starts" ∧ NoAttr K C "matrices" ∧ NoAttr K C "factors" ∧ FI K C "System.__init__" s_SystemI_initI ∧ FM K C "follower" "System.follower" s_System_follower ∧ FM K C "column_at" "System.column_at" s_System_column_at
def R_Row (K : PySem.W.Frag) (C : Addr) : Prop := NoAttr K C "told_by" ∧ NoAttr K C "shares" ∧ FI K C "Row.__init__" s_RowI_initI ∧ FP K C "book" "Row.book" s_Row_book ∧ FP K C "coefficients" "Row.coefficients" s_Row_coefficients ∧ FO K C "Row.__eq__" s_RowI_eqI ∧ IsC K C
set_option maxHeartbeats 0 in
theorem law_top {P : Program} {w : World} {K : PySem.W.Frag} {mg : Str → Option Value} {fa : Addr} (hfa : mg "law" = some (.ref fa)) (z_abs : mg "abs" = none) (z_all : mg "all" = none) (z_any : mg "any" = none) (z_dict : mg "dict" = none) (z_enumerate : mg "enumerate" = none) (z_int : mg "int" = none) (z_isinstance : mg "isinstance" = none) (z_len : mg "len" = none) (z_list : mg "list" = none) (z_max : mg "max" = none) (z_min : mg "min" = none) (z_range : mg "range" = none) (z_repr : mg "repr" = none) (z_sorted : mg "sorted" = none) (z_sum : mg "sum" = none) (z_tuple : mg "tuple" = none) (z_zip : mg "zip" = none) (k_BASES : GlobD K mg "BASES" (.tup [.int 2, .int 3, .int 4])) (k_LETTERS : GlobD K mg "LETTERS" (.str letters)) (x_dot : FF K mg "dot" s_dot) (x_common_divisor : FF K mg "common_divisor" s_common_divisor) (x_reduced_by : FF K mg "reduced_by" s_reduced_by) (x_first_spot : FF K mg "first_spot" s_first_spot) (x_is_name : FF K mg "is_name" s_is_name) (x_check_names : FF K mg "check_names" s_check_names) (x_check_formulas : FF K mg "check_formulas" s_check_formulas) (x_check_starts : FF K mg "check_starts" s_check_starts) (x_starts_of : FF K mg "starts_of" s_starts_of) (x_matrix_of : FF K mg "matrix_of" s_matrix_of) (x_figures_of : FF K mg "figures_of" s_figures_of) (x_system_of : FF K mg "system_of" s_system_of) (x_check_number : FF K mg "check_number" s_check_number) (x_check_block : FF K mg "check_block" s_check_block) (x_behind_block : FF K mg "behind_block" s_behind_block) (x_recurrence : FF K mg "recurrence" s_recurrence) (x__law_pool : FF K mg "_law_pool" s_Lpool) (x__law_draw : FF K mg "_law_draw" s_Ldraw) (x__law_factor : FF K mg "_law_factor" s_Lfactor) (x__law_terms : FF K mg "_law_terms" s_Lterms) (x__law_first : FF K mg "_law_first" s_Lfirst) (x__law_kind : FF K mg "_law_kind" s_Lkind) (x__law_known : FF K mg "_law_known" s_Lknown) (x__law_made : FF K mg "_law_made" s_Lmade) (x__law_shares : FF K mg "_law_shares" s_Lshares) (x__law_rowed : FF K mg "_law_rowed" s_Lrowed) (x__law_spot : FF K mg "_law_spot" s_Lspot) (x__law_some : FF K mg "_law_some" s_Lsome) (x__law_figures : FF K mg "_law_figures" s_Lfigures) (x__law_far : FF K mg "_law_far" s_Lfar) (x__law_place : FF K mg "_law_place" s_Lplace) (x__law_rank : FF K mg "_law_rank" s_Lrank) (x__law_right : FF K mg "_law_right" s_Lright) (x_law : FF K mg "law" s_law) (x_Span : FC K mg "Span" (R_Span K)) (x_Book : FC K mg "Book" (R_Book K)) (x_System : FC K mg "System" (R_System K)) (x_Row : FC K mg "Row" (R_Row K)) :
    HeadR P w K mg 8 fa := by
  obtain ⟨f_dot, m_dot, y_dot⟩ := x_dot
  obtain ⟨f_common_divisor, m_common_divisor, y_common_divisor⟩ := x_common_divisor
  obtain ⟨f_reduced_by, m_reduced_by, y_reduced_by⟩ := x_reduced_by
  obtain ⟨f_first_spot, m_first_spot, y_first_spot⟩ := x_first_spot
  obtain ⟨f_is_name, m_is_name, y_is_name⟩ := x_is_name
  obtain ⟨f_check_names, m_check_names, y_check_names⟩ := x_check_names
  obtain ⟨f_check_formulas, m_check_formulas, y_check_formulas⟩ := x_check_formulas
  obtain ⟨f_check_starts, m_check_starts, y_check_starts⟩ := x_check_starts
  obtain ⟨f_starts_of, m_starts_of, y_starts_of⟩ := x_starts_of
  obtain ⟨f_matrix_of, m_matrix_of, y_matrix_of⟩ := x_matrix_of
  obtain ⟨f_figures_of, m_figures_of, y_figures_of⟩ := x_figures_of
  obtain ⟨f_system_of, m_system_of, y_system_of⟩ := x_system_of
  obtain ⟨f_check_number, m_check_number, y_check_number⟩ := x_check_number
  obtain ⟨f_check_block, m_check_block, y_check_block⟩ := x_check_block
  obtain ⟨f_behind_block, m_behind_block, y_behind_block⟩ := x_behind_block
  obtain ⟨f_recurrence, m_recurrence, y_recurrence⟩ := x_recurrence
  obtain ⟨f__law_pool, m__law_pool, y__law_pool⟩ := x__law_pool
  obtain ⟨f__law_draw, m__law_draw, y__law_draw⟩ := x__law_draw
  obtain ⟨f__law_factor, m__law_factor, y__law_factor⟩ := x__law_factor
  obtain ⟨f__law_terms, m__law_terms, y__law_terms⟩ := x__law_terms
  obtain ⟨f__law_first, m__law_first, y__law_first⟩ := x__law_first
  obtain ⟨f__law_kind, m__law_kind, y__law_kind⟩ := x__law_kind
  obtain ⟨f__law_known, m__law_known, y__law_known⟩ := x__law_known
  obtain ⟨f__law_made, m__law_made, y__law_made⟩ := x__law_made
  obtain ⟨f__law_shares, m__law_shares, y__law_shares⟩ := x__law_shares
  obtain ⟨f__law_rowed, m__law_rowed, y__law_rowed⟩ := x__law_rowed
  obtain ⟨f__law_spot, m__law_spot, y__law_spot⟩ := x__law_spot
  obtain ⟨f__law_some, m__law_some, y__law_some⟩ := x__law_some
  obtain ⟨f__law_figures, m__law_figures, y__law_figures⟩ := x__law_figures
  obtain ⟨f__law_far, m__law_far, y__law_far⟩ := x__law_far
  obtain ⟨f__law_place, m__law_place, y__law_place⟩ := x__law_place
  obtain ⟨f__law_rank, m__law_rank, y__law_rank⟩ := x__law_rank
  obtain ⟨f__law_right, m__law_right, y__law_right⟩ := x__law_right
  obtain ⟨f_law, m_law, y_law⟩ := x_law
  have e := hfa.symm.trans m_law
  cases e
  obtain ⟨CSpan, m_Span, c_Span, na_Span_lines, ⟨f_Span, y_Span, a_Span⟩, ⟨f_Span_rest, y_Span_rest, a_Span_rest⟩, ⟨f_Span_take, y_Span_take, a_Span_take⟩⟩ := x_Span
  obtain ⟨CBook, m_Book, c_Book, na_Book_figures, na_Book_kept, ⟨f_Book, y_Book, a_Book⟩, ⟨p_Book_base, f_Book_base, y_Book_base, a_Book_base⟩, ⟨p_Book_names, f_Book_names, y_Book_names, a_Book_names⟩, ⟨f_Book_eq, y_Book_eq, a_Book_eq⟩, i_Book⟩ := x_Book
  obtain ⟨CSystem, m_System, c_System, na_System_starts, na_System_matrices, na_System_factors, ⟨f_System, y_System, a_System⟩, ⟨f_System_follower, y_System_follower, a_System_follower⟩, ⟨f_System_column_at, y_System_column_at, a_System_column_at⟩⟩ := x_System
  obtain ⟨CRow, m_Row, c_Row, na_Row_told_by, na_Row_shares, ⟨f_Row, y_Row, a_Row⟩, ⟨p_Row_book, f_Row_book, y_Row_book, a_Row_book⟩, ⟨p_Row_coefficients, f_Row_coefficients, y_Row_coefficients, a_Row_coefficients⟩, ⟨f_Row_eq, y_Row_eq, a_Row_eq⟩, i_Row⟩ := x_Row
  obtain ⟨fd, Fn⟩ := y_law.ex
  refine ⟨fd, binds_law Fn (fun _ _ _ _ _ _ us hl => match us, hl with | [_], _ => rfl), fun base hK hB hDg => ?_⟩
  have G_dot : FnG P w K mg base 1 "dot" cDot := fnG_of y_dot m_dot sc_dot (fun _ _ _ _ _ _ us hl => match us, hl with | [_, _], _ => rfl) (fun args M P ⟨_, _, _, _, e, _⟩ => by rcases e with e | ⟨_, e⟩ <;> (rw [e]; rfl)) (body_dot z_zip z_sum)
  have G_common_divisor : FnG P w K mg base 1 "common_divisor" cGcd := fnG_of y_common_divisor m_common_divisor sc_common_divisor (fun _ _ _ _ _ _ us hl => match us, hl with | [_], _ => rfl) (fun args M P ⟨_, e, _⟩ => by rw [e]; rfl) (body_gcd z_abs)
  have G_reduced_by : FnG P w K mg base 1 "reduced_by" cReduced := fnG_of y_reduced_by m_reduced_by sc_reduced_by (fun _ _ _ _ _ _ us hl => match us, hl with | [_, _, _], _ => rfl) (fun args M P ⟨_, _, _, _, _, e, _⟩ => by rw [e]; rfl) (body_reduced z_zip)
  have G_first_spot : FnG P w K mg base 1 "first_spot" cFirst := fnG_of y_first_spot m_first_spot sc_first_spot (fun _ _ _ _ _ _ us hl => match us, hl with | [_], _ => rfl) (fun args M P ⟨_, e, _⟩ => by rw [e]; rfl) (body_first z_enumerate)
  have G_Span : SpnG P w K mg base 1 "Span" CSpan "lines" := spnG_of y_Span c_Span na_Span_lines m_Span a_Span sc_SpanI_initI (fun _ _ _ _ _ _ us hl => match us, hl with | [_], _ => rfl) rfl
  have G_Span_rest : MethG P w K mg base 2 CSpan "rest" (cRest CSpan) := methG_of y_Span_rest c_Span a_Span_rest sc_Span_rest (fun _ _ _ _ _ _ us hl => match us, hl with | [_, _], _ => rfl) (fun args M P ⟨_, _, _, _, e, _⟩ => by rw [e]; rfl) (body_rest c_Span na_Span_lines z_list G_reduced_by G_common_divisor)
  have G_Span_take : MethG P w K mg base 3 CSpan "take" (cTake CSpan) := methG_of y_Span_take c_Span a_Span_take sc_Span_take (fun _ _ _ _ _ _ us hl => match us, hl with | [_, _], _ => rfl) (fun args M P ⟨_, _, _, _, e, _⟩ => by rw [e]; rfl) (body_take c_Span na_Span_lines z_any G_first_spot G_Span_rest)
  have G_is_name : FnG P w K mg base 1 "is_name" cIsName := fnG_of y_is_name m_is_name sc_is_name (fun _ _ _ _ _ _ us hl => match us, hl with | [_], _ => rfl) (fun args M P ⟨_, e, _⟩ => by rw [e]; rfl) (body_is_name z_len k_LETTERS)
  have G_check_names : FnG P w K mg base 2 "check_names" cChkNames := fnG_of y_check_names m_check_names sc_check_names (fun _ _ _ _ _ _ us hl => match us, hl with | [_], _ => rfl) (fun args M P ⟨_, _, _, e, _⟩ => by rw [e]; rfl) (body_check_names G_is_name)
  have G_check_formulas : FnG P w K mg base 1 "check_formulas" cChkForms := fnG_of y_check_formulas m_check_formulas sc_check_formulas (fun _ _ _ _ _ _ us hl => match us, hl with | [_, _], _ => rfl) (fun args M P ⟨_, _, _, e, _⟩ => by rw [e]; rfl) (body_check_formulas z_len z_all)
  have G_check_starts : FnG P w K mg base 1 "check_starts" cChkNames := fnG_of y_check_starts m_check_starts sc_check_starts (fun _ _ _ _ _ _ us hl => match us, hl with | [_], _ => rfl) (fun args M P ⟨_, _, _, e, _⟩ => by rw [e]; rfl) (body_check_starts z_sum)
  have G_Book : MakeG P w K mg base 3 "Book" CBook (cBookInit CBook) := makeG_of y_Book m_Book a_Book sc_BookI_initI (fun _ _ _ _ _ _ us hl => match us, hl with | [_, _, _], _ => rfl) (fun args M P ⟨_, _, _, e, _⟩ => by rw [e]; rfl) (body_bookinit c_Book na_Book_figures na_Book_kept z_tuple k_BASES G_check_names G_check_formulas G_check_starts)
  have G_Book_base : PropG P w K mg base 1 CBook "base" (cBase CBook) := propG_of y_Book_base c_Book a_Book_base sc_Book_base (fun _ _ _ _ _ _ us hl => match us, hl with | [_], _ => rfl) (fun args M P ⟨_, _, e, _⟩ => by rw [e]; rfl) (body_base c_Book na_Book_figures)
  have G_Book_names : PropG P w K mg base 1 CBook "names" (cNames CBook) := propG_of y_Book_names c_Book a_Book_names sc_Book_names (fun _ _ _ _ _ _ us hl => match us, hl with | [_], _ => rfl) (fun args M P ⟨_, _, e, _⟩ => by rw [e]; rfl) (body_names c_Book na_Book_kept)
  have G_starts_of : FnG P w K mg base 1 "starts_of" (cStarts CBook) := fnG_of y_starts_of m_starts_of sc_starts_of (fun _ _ _ _ _ _ us hl => match us, hl with | [_], _ => rfl) (fun args M P ⟨_, _, e, _⟩ => by rw [e]; rfl) (body_starts c_Book na_Book_kept)
  have G_matrix_of : FnG P w K mg base 3 "matrix_of" (cMatrix CBook) := fnG_of y_matrix_of m_matrix_of sc_matrix_of (fun _ _ _ _ _ _ us hl => match us, hl with | [_, _], _ => rfl) (fun args M P ⟨_, _, _, _, e, _⟩ => by rw [e]; rfl) (body_matrix c_Book na_Book_kept z_len G_Book_names)
  have G_System : MakeG P w K mg base 1 "System" CSystem (cSysInit CSystem) := makeG_of y_System m_System a_System sc_SystemI_initI (fun _ _ _ _ _ _ us hl => match us, hl with | [_, _, _, _], _ => rfl) (fun args M P ⟨_, _, _, e, _⟩ => by rw [e]; rfl) (body_sysinit c_System na_System_starts na_System_matrices na_System_factors)
  have G_System_follower : MethG P w K mg base 2 CSystem "follower" (cFol CSystem) := methG_of y_System_follower c_System a_System_follower sc_System_follower (fun _ _ _ _ _ _ us hl => match us, hl with | [_, _, _], _ => rfl) (fun args M P ⟨_, _, _, _, _, _, e, _⟩ => by rw [e]; rfl) (body_follower c_System na_System_matrices G_dot)
  have G_figures_of : FnG P w K mg base 1 "figures_of" cFigures := fnG_of y_figures_of m_figures_of sc_figures_of (fun _ _ _ _ _ _ us hl => match us, hl with | [_, _], _ => rfl) (fun args M P ⟨_, _, e, _⟩ => by rw [e]; rfl) (body_figures)
  have G_System_column_at : MethG P w K mg base 3 CSystem "column_at" (cColAt CSystem) := methG_of y_System_column_at c_System a_System_column_at sc_System_column_at (fun _ _ _ _ _ _ us hl => match us, hl with | [_, _], _ => rfl) (fun args M P ⟨_, _, _, _, e, _⟩ => by rw [e]; rfl) (body_column_at c_System na_System_matrices na_System_starts z_len G_figures_of G_System_follower)
  have G_Row : MakeG P w K mg base 3 "Row" CRow (cRowInit CRow CBook) := makeG_of y_Row m_Row a_Row sc_RowI_initI (fun _ _ _ _ _ _ us hl => match us, hl with | [_, _, _], _ => rfl) (fun args M P ⟨_, _, _, e, _⟩ => by rw [e]; rfl) (body_rowinit c_Row na_Row_told_by na_Row_shares z_len z_tuple G_Book_names)
  have G_Row_book : PropG P w K mg base 1 CRow "book" (cBook CRow CBook) := propG_of y_Row_book c_Row a_Row_book sc_Row_book (fun _ _ _ _ _ _ us hl => match us, hl with | [_], _ => rfl) (fun args M P ⟨_, _, _, e, _⟩ => by rw [e]; rfl) (body_book c_Row na_Row_told_by)
  have G_Row_coefficients : PropG P w K mg base 1 CRow "coefficients" (cCoefs CRow CBook) := propG_of y_Row_coefficients c_Row a_Row_coefficients sc_Row_coefficients (fun _ _ _ _ _ _ us hl => match us, hl with | [_], _ => rfl) (fun args M P ⟨_, _, _, e, _⟩ => by rw [e]; rfl) (body_coefs c_Row na_Row_shares z_list)
  have G_system_of : FnG P w K mg base 4 "system_of" (cSystem CRow CBook CSystem) := fnG_of y_system_of m_system_of sc_system_of (fun _ _ _ _ _ _ us hl => match us, hl with | [_], _ => rfl) (fun args M P ⟨_, _, _, _, e, _⟩ => by rw [e]; rfl) (body_system z_range G_Row_book G_Row_coefficients G_Book_base G_starts_of G_matrix_of G_System)
  have G_check_number : FnG P w K mg base 1 "check_number" cChkNum := fnG_of y_check_number m_check_number sc_check_number (fun _ _ _ _ _ _ us hl => match us, hl with | [_, _], _ => rfl) (fun args M P ⟨_, _, e, _⟩ => by rw [e]; rfl) (body_chknum)
  have G_check_block : FnG P w K mg base 3 "check_block" (cChkBlock CRow CBook) := fnG_of y_check_block m_check_block sc_check_block (fun _ _ _ _ _ _ us hl => match us, hl with | [_, _, _], _ => rfl) (fun args M P ⟨_, _, _, _, _, e, _⟩ => by rw [e]; rfl) (body_chkblock z_enumerate G_check_number G_Row_book G_Book_base)
  have G_behind_block : FnG P w K mg base 3 "behind_block" (cBehind CSystem) := fnG_of y_behind_block m_behind_block sc_behind_block (fun _ _ _ _ _ _ us hl => match us, hl with | [_, _, _], _ => rfl) (fun args M P ⟨_, _, _, _, _, _, e, _⟩ => by rw [e]; rfl) (body_behind G_System_follower)
  have G_recurrence : FnG P w K mg base 5 "recurrence" (cRecur CRow CBook) := fnG_of y_recurrence m_recurrence sc_recurrence (fun _ _ _ _ _ _ us hl => match us, hl with | [_, _, _], _ => rfl) (fun args M P ⟨_, _, _, _, _, _, e, _⟩ => by rw [e]; rfl) (body_recurrence c_System na_System_factors na_System_starts z_range z_len z_int z_any G_check_block G_system_of G_System_column_at G_behind_block G_dot G_Span G_Span_rest G_Span_take)
  have G__law_pool : FnG P w K mg base 1 "_law_pool" cPool := fnG_of y__law_pool m__law_pool sc_Lpool (fun _ _ _ _ _ _ us hl => match us, hl with | [_, _], _ => rfl) (fun args M P ⟨_, _, e, _⟩ => by rw [e]; rfl) (body_pool z_len z_max z_abs z_int)
  have G__law_draw : FnG P w K mg base 1 "_law_draw" cDraw := fnG_of y__law_draw m__law_draw sc_Ldraw (fun _ _ _ _ _ _ us hl => match us, hl with | [_, _], _ => rfl) (fun args M P ⟨_, _, _, e, _⟩ => by rw [e]; rfl) (body_draw z_int)
  have GK_recurrence : FnKG P w K mg base 5 "recurrence" ["row", "head", "block"] [0, 1, 2] (cRecur CRow CBook) := fnKG_of y_recurrence m_recurrence sc_recurrence (fun _ _ _ _ _ _ ws hl => match ws, hl with | [_, _, _], _ => rfl) (fun args M P ⟨_, _, _, _, _, _, e, _⟩ => by rw [e]; rfl) (@body_recurrence P w K mg base f_recurrence CRow CBook CSystem CSpan c_System na_System_factors na_System_starts z_range z_len z_int z_any G_check_block G_system_of G_System_column_at G_behind_block G_dot G_Span G_Span_rest G_Span_take)
  have G__law_factor : FnG P w K mg base 2 "_law_factor" cFactor := fnG_of y__law_factor m__law_factor sc_Lfactor (fun _ _ _ _ _ _ us hl => match us, hl with | [_], _ => rfl) (fun args M P ⟨_, _, e, _⟩ => by rw [e]; rfl) (body_factor G__law_draw)
  have G__law_terms : FnG P w K mg base 3 "_law_terms" cTerms := fnG_of y__law_terms m__law_terms sc_Lterms (fun _ _ _ _ _ _ us hl => match us, hl with | [_, _, _], _ => rfl) (fun args M P ⟨_, _, _, _, e, _⟩ => by rw [e]; rfl) (body_terms z_len z_range G__law_draw G__law_factor)
  have G__law_first : FnG P w K mg base 3 "_law_first" cFirstF := fnG_of y__law_first m__law_first sc_Lfirst (fun _ _ _ _ _ _ us hl => match us, hl with | [_, _, _], _ => rfl) (fun args M P ⟨_, _, _, _, e, _⟩ => by rw [e]; rfl) (body_lfirst z_len z_range z_sorted z_max z_abs G__law_draw G__law_factor)
  have G__law_kind : FnG P w K mg base 4 "_law_kind" cKindF := fnG_of y__law_kind m__law_kind sc_Lkind (fun _ _ _ _ _ _ us hl => match us, hl with | [_, _], _ => rfl) (fun args M P ⟨_, _, _, e, _⟩ => by rw [e]; rfl) (body_lkind z_len z_range G__law_draw G__law_first G__law_terms)
  have G__law_known : FnG P w K mg base 2 "_law_known" cKnown := fnG_of y__law_known m__law_known sc_Lknown (fun _ _ _ _ _ _ us hl => match us, hl with | [_], _ => rfl) (fun args M P ⟨_, _, e, _⟩ => by rw [e]; rfl) (@body_lknown P w K mg base f__law_known G__law_draw)
  have G__law_made : FnG P w K mg base 5 "_law_made" (cMade CBook) := fnG_of y__law_made m__law_made sc_Lmade (fun _ _ _ _ _ _ us hl => match us, hl with | [_], _ => rfl) (fun args M P ⟨_, _, _, e, _⟩ => by rw [e]; rfl) (body_lmade z_list G_Book)
  have G__law_shares : FnG P w K mg base 2 "_law_shares" cShares := fnG_of y__law_shares m__law_shares sc_Lshares (fun _ _ _ _ _ _ us hl => match us, hl with | [_, _], _ => rfl) (fun args M P ⟨_, _, _, _, e, _⟩ => by rw [e]; rfl) (body_lshares z_len z_range z_int G__law_draw)
  have G__law_rowed : FnG P w K mg base 6 "_law_rowed" (cRowed CRow CBook) := fnG_of y__law_rowed m__law_rowed sc_Lrowed (fun _ _ _ _ _ _ us hl => match us, hl with | [_, _], _ => rfl) (fun args M P ⟨_, _, _, _, e, _⟩ => by rw [e]; rfl) (body_lrowed z_list G__law_made G_Row)
  have G_Book_eq : OwnG P w K mg base 1 CBook (cBookEq CBook) := ownG_of y_Book_eq a_Book_eq sc_BookI_eqI (fun _ _ _ _ _ _ us hl => match us, hl with | [_, _], _ => rfl) (fun args M P ⟨_, _, _, _, _, _, e, _⟩ => by rw [e]; rfl) (@body_bookeq P w K mg base f_Book_eq CBook c_Book na_Book_figures na_Book_kept z_isinstance m_Book i_Book)
  have G_Row_eq : OwnG P w K mg base 2 CRow (cRowEq CRow CBook) := ownG_of y_Row_eq a_Row_eq sc_RowI_eqI (fun _ _ _ _ _ _ us hl => match us, hl with | [_, _], _ => rfl) (fun args M P ⟨_, _, _, _, _, _, _, _, e, _⟩ => by rw [e]; rfl) (@body_roweq P w K mg base f_Row_eq CRow CBook c_Row na_Row_told_by na_Row_shares z_isinstance m_Row i_Row G_Book_eq)
  have G__law_spot : FnG P w K mg base 2 "_law_spot" cSpotF := fnG_of y__law_spot m__law_spot sc_Lspot (fun _ _ _ _ _ _ us hl => match us, hl with | [_], _ => rfl) (fun args M P ⟨_, _, e, _⟩ => by rw [e]; rfl) (body_lspot z_range G__law_draw)
  have G__law_some : FnG P w K mg base 2 "_law_some" cSomeF := fnG_of y__law_some m__law_some sc_Lsome (fun _ _ _ _ _ _ us hl => match us, hl with | [_, _], _ => rfl) (fun args M P ⟨_, _, _, _, e, _⟩ => by rw [e]; rfl) (body_lsome z_len z_range G__law_draw)
  have G__law_figures : FnG P w K mg base 1 "_law_figures" cFigs := fnG_of y__law_figures m__law_figures sc_Lfigures (fun _ _ _ _ _ _ us hl => match us, hl with | [_, _], _ => rfl) (fun args M P ⟨_, _, e, _⟩ => by rw [e]; rfl) (body_lfigs z_int)
  have G__law_far : FnG P w K mg base 2 "_law_far" cLFar := fnG_of y__law_far m__law_far sc_Lfar (fun _ _ _ _ _ _ us hl => match us, hl with | [_, _, _], _ => rfl) (fun args M P ⟨_, _, _, _, _, e, _⟩ => by rw [e]; rfl) (body_lfar z_dict z_zip z_sum G__law_figures)
  have G__law_place : FnG P w K mg base 1 "_law_place" cPlaceK := fnG_of y__law_place m__law_place sc_Lplace (fun _ _ _ _ _ _ us hl => match us, hl with | [_, _, _, _], _ => rfl) (fun args M P ⟨_, _, _, _, _, e, _⟩ => by rw [e]; rfl) (body_lplaceK z_range)
  have G__law_rank : FnG P w K mg base 1 "_law_rank" cRankF := fnG_of y__law_rank m__law_rank sc_Lrank (fun _ _ _ _ _ _ us hl => match us, hl with | [_], _ => rfl) (fun args M P ⟨_, _, e, _⟩ => by rw [e]; rfl) (body_lrank z_len z_range z_zip)
  have GK_recurrence : FnKG P w K mg base 5 "recurrence" ["block", "head", "row"] [2, 1, 0] (cRecur CRow CBook) := fnKG_of y_recurrence m_recurrence sc_recurrence (fun _ _ _ _ _ _ ws hl => match ws, hl with | [_, _, _], _ => rfl) (fun args M P ⟨_, _, _, _, _, _, e, _⟩ => by rw [e]; rfl) (@body_recurrence P w K mg base f_recurrence CRow CBook CSystem CSpan c_System na_System_factors na_System_starts z_range z_len z_int z_any G_check_block G_system_of G_System_column_at G_behind_block G_dot G_Span G_Span_rest G_Span_take)
  have G__law_right : FnR P w K mg base 7 "_law_right" cRight53 := fnR_of y__law_right m__law_right sc_Lright (fun _ _ _ _ _ _ us hl => match us, hl with | [_], _ => rfl) (fun args M P ⟨_, _, e, _⟩ => by rw [e]; rfl) (@body_right53 P w K mg base f__law_right CRow CBook z_len z_range z_sum z_enumerate z_repr hDg G__law_draw G__law_kind G__law_known G__law_shares G__law_some G__law_rowed G__law_spot G__law_far G__law_place G_recurrence GK_recurrence G__law_rank G_Row_eq)
  exact fn_okR Fn sc_law (fun args M P ⟨_, e, _⟩ => by rw [e]; rfl) (body_law53 z_range z_max z_min z_len G__law_pool G__law_right)
end Fb
open PySem PySem.W PyProof.Rows
set_option maxRecDepth 100000 in
set_option maxHeartbeats 0 in
theorem PySem.Challenge.cw_figurebooks_k53_recurrences_holds : PySem.Challenge.rw_figurebooks_k53_recurrences.Holds := by
  w_on; o_law; k_head; (case hw => w_witness2)
  k_fill
  refine Dl.law_endR (k := 8) (l := PySem.Challenge.rw_figurebooks_k53_recurrences) rfl rfl ⟨rfl, by decide, by decide⟩ (fun w h Y => PySem.W.kIn_of Y) ?F
  case F =>
    intro w mg fa h KX G hmg
    have z_abs : mg "abs" = none := by
      refine' PySem.W.mg_none_of KX G ?zza
      (case zza => k_is)
    have z_all : mg "all" = none := by
      refine' PySem.W.mg_none_of KX G ?zza
      (case zza => k_is)
    have z_any : mg "any" = none := by
      refine' PySem.W.mg_none_of KX G ?zza
      (case zza => k_is)
    have z_dict : mg "dict" = none := by
      refine' PySem.W.mg_none_of KX G ?zza
      (case zza => k_is)
    have z_enumerate : mg "enumerate" = none := by
      refine' PySem.W.mg_none_of KX G ?zza
      (case zza => k_is)
    have z_int : mg "int" = none := by
      refine' PySem.W.mg_none_of KX G ?zza
      (case zza => k_is)
    have z_isinstance : mg "isinstance" = none := by
      refine' PySem.W.mg_none_of KX G ?zza
      (case zza => k_is)
    have z_len : mg "len" = none := by
      refine' PySem.W.mg_none_of KX G ?zza
      (case zza => k_is)
    have z_list : mg "list" = none := by
      refine' PySem.W.mg_none_of KX G ?zza
      (case zza => k_is)
    have z_max : mg "max" = none := by
      refine' PySem.W.mg_none_of KX G ?zza
      (case zza => k_is)
    have z_min : mg "min" = none := by
      refine' PySem.W.mg_none_of KX G ?zza
      (case zza => k_is)
    have z_range : mg "range" = none := by
      refine' PySem.W.mg_none_of KX G ?zza
      (case zza => k_is)
    have z_repr : mg "repr" = none := by
      refine' PySem.W.mg_none_of KX G ?zza
      (case zza => k_is)
    have z_sorted : mg "sorted" = none := by
      refine' PySem.W.mg_none_of KX G ?zza
      (case zza => k_is)
    have z_sum : mg "sum" = none := by
      refine' PySem.W.mg_none_of KX G ?zza
      (case zza => k_is)
    have z_tuple : mg "tuple" = none := by
      refine' PySem.W.mg_none_of KX G ?zza
      (case zza => k_is)
    have z_zip : mg "zip" = none := by
      refine' PySem.W.mg_none_of KX G ?zza
      (case zza => k_is)
    have k_BASES : Dl.GlobD (L2.KOf KX) mg "BASES" (.tup ([2, 3, 4].map .int)) := by
      unfold L2.KOf
      refine' Dl.fx_ints KX G ?zza ?zzl ?zzc ?zzs ?zzv
      (case zza => k_is); (case zzl => k_is); (case zzc => rfl); (case zzs => decide)
      (case zzv => exact .cons ⟨_, rfl⟩ (.cons ⟨_, rfl⟩ (.cons ⟨_, rfl⟩ .nil)))
    have k_LETTERS : Dl.GlobD (L2.KOf KX) mg "LETTERS" (.str Fb.letters) := by
      unfold L2.KOf
      refine' Dl.fx_str KX G ?zza
      (case zza => k_is)
    have x_dot : Dl.FF (L2.KOf KX) mg "dot" Fb.s_dot := by
      unfold L2.KOf
      refine' Dl.fx_fn KX G ?zza ?zzl ?zzc ?zzk
      (case zza => k_is); (case zzl => k_is); (case zzc => k_is); (case zzk => k_is)
    have x_common_divisor : Dl.FF (L2.KOf KX) mg "common_divisor" Fb.s_common_divisor := by
      unfold L2.KOf
      refine' Dl.fx_fn KX G ?zza ?zzl ?zzc ?zzk
      (case zza => k_is); (case zzl => k_is); (case zzc => k_is); (case zzk => k_is)
    have x_reduced_by : Dl.FF (L2.KOf KX) mg "reduced_by" Fb.s_reduced_by := by
      unfold L2.KOf
      refine' Dl.fx_fn KX G ?zza ?zzl ?zzc ?zzk
      (case zza => k_is); (case zzl => k_is); (case zzc => k_is); (case zzk => k_is)
    have x_first_spot : Dl.FF (L2.KOf KX) mg "first_spot" Fb.s_first_spot := by
      unfold L2.KOf
      refine' Dl.fx_fn KX G ?zza ?zzl ?zzc ?zzk
      (case zza => k_is); (case zzl => k_is); (case zzc => k_is); (case zzk => k_is)
    have x_is_name : Dl.FF (L2.KOf KX) mg "is_name" Fb.s_is_name := by
      unfold L2.KOf
      refine' Dl.fx_fn KX G ?zza ?zzl ?zzc ?zzk
      (case zza => k_is); (case zzl => k_is); (case zzc => k_is); (case zzk => k_is)
    have x_check_names : Dl.FF (L2.KOf KX) mg "check_names" Fb.s_check_names := by
      unfold L2.KOf
      refine' Dl.fx_fn KX G ?zza ?zzl ?zzc ?zzk
      (case zza => k_is); (case zzl => k_is); (case zzc => k_is); (case zzk => k_is)
    have x_check_formulas : Dl.FF (L2.KOf KX) mg "check_formulas" Fb.s_check_formulas := by
      unfold L2.KOf
      refine' Dl.fx_fn KX G ?zza ?zzl ?zzc ?zzk
      (case zza => k_is); (case zzl => k_is); (case zzc => k_is); (case zzk => k_is)
    have x_check_starts : Dl.FF (L2.KOf KX) mg "check_starts" Fb.s_check_starts := by
      unfold L2.KOf
      refine' Dl.fx_fn KX G ?zza ?zzl ?zzc ?zzk
      (case zza => k_is); (case zzl => k_is); (case zzc => k_is); (case zzk => k_is)
    have x_starts_of : Dl.FF (L2.KOf KX) mg "starts_of" Fb.s_starts_of := by
      unfold L2.KOf
      refine' Dl.fx_fn KX G ?zza ?zzl ?zzc ?zzk
      (case zza => k_is); (case zzl => k_is); (case zzc => k_is); (case zzk => k_is)
    have x_matrix_of : Dl.FF (L2.KOf KX) mg "matrix_of" Fb.s_matrix_of := by
      unfold L2.KOf
      refine' Dl.fx_fn KX G ?zza ?zzl ?zzc ?zzk
      (case zza => k_is); (case zzl => k_is); (case zzc => k_is); (case zzk => k_is)
    have x_figures_of : Dl.FF (L2.KOf KX) mg "figures_of" Fb.s_figures_of := by
      unfold L2.KOf
      refine' Dl.fx_fn KX G ?zza ?zzl ?zzc ?zzk
      (case zza => k_is); (case zzl => k_is); (case zzc => k_is); (case zzk => k_is)
    have x_system_of : Dl.FF (L2.KOf KX) mg "system_of" Fb.s_system_of := by
      unfold L2.KOf
      refine' Dl.fx_fn KX G ?zza ?zzl ?zzc ?zzk
      (case zza => k_is); (case zzl => k_is); (case zzc => k_is); (case zzk => k_is)
    have x_check_number : Dl.FF (L2.KOf KX) mg "check_number" Fb.s_check_number := by
      unfold L2.KOf
      refine' Dl.fx_fn KX G ?zza ?zzl ?zzc ?zzk
      (case zza => k_is); (case zzl => k_is); (case zzc => k_is); (case zzk => k_is)
    have x_check_block : Dl.FF (L2.KOf KX) mg "check_block" Fb.s_check_block := by
      unfold L2.KOf
      refine' Dl.fx_fn KX G ?zza ?zzl ?zzc ?zzk
      (case zza => k_is); (case zzl => k_is); (case zzc => k_is); (case zzk => k_is)
    have x_behind_block : Dl.FF (L2.KOf KX) mg "behind_block" Fb.s_behind_block := by
      unfold L2.KOf
      refine' Dl.fx_fn KX G ?zza ?zzl ?zzc ?zzk
      (case zza => k_is); (case zzl => k_is); (case zzc => k_is); (case zzk => k_is)
    have x_recurrence : Dl.FF (L2.KOf KX) mg "recurrence" Fb.s_recurrence := by
      unfold L2.KOf
      refine' Dl.fx_fn KX G ?zza ?zzl ?zzc ?zzk
      (case zza => k_is); (case zzl => k_is); (case zzc => k_is); (case zzk => k_is)
    have x__law_pool : Dl.FF (L2.KOf KX) mg "_law_pool" Fb.s_Lpool := by
      unfold L2.KOf
      refine' Dl.fx_fn KX G ?zza ?zzl ?zzc ?zzk
      (case zza => k_is); (case zzl => k_is); (case zzc => k_is); (case zzk => k_is)
    have x__law_draw : Dl.FF (L2.KOf KX) mg "_law_draw" Fb.s_Ldraw := by
      unfold L2.KOf
      refine' Dl.fx_fn KX G ?zza ?zzl ?zzc ?zzk
      (case zza => k_is); (case zzl => k_is); (case zzc => k_is); (case zzk => k_is)
    have x__law_factor : Dl.FF (L2.KOf KX) mg "_law_factor" Fb.s_Lfactor := by
      unfold L2.KOf
      refine' Dl.fx_fn KX G ?zza ?zzl ?zzc ?zzk
      (case zza => k_is); (case zzl => k_is); (case zzc => k_is); (case zzk => k_is)
    have x__law_terms : Dl.FF (L2.KOf KX) mg "_law_terms" Fb.s_Lterms := by
      unfold L2.KOf
      refine' Dl.fx_fn KX G ?zza ?zzl ?zzc ?zzk
      (case zza => k_is); (case zzl => k_is); (case zzc => k_is); (case zzk => k_is)
    have x__law_first : Dl.FF (L2.KOf KX) mg "_law_first" Fb.s_Lfirst := by
      unfold L2.KOf
      refine' Dl.fx_fn KX G ?zza ?zzl ?zzc ?zzk
      (case zza => k_is); (case zzl => k_is); (case zzc => k_is); (case zzk => k_is)
    have x__law_kind : Dl.FF (L2.KOf KX) mg "_law_kind" Fb.s_Lkind := by
      unfold L2.KOf
      refine' Dl.fx_fn KX G ?zza ?zzl ?zzc ?zzk
      (case zza => k_is); (case zzl => k_is); (case zzc => k_is); (case zzk => k_is)
    have x__law_known : Dl.FF (L2.KOf KX) mg "_law_known" Fb.s_Lknown := by
      unfold L2.KOf
      refine' Dl.fx_fn KX G ?zza ?zzl ?zzc ?zzk
      (case zza => k_is); (case zzl => k_is); (case zzc => k_is); (case zzk => k_is)
    have x__law_made : Dl.FF (L2.KOf KX) mg "_law_made" Fb.s_Lmade := by
      unfold L2.KOf
      refine' Dl.fx_fn KX G ?zza ?zzl ?zzc ?zzk
      (case zza => k_is); (case zzl => k_is); (case zzc => k_is); (case zzk => k_is)
    have x__law_shares : Dl.FF (L2.KOf KX) mg "_law_shares" Fb.s_Lshares := by
      unfold L2.KOf
      refine' Dl.fx_fn KX G ?zza ?zzl ?zzc ?zzk
      (case zza => k_is); (case zzl => k_is); (case zzc => k_is); (case zzk => k_is)
    have x__law_rowed : Dl.FF (L2.KOf KX) mg "_law_rowed" Fb.s_Lrowed := by
      unfold L2.KOf
      refine' Dl.fx_fn KX G ?zza ?zzl ?zzc ?zzk
      (case zza => k_is); (case zzl => k_is); (case zzc => k_is); (case zzk => k_is)
    have x__law_spot : Dl.FF (L2.KOf KX) mg "_law_spot" Fb.s_Lspot := by
      unfold L2.KOf
      refine' Dl.fx_fn KX G ?zza ?zzl ?zzc ?zzk
      (case zza => k_is); (case zzl => k_is); (case zzc => k_is); (case zzk => k_is)
    have x__law_some : Dl.FF (L2.KOf KX) mg "_law_some" Fb.s_Lsome := by
      unfold L2.KOf
      refine' Dl.fx_fn KX G ?zza ?zzl ?zzc ?zzk
      (case zza => k_is); (case zzl => k_is); (case zzc => k_is); (case zzk => k_is)
    have x__law_figures : Dl.FF (L2.KOf KX) mg "_law_figures" Fb.s_Lfigures := by
      unfold L2.KOf
      refine' Dl.fx_fn KX G ?zza ?zzl ?zzc ?zzk
      (case zza => k_is); (case zzl => k_is); (case zzc => k_is); (case zzk => k_is)
    have x__law_far : Dl.FF (L2.KOf KX) mg "_law_far" Fb.s_Lfar := by
      unfold L2.KOf
      refine' Dl.fx_fn KX G ?zza ?zzl ?zzc ?zzk
      (case zza => k_is); (case zzl => k_is); (case zzc => k_is); (case zzk => k_is)
    have x__law_place : Dl.FF (L2.KOf KX) mg "_law_place" Fb.s_Lplace := by
      unfold L2.KOf
      refine' Dl.fx_fn KX G ?zza ?zzl ?zzc ?zzk
      (case zza => k_is); (case zzl => k_is); (case zzc => k_is); (case zzk => k_is)
    have x__law_rank : Dl.FF (L2.KOf KX) mg "_law_rank" Fb.s_Lrank := by
      unfold L2.KOf
      refine' Dl.fx_fn KX G ?zza ?zzl ?zzc ?zzk
      (case zza => k_is); (case zzl => k_is); (case zzc => k_is); (case zzk => k_is)
    have x__law_right : Dl.FF (L2.KOf KX) mg "_law_right" Fb.s_Lright := by
      unfold L2.KOf
      refine' Dl.fx_fn KX G ?zza ?zzl ?zzc ?zzk
      (case zza => k_is); (case zzl => k_is); (case zzc => k_is); (case zzk => k_is)
    have x_law : Dl.FF (L2.KOf KX) mg "law" Fb.s_law := by
      unfold L2.KOf
      refine' Dl.fx_fn KX G ?zza ?zzl ?zzc ?zzk
      (case zza => k_is); (case zzl => k_is); (case zzc => k_is); (case zzk => k_is)
    have x_Span : Dl.FC (L2.KOf KX) mg "Span" (Fb.R_Span (L2.KOf KX)) := by
      unfold L2.KOf
      refine' Dl.fx_cls KX G ?zza ?zzp ?zzh ?zzo ?zzs ?zzr
      (case zza => k_is); (case zzp => k_is); (case zzh => k_is); (case zzo => k_is); (case zzs => k_is)
      case zzr =>
        refine' ⟨?zzn0, Dl.fx_init ?zza1 ?zzm1 ?zzi1 ?zzk1 ?zzl1 ?zzc1 ?zzj1, Dl.fx_meth ?zza2 ?zzi2 ?zzl2 ?zzc2 ?zzj2, Dl.fx_meth ?zza3 ?zzi3 ?zzl3 ?zzc3 ?zzj3⟩
        (case zzn0 => unfold L2.NoAttr; k_is); (case zza1 => k_is); (case zzm1 => k_is); (case zzi1 => k_is); (case zzk1 => k_is); (case zzl1 => k_is); (case zzc1 => k_is); (case zzj1 => k_is); (case zza2 => k_is); (case zzi2 => k_is); (case zzl2 => k_is); (case zzc2 => k_is); (case zzj2 => k_is); (case zza3 => k_is); (case zzi3 => k_is); (case zzl3 => k_is); (case zzc3 => k_is); (case zzj3 => k_is)
    have x_Book : Dl.FC (L2.KOf KX) mg "Book" (Fb.R_Book (L2.KOf KX)) := by
      unfold L2.KOf
      refine' Dl.fx_cls KX G ?zza ?zzp ?zzh ?zzo ?zzs ?zzr
      (case zza => k_is); (case zzp => k_is); (case zzh => k_is); (case zzo => k_is); (case zzs => k_is)
      case zzr =>
        refine' ⟨?zzn0, ?zzn1, Dl.fx_init ?zza2 ?zzm2 ?zzi2 ?zzk2 ?zzl2 ?zzc2 ?zzj2, Dl.fx_prop ?zza3 ?zzg3 ?zzt3 ?zzr3 ?zzl3 ?zzc3 ?zzj3, Dl.fx_prop ?zza4 ?zzg4 ?zzt4 ?zzr4 ?zzl4 ?zzc4 ?zzj4, Dl.fx_own ?zza5 ?zzi5 ?zzo5 ?zzb5 ?zzl5 ?zzc5 ?zzj5, ⟨?zzw6, ?zzx6, ?zzy6, ?zzz6⟩⟩
        (case zzn0 => unfold L2.NoAttr; k_is); (case zzn1 => unfold L2.NoAttr; k_is); (case zza2 => k_is); (case zzm2 => k_is); (case zzi2 => k_is); (case zzk2 => k_is); (case zzl2 => k_is); (case zzc2 => k_is); (case zzj2 => k_is); (case zza3 => k_is); (case zzg3 => k_is); (case zzt3 => k_is); (case zzr3 => k_is); (case zzl3 => k_is); (case zzc3 => k_is); (case zzj3 => k_is); (case zza4 => k_is); (case zzg4 => k_is); (case zzt4 => k_is); (case zzr4 => k_is); (case zzl4 => k_is); (case zzc4 => k_is); (case zzj4 => k_is); (case zza5 => k_is); (case zzi5 => k_is); (case zzo5 => k_is); (case zzb5 => k_is); (case zzl5 => k_is); (case zzc5 => k_is); (case zzj5 => k_is); (case zzw6 => k_is); (case zzx6 => k_is); (case zzy6 => k_is); (case zzz6 => k_is)
    have x_System : Dl.FC (L2.KOf KX) mg "System" (Fb.R_System (L2.KOf KX)) := by
      unfold L2.KOf
      refine' Dl.fx_cls KX G ?zza ?zzp ?zzh ?zzo ?zzs ?zzr
      (case zza => k_is); (case zzp => k_is); (case zzh => k_is); (case zzo => k_is); (case zzs => k_is)
      case zzr =>
        refine' ⟨?zzn0, ?zzn1, ?zzn2, Dl.fx_init ?zza3 ?zzm3 ?zzi3 ?zzk3 ?zzl3 ?zzc3 ?zzj3, Dl.fx_meth ?zza4 ?zzi4 ?zzl4 ?zzc4 ?zzj4, Dl.fx_meth ?zza5 ?zzi5 ?zzl5 ?zzc5 ?zzj5⟩
        (case zzn0 => unfold L2.NoAttr; k_is); (case zzn1 => unfold L2.NoAttr; k_is); (case zzn2 => unfold L2.NoAttr; k_is); (case zza3 => k_is); (case zzm3 => k_is); (case zzi3 => k_is); (case zzk3 => k_is); (case zzl3 => k_is); (case zzc3 => k_is); (case zzj3 => k_is); (case zza4 => k_is); (case zzi4 => k_is); (case zzl4 => k_is); (case zzc4 => k_is); (case zzj4 => k_is); (case zza5 => k_is); (case zzi5 => k_is); (case zzl5 => k_is); (case zzc5 => k_is); (case zzj5 => k_is)
    have x_Row : Dl.FC (L2.KOf KX) mg "Row" (Fb.R_Row (L2.KOf KX)) := by
      unfold L2.KOf
      refine' Dl.fx_cls KX G ?zza ?zzp ?zzh ?zzo ?zzs ?zzr
      (case zza => k_is); (case zzp => k_is); (case zzh => k_is); (case zzo => k_is); (case zzs => k_is)
      case zzr =>
        refine' ⟨?zzn0, ?zzn1, Dl.fx_init ?zza2 ?zzm2 ?zzi2 ?zzk2 ?zzl2 ?zzc2 ?zzj2, Dl.fx_prop ?zza3 ?zzg3 ?zzt3 ?zzr3 ?zzl3 ?zzc3 ?zzj3, Dl.fx_prop ?zza4 ?zzg4 ?zzt4 ?zzr4 ?zzl4 ?zzc4 ?zzj4, Dl.fx_own ?zza5 ?zzi5 ?zzo5 ?zzb5 ?zzl5 ?zzc5 ?zzj5, ⟨?zzw6, ?zzx6, ?zzy6, ?zzz6⟩⟩
        (case zzn0 => unfold L2.NoAttr; k_is); (case zzn1 => unfold L2.NoAttr; k_is); (case zza2 => k_is); (case zzm2 => k_is); (case zzi2 => k_is); (case zzk2 => k_is); (case zzl2 => k_is); (case zzc2 => k_is); (case zzj2 => k_is); (case zza3 => k_is); (case zzg3 => k_is); (case zzt3 => k_is); (case zzr3 => k_is); (case zzl3 => k_is); (case zzc3 => k_is); (case zzj3 => k_is); (case zza4 => k_is); (case zzg4 => k_is); (case zzt4 => k_is); (case zzr4 => k_is); (case zzl4 => k_is); (case zzc4 => k_is); (case zzj4 => k_is); (case zza5 => k_is); (case zzi5 => k_is); (case zzo5 => k_is); (case zzb5 => k_is); (case zzl5 => k_is); (case zzc5 => k_is); (case zzj5 => k_is); (case zzw6 => k_is); (case zzx6 => k_is); (case zzy6 => k_is); (case zzz6 => k_is)
    exact Fb.law_top hmg z_abs z_all z_any z_dict z_enumerate z_int z_isinstance z_len z_list z_max z_min z_range z_repr z_sorted z_sum z_tuple z_zip k_BASES k_LETTERS x_dot x_common_divisor x_reduced_by x_first_spot x_is_name x_check_names x_check_formulas x_check_starts x_starts_of x_matrix_of x_figures_of x_system_of x_check_number x_check_block x_behind_block x_recurrence x__law_pool x__law_draw x__law_factor x__law_terms x__law_first x__law_kind x__law_known x__law_made x__law_shares x__law_rowed x__law_spot x__law_some x__law_figures x__law_far x__law_place x__law_rank x__law_right x_law x_Span x_Book x_System x_Row
