import PyProof.Rows.All
import Wide.All
import OpenK.AllK
import Wide.FinOn
import HandS.ForMost
import HandS.Exc
import HandS.TryOnly
import KE.DataEq
import HandS.TupAny
import HandS.TupMul
import HandS.Style
import HandS.Deep
import HandS.IsInst
import HandS.Wide
import HandS.CallSlots
import HandS.WordsExc
import HandS.Property
import HandS.Defaults
import HandS.Iter
import HandS.Zip
import KE.GoesMore
import KE.GoesZip
import HandS.Small
import HandS.Head0
import HandS.Head1
import HandS.Head2
import HandS.HeadEnd
import HandS.HeadHook1
import HandS.HeadHook2
import KE.KExcSuper
import KE.KSuper
import HandS.ExcInit
import PyProof.ReprRoads
import PyProof.ReprLen
import PyProof.CallFns
import KE.KRevSl
import HandS.Flt
import HandS.TryMany
import HandS.TupLe
import HandS.SetBool
import HandS.Strs
import HandS.SortInts
import PySem.Challenge.RW_tilewright_k10_whole_regions_cut
set_option Elab.async false
set_option linter.all false
set_option maxRecDepth 100000
set_option maxHeartbeats 4000000
/-! L3A: data as trees, an own small heap, the relation to the abstract heap of HandS. -/
namespace L3
open PySem PySem.Spec L2
inductive D where
  | non | bl (b : Bool) | int (i : Int) | str (x : List Nat) | tup (ds : List D) | lst (ds : List D)
  | dic (ks vs : List D) | obj (c : Nat) (ds : List D) | ref (n : Nat) | scr (ds : List D)
deriving Inhabited
/-- what a source of draws holds -/
structure Src where
  a : List Int
  b : List Int
  c : Int
  d : Int
/-- what changes -/
inductive O where
  | lst (ds : List D) | dic (ks vs : List D) | dit (ks : List (List Int)) (vs : List D) | obj (c : Nat) (ds : List D) | src (s : Src) | dead
abbrev Hh := List O
abbrev De := List (Option D)
inductive R (α : Type) where
  | ok (x : α) (h : Hh) | exc (c : Nat) (ds : List D) (h : Hh) | stk
/-- the end of statements -/
inductive RS where
  | nx (δ : De) (h : Hh) | rt (d : D) (h : Hh) | bk (δ : De) (h : Hh) | ct (δ : De) (h : Hh) | exc (c : Nat) (ds : List D) (δ : De) (h : Hh) | stk
def R.bind {α β : Type} (r : R α) (k : α → Hh → R β) : R β := match r with
  | .ok x h => k x h
  | .exc c ds h => .exc c ds h
  | .stk => .stk
/-! ### the ghost -/
structure Gst where
  ι : List Addr
  own : Addr → Option Nat
  fz : Hp
  /-- what is another's, kept as it is -/
  pr : Hp
/-- what is fixed of the text -/
structure Tx where
  /-- own classes: where, the attributes in order -/
  cls : Nat → Option (Addr × List Str)
  /-- own classes of exceptions: where, the attributes -/
  exc : Nat → Option (Addr × List Str)
  /-- a source's objects: where it stands, what it owns -/
  src : Src → Addr → (Addr → Prop) → Hp → Prop
  srcAt : ∀ s a p H, src s a p H → p a
  srcStay : ∀ s a p H H', src s a p H → (∀ b, p b → H' b = H b) → src s a p H'
mutual
inductive RD (K : PySem.W.Frag) (T : Tx) (G : Gst) : D → V → Prop where
  | non : RD K T G .non .non
  | bl {b} : RD K T G (.bl b) (.bl b)
  | int {i} : RD K T G (.int i) (.int i)
  | str {x} : RD K T G (.str x) (.str ⟨x.toArray⟩)
  | tup {ds a vs} (h : SqT K G.fz a vs) (r : RDs K T G ds vs) (n : ds.length = 2 → G.fz a = some (.tup vs)) : RD K T G (.tup ds) (.ref a)
  | lst {ds a vs} (h : G.fz a = some (.lst vs)) (r : RDs K T G ds vs) : RD K T G (.lst ds) (.ref a)
  | scr {ds a vs} (h : SqL K G.fz a vs) (r : RDs K T G ds vs) : RD K T G (.scr ds) (.ref a)
  | dic {ks vs a kvs} (h : G.fz a = some (.dK kvs)) (k : RDs K T G ks (kvs.map fun p => kV p.1)) (r : RDs K T G vs (kvs.map (·.2))) : RD K T G (.dic ks vs) (.ref a)
  | obj {c ds a C dx nm fs} (h : G.fz a = some (.ins C dx fs)) (hc : T.cls c = some (C, nm)) (hn : fs.map (·.1) = nm) (r : RDs K T G ds (fs.map (·.2))) : RD K T G (.obj c ds) (.ref a)
  | ref {n a} (h : G.ι[n]? = some a) : RD K T G (.ref n) (.ref a)
inductive RDs (K : PySem.W.Frag) (T : Tx) (G : Gst) : List D → List V → Prop where
  | nil : RDs K T G [] []
  | cons {d v ds vs} (h : RD K T G d v) (t : RDs K T G ds vs) : RDs K T G (d :: ds) (v :: vs)
end
structure Ext (G G' : Gst) : Prop where
  ι : ∃ t, G'.ι = G.ι ++ t
  fz : ∀ a o, G.fz a = some o → G'.fz a = some o
  pr : G'.pr = G.pr
theorem Ext.refl (G : Gst) : Ext G G := ⟨⟨[], by simp⟩, fun _ _ h => h, rfl⟩
theorem Ext.trans {G G1 G2 : Gst} (a : Ext G G1) (b : Ext G1 G2) : Ext G G2 := by
  obtain ⟨t, e⟩ := a.ι
  obtain ⟨u, e'⟩ := b.ι
  exact ⟨⟨t ++ u, by rw [e', e, List.append_assoc]⟩, fun x o h => b.fz x o (a.fz x o h), b.pr.trans a.pr⟩
/-- the part of it that values ask -/
structure Ext0 (G G' : Gst) : Prop where
  ι : ∃ t, G'.ι = G.ι ++ t
  fz : ∀ a o, G.fz a = some o → G'.fz a = some o
theorem Ext.e0 {G G' : Gst} (x : Ext G G') : Ext0 G G' := ⟨x.ι, x.fz⟩
theorem Rd.sub {H H' : Hp} {a : Addr} {u : HO} (s : ∀ a o, H a = some o → H' a = some o) (h : Rd H a u) : Rd H' a u := by
  rcases h with h | ⟨o, h⟩
  · exact .inl (s _ _ h)
  · exact .inr ⟨o, s _ _ h⟩
theorem SqL.sub {K : PySem.W.Frag} {H H' : Hp} {a : Addr} {xs : List V} (s : ∀ a o, H a = some o → H' a = some o) (h : SqL K H a xs) : SqL K H' a xs := by
  rcases h with h | h
  · exact .inl (Rd.sub s h)
  · exact .inr h
theorem SqT.sub {K : PySem.W.Frag} {H H' : Hp} {a : Addr} {xs : List V} (s : ∀ a o, H a = some o → H' a = some o) (h : SqT K H a xs) : SqT K H' a xs := by
  rcases h with h | h
  · exact .inl (Rd.sub s h)
  · exact .inr h
mutual
theorem RD.mono0 {K : PySem.W.Frag} {T : Tx} {G G' : Gst} (x : Ext0 G G') : ∀ {d v}, RD K T G d v → RD K T G' d v
  | _, _, .non => .non
  | _, _, .bl => .bl
  | _, _, .int => .int
  | _, _, .str => .str
  | _, _, .tup h r n => .tup (SqT.sub x.fz h) (RDs.mono0 x r) fun e => x.fz _ _ (n e)
  | _, _, .lst h r => .lst (x.fz _ _ h) (RDs.mono0 x r)
  | _, _, .scr h r => .scr (SqL.sub x.fz h) (RDs.mono0 x r)
  | _, _, .dic h k r => .dic (x.fz _ _ h) (RDs.mono0 x k) (RDs.mono0 x r)
  | _, _, .obj h hc hn r => .obj (x.fz _ _ h) hc hn (RDs.mono0 x r)
  | _, _, .ref h => by
    obtain ⟨t, e⟩ := x.ι
    refine .ref ?_
    rw [e, List.getElem?_append_left (List.getElem?_eq_some_iff.mp h).1]
    exact h
theorem RDs.mono0 {K : PySem.W.Frag} {T : Tx} {G G' : Gst} (x : Ext0 G G') : ∀ {ds vs}, RDs K T G ds vs → RDs K T G' ds vs
  | _, _, .nil => .nil
  | _, _, .cons h t => .cons (RD.mono0 x h) (RDs.mono0 x t)
end
theorem RD.mono {K : PySem.W.Frag} {T : Tx} {G G' : Gst} (x : Ext G G') {d v} (r : RD K T G d v) : RD K T G' d v := RD.mono0 x.e0 r
theorem RDs.mono {K : PySem.W.Frag} {T : Tx} {G G' : Gst} (x : Ext G G') {d v} (r : RDs K T G d v) : RDs K T G' d v := RDs.mono0 x.e0 r
theorem RDs.length {K : PySem.W.Frag} {T : Tx} {G : Gst} : ∀ {ds vs}, RDs K T G ds vs → ds.length = vs.length
  | _, _, .nil => rfl
  | _, _, .cons _ t => by simp [RDs.length t]
theorem RDs.append {K : PySem.W.Frag} {T : Tx} {G : Gst} : ∀ {ds vs es ws}, RDs K T G ds vs → RDs K T G es ws → RDs K T G (ds ++ es) (vs ++ ws)
  | _, _, _, _, .nil, s => s
  | _, _, _, _, .cons h t, s => .cons h (RDs.append t s)
theorem RDs.get {K : PySem.W.Frag} {T : Tx} {G : Gst} : ∀ {ds vs} {i : Nat} {d}, RDs K T G ds vs → ds[i]? = some d → ∃ v, vs[i]? = some v ∧ RD K T G d v
  | _, _, _, _, .nil, e => by simp at e
  | _, _, 0, _, .cons h _, e => by simp at e; subst e; exact ⟨_, rfl, h⟩
  | _, _, i + 1, d, .cons _ t, e => by
    obtain ⟨v, h1, h2⟩ := RDs.get (i := i) (d := d) t (by simpa using e)
    exact ⟨v, by simpa using h1, h2⟩
theorem RDs.getV {K : PySem.W.Frag} {T : Tx} {G : Gst} : ∀ {ds vs} {i : Nat} {v}, RDs K T G ds vs → vs[i]? = some v → ∃ d, ds[i]? = some d ∧ RD K T G d v
  | _, _, _, _, .nil, e => by simp at e
  | _, _, 0, _, .cons h _, e => by simp at e; subst e; exact ⟨_, rfl, h⟩
  | _, _, i + 1, v, .cons _ t, e => by
    obtain ⟨d, h1, h2⟩ := RDs.getV (i := i) (v := v) t (by simpa using e)
    exact ⟨d, by simpa using h1, h2⟩
theorem RDs.set {K : PySem.W.Frag} {T : Tx} {G : Gst} {d v} (r : RD K T G d v) : ∀ {ds vs} (i : Nat), RDs K T G ds vs → RDs K T G (ds.set i d) (vs.set i v)
  | _, _, _, .nil => .nil
  | _, _, 0, .cons _ t => .cons r t
  | _, _, i + 1, .cons h t => .cons h (RDs.set r i t)
theorem RDs.take {K : PySem.W.Frag} {T : Tx} {G : Gst} : ∀ {ds vs} (n : Nat), RDs K T G ds vs → RDs K T G (ds.take n) (vs.take n)
  | _, _, 0, _ => by simpa using RDs.nil
  | _, _, _ + 1, .nil => .nil
  | _, _, n + 1, .cons h t => .cons h (RDs.take n t)
theorem RDs.drop {K : PySem.W.Frag} {T : Tx} {G : Gst} : ∀ {ds vs} (n : Nat), RDs K T G ds vs → RDs K T G (ds.drop n) (vs.drop n)
  | _, _, 0, r => r
  | _, _, _ + 1, .nil => .nil
  | _, _, n + 1, .cons _ t => RDs.drop n t
theorem RDs.rep {K : PySem.W.Frag} {T : Tx} {G : Gst} {ds vs} (h : RDs K T G ds vs) : ∀ k : Nat, RDs K T G (List.replicate k ds).flatten (List.replicate k vs).flatten
  | 0 => .nil
  | k + 1 => by
    rw [List.replicate_succ, List.replicate_succ, List.flatten_cons, List.flatten_cons]
    exact h.append (h.rep k)
theorem RDs.reverse {K : PySem.W.Frag} {T : Tx} {G : Gst} : ∀ {ds vs}, RDs K T G ds vs → RDs K T G ds.reverse vs.reverse
  | _, _, .nil => .nil
  | _, _, .cons h t => by
    rw [List.reverse_cons, List.reverse_cons]
    exact (RDs.reverse t).append (.cons h .nil)
/-! ### what stands at n -/
def RO (K : PySem.W.Frag) (T : Tx) (G : Gst) (H : Hp) (n : Nat) : O → Prop
  | .lst ds => ∃ a vs, G.ι[n]? = some a ∧ G.own a = some n ∧ H a = some (.lst vs) ∧ RDs K T G ds vs
  | .dic ks vs => ∃ a kvs, G.ι[n]? = some a ∧ G.own a = some n ∧ H a = some (.dK kvs) ∧ RDs K T G ks (kvs.map fun p => kV p.1) ∧ RDs K T G vs (kvs.map (·.2))
  | .dit ks vs => ∃ a kvs, G.ι[n]? = some a ∧ G.own a = some n ∧ H a = some (.dT kvs) ∧ kvs.map (·.1) = ks.map (fun k => k.map Sum.inl) ∧ RDs K T G vs (kvs.map (·.2))
  | .obj c ds => ∃ a C dx nm fs, G.ι[n]? = some a ∧ G.own a = some n ∧ H a = some (.ins C dx fs) ∧ T.cls c = some (C, nm) ∧ fs.map (·.1) = nm.take ds.length ∧ RDs K T G ds (fs.map (·.2))
  | .src s => ∃ a, G.ι[n]? = some a ∧ T.src s a (fun b => G.own b = some n) H
  | .dead => True
structure Rel (K : PySem.W.Frag) (T : Tx) (G : Gst) (h : Hh) (H : Hp) : Prop where
  len : G.ι.length = h.length
  sub : ∀ a o, G.fz a = some o → H a = some o
  own : ∀ a n, G.own a = some n → n < h.length ∧ G.fz a = none ∧ H a ≠ none
  pr : ∀ a o, G.pr a = some o → H a = some o ∧ G.fz a = none ∧ G.own a = none
  obj : ∀ n o, h[n]? = some o → RO K T G H n o
/-- slots -/
structure RSl (K : PySem.W.Frag) (T : Tx) (G : Gst) (δ : De) (σ : St) : Prop where
  len : δ.length = σ.length
  at_ : ∀ (i : Nat) d, δ[i]? = some (some d) → ∃ v, σ[i]? = some (some v) ∧ RD K T G d v
theorem RSl.mono {K : PySem.W.Frag} {T : Tx} {G G' : Gst} {δ : De} {σ : St} (x : Ext G G') (r : RSl K T G δ σ) : RSl K T G' δ σ :=
  ⟨r.len, fun i d e => let ⟨v, h1, h2⟩ := r.at_ i d e; ⟨v, h1, h2.mono x⟩⟩
theorem RSl.set {K : PySem.W.Frag} {T : Tx} {G : Gst} {δ : De} {σ : St} {d : D} {v : V} (r : RSl K T G δ σ) (h : RD K T G d v) (i : Nat) : RSl K T G (δ.set i (some d)) (σ.set i (some v)) := by
  refine ⟨by simp [r.len], fun j e q => ?_⟩
  by_cases hj : j = i
  · subst hj
    by_cases hl : j < δ.length
    · rw [List.getElem?_set_self hl] at q
      cases q
      exact ⟨v, List.getElem?_set_self (by rw [← r.len]; exact hl), h⟩
    · rw [List.getElem?_eq_none (by simpa using hl)] at q
      cases q
  · rw [List.getElem?_set_ne (Ne.symm hj)] at q ⊢
    exact r.at_ j e q
theorem RSl.unset {K : PySem.W.Frag} {T : Tx} {G : Gst} {δ : De} {σ : St} (r : RSl K T G δ σ) (i : Nat) (x : Option V) : RSl K T G (δ.set i none) (σ.set i x) := by
  refine ⟨by simp [r.len], fun j e q => ?_⟩
  by_cases hj : j = i
  · subst hj
    by_cases hl : j < δ.length
    · rw [List.getElem?_set_self hl] at q
      cases q
    · rw [List.getElem?_eq_none (by simpa using hl)] at q
      cases q
  · rw [List.getElem?_set_ne (Ne.symm hj)] at q ⊢
    exact r.at_ j e q
/-- an exception's class and its own dict -/
def RX (K : PySem.W.Frag) (T : Tx) (G : Gst) (c : Nat) (ds : List D) (cls : Value) (dd : Option Addr) : Prop :=
  ∃ C nm, T.exc c = some (C, nm) ∧ cls = .ref C ∧ ((ds = [] ∧ nm = []) ∨ ∃ dx fs, dd = some dx ∧ G.fz dx = some (.xd fs) ∧ fs.map (·.1) = nm ∧ RDs K T G ds (fs.map (·.2)))
/-! ### changes of the heap -/
section
variable {K : PySem.W.Frag} {T : Tx} {G : Gst} {h : Hh} {H : Hp}
theorem RO.stay {n : Nat} {o : O} {G' : Gst} {H' : Hp} (r : RO K T G H n o) (x : Ext G G') (ho : ∀ b, G.own b = some n → G'.own b = some n) (hb : ∀ b, G'.own b = some n → H' b = H b) (hc : ∀ b, G'.own b = some n → G.own b = some n) : RO K T G' H' n o := by
  have hi : ∀ a, G.ι[n]? = some a → G'.ι[n]? = some a := fun a e => by
    obtain ⟨t, q⟩ := x.ι
    rw [q, List.getElem?_append_left (List.getElem?_eq_some_iff.mp e).1]; exact e
  cases o with
  | lst ds => obtain ⟨a, vs, e1, e2, e3, e4⟩ := r; exact ⟨a, vs, hi _ e1, ho _ e2, by rw [hb _ (ho _ e2)]; exact e3, e4.mono x⟩
  | dic ks vs => obtain ⟨a, kvs, e1, e2, e3, e4, e5⟩ := r; exact ⟨a, kvs, hi _ e1, ho _ e2, by rw [hb _ (ho _ e2)]; exact e3, e4.mono x, e5.mono x⟩
  | dit ks vs => obtain ⟨a, kvs, e1, e2, e3, e4, e5⟩ := r; exact ⟨a, kvs, hi _ e1, ho _ e2, by rw [hb _ (ho _ e2)]; exact e3, e4, e5.mono x⟩
  | obj c ds => obtain ⟨a, C, dx, nm, fs, e1, e2, e3, e4, e5, e6⟩ := r; exact ⟨a, C, dx, nm, fs, hi _ e1, ho _ e2, by rw [hb _ (ho _ e2)]; exact e3, e4, e5, e6.mono x⟩
  | src s =>
    obtain ⟨a, e1, e2⟩ := r
    refine ⟨a, hi _ e1, ?_⟩
    have e : (fun b => G'.own b = some n) = (fun b => G.own b = some n) := funext fun b => propext ⟨hc b, ho b⟩
    rw [e]
    exact T.srcStay _ _ _ _ _ e2 fun b q => hb b (ho b q)
  | dead => trivial
/-- a new thing that never changes -/
def Gst.frz (G : Gst) (p : Addr) (o : HO) : Gst := { G with fz := upd G.fz p o }
theorem Rel.fzNone (r : Rel K T G h H) {p : Addr} (hp : H p = none) : G.fz p = none := by
  cases e : G.fz p with
  | none => rfl
  | some o => rw [r.sub _ _ e] at hp; cases hp
theorem Gst.frz_ext {p : Addr} {o : HO} (e : G.fz p = none) : Ext G (G.frz p o) :=
  ⟨⟨[], by simp [Gst.frz]⟩, fun a u q => by
    show upd G.fz p o a = some u
    rw [upd_ne (ne_of_none q e)]; exact q, rfl⟩
theorem Rel.newF (r : Rel K T G h H) {p : Addr} {o : HO} (hp : H p = none) : Ext G (G.frz p o) ∧ Rel K T (G.frz p o) h (upd H p o) := by
  have e := r.fzNone hp
  have x := Gst.frz_ext (o := o) e
  refine ⟨x, r.len, fun a u q => ?_, fun a n q => ?_, fun a u q => ?_, fun n u q => ?_⟩
  · have q' : upd G.fz p o a = some u := q
    by_cases ha : a = p
    · subst ha; rw [upd_same] at q' ⊢; exact q'
    · rw [upd_ne ha] at q' ⊢; exact r.sub _ _ q'
  · have q' : G.own a = some n := q
    obtain ⟨h1, h2, h3⟩ := r.own a n q'
    have na : a ≠ p := fun z => h3 (by rw [z]; exact hp)
    exact ⟨h1, by show upd G.fz p o a = none; rw [upd_ne na]; exact h2, by rw [upd_ne na]; exact h3⟩
  · obtain ⟨h1, h2, h3⟩ := r.pr a u q
    have na : a ≠ p := ne_of_none h1 hp
    exact ⟨by rw [upd_ne na]; exact h1, by show upd G.fz p o a = none; rw [upd_ne na]; exact h2, h3⟩
  · refine (r.obj n u q).stay x (fun _ z => z) (fun b z => ?_) fun _ z => z
    have z' : G.own b = some n := z
    exact upd_ne fun w => (r.own b n z').2.2 (by rw [w]; exact hp)
/-- a new thing that may change -/
def Gst.new (G : Gst) (p : Addr) : Gst := { ι := G.ι ++ [p], own := fun b => if b = p then some G.ι.length else G.own b, fz := G.fz, pr := G.pr }
theorem Gst.new_ext {p : Addr} : Ext G (G.new p) := ⟨⟨[p], rfl⟩, fun _ _ q => q, rfl⟩
theorem Rel.newO (r : Rel K T G h H) {p : Addr} {o : HO} {u : O} (hp : H p = none) (ho : ∀ G', Ext G G' → G'.ι[h.length]? = some p → G'.own p = some h.length → (∀ b, G'.own b = some h.length → b = p) → RO K T G' (upd H p o) h.length u) : Ext G (G.new p) ∧ Rel K T (G.new p) (h ++ [u]) (upd H p o) := by
  have nown : ∀ b n, G.own b = some n → b ≠ p := fun b n q z => (r.own b n q).2.2 (by rw [z]; exact hp)
  refine ⟨Gst.new_ext, by simp [Gst.new, r.len], fun a v q => ?_, fun a n q => ?_, fun a v q => ?_, fun n v q => ?_⟩
  · have := r.sub a v q
    rw [upd_ne (ne_of_none this hp)]; exact this
  · have q' : (if a = p then some G.ι.length else G.own a) = some n := q
    by_cases ha : a = p
    · rw [if_pos ha] at q'
      cases q'
      refine ⟨by simp [r.len], ?_, ?_⟩
      · rw [ha]; exact r.fzNone hp
      · rw [ha, upd_same]; simp
    · rw [if_neg ha] at q'
      obtain ⟨h1, h2, h3⟩ := r.own a n q'
      exact ⟨by simp; omega, h2, by rw [upd_ne ha]; exact h3⟩
  · obtain ⟨h1, h2, h3⟩ := r.pr a v q
    have na : a ≠ p := ne_of_none h1 hp
    exact ⟨by rw [upd_ne na]; exact h1, h2, by show (if a = p then some G.ι.length else G.own a) = none; rw [if_neg na]; exact h3⟩
  · by_cases hn : n < h.length
    · rw [List.getElem?_append_left hn] at q
      have old : ∀ b, (if b = p then some G.ι.length else G.own b) = some n → G.own b = some n := fun b z => by
        by_cases hb : b = p
        · rw [if_pos hb] at z; cases z; rw [r.len] at hn; omega
        · rw [if_neg hb] at z; exact z
      refine (r.obj n v q).stay Gst.new_ext (fun b z => ?_) (fun b z => ?_) old
      · show (if b = p then some G.ι.length else G.own b) = some n
        rw [if_neg (nown b n z)]; exact z
      · exact upd_ne (nown b n (old b z))
    · have hn' : n = h.length := by
        have := (List.getElem?_eq_some_iff.mp q).1
        simp at this; omega
      subst hn'
      simp at q
      subst q
      refine ho _ Gst.new_ext ?_ ?_ ?_
      · show (G.ι ++ [p])[h.length]? = some p
        rw [← r.len]; simp
      · show (if p = p then some G.ι.length else G.own p) = some h.length
        rw [if_pos rfl, r.len]
      · intro b z
        have z' : (if b = p then some G.ι.length else G.own b) = some h.length := z
        by_cases hb : b = p
        · exact hb
        · rw [if_neg hb] at z'
          have := (r.own b _ z').1
          omega
/-- the thing at n is changed at its own address -/
theorem Rel.put (r : Rel K T G h H) {n : Nat} {a : Addr} {o : HO} {u : O} (hn : n < h.length) (ha : G.own a = some n) (ho : RO K T G (upd H a o) n u) : Rel K T G (h.set n u) (upd H a o) := by
  obtain ⟨_, f0, _⟩ := r.own a n ha
  refine ⟨by simpa using r.len, fun b v q => ?_, fun b m q => ?_, fun b v q => ?_, fun m v q => ?_⟩
  · have nb : b ≠ a := fun z => by rw [z, f0] at q; cases q
    rw [upd_ne nb]; exact r.sub b v q
  · obtain ⟨h1, h2, h3⟩ := r.own b m q
    refine ⟨by simpa using h1, h2, ?_⟩
    by_cases hb : b = a
    · rw [hb, upd_same]; simp
    · rw [upd_ne hb]; exact h3
  · obtain ⟨h1, h2, h3⟩ := r.pr b v q
    have nb : b ≠ a := fun z => by rw [z, ha] at h3; cases h3
    exact ⟨by rw [upd_ne nb]; exact h1, h2, h3⟩
  · by_cases hm : m = n
    · subst hm
      rw [List.getElem?_set_self hn] at q
      cases q
      exact ho
    · rw [List.getElem?_set_ne (Ne.symm hm)] at q
      refine (r.obj m v q).stay (Ext.refl G) (fun _ z => z) (fun b z => ?_) fun _ z => z
      exact upd_ne fun w => by rw [w, ha] at z; cases z; exact hm rfl
end
end L3
set_option autoImplicit false
set_option maxHeartbeats 4000000
/-! L3B: the judgements over HandS's: functional readings. -/
namespace L3
open PySem PySem.Spec L2
abbrev FnE := De → Hh → R D
abbrev FnA := De → Hh → R (List D)
abbrev FnT := De → Hh → R Bool
abbrev FnS := De → Hh → RS
def okR {α β : Type} (K : PySem.W.Frag) (T : Tx) (W : WX) (G : Gst) (σ : L2.St) (rel : Gst → α → β → Prop) (r : R α) (Q : β → Hp → Prop) : Prop := match r with
  | .ok x h => ∀ G' H' v, Ext G G' → Rel K T G' h H' → rel G' x v → Q v H'
  | .exc c ds h => ∀ G' H' cls dd, Ext G G' → Rel K T G' h H' → RX K T G' c ds cls dd → W cls dd σ H'
  | .stk => False
theorem okR.ext {α β : Type} {K : PySem.W.Frag} {T : Tx} {W : WX} {G G' : Gst} {σ : L2.St} {rel : Gst → α → β → Prop} {r : R α} {Q : β → Hp → Prop} (x : Ext G G') (h : okR K T W G σ rel r Q) : okR K T W G' σ rel r Q := by
  cases r with
  | ok y hh => exact fun G2 H2 v e => h G2 H2 v (x.trans e)
  | exc c ds hh => exact fun G2 H2 cls dd e => h G2 H2 cls dd (x.trans e)
  | stk => exact h
theorem okR.mono {α β : Type} {K : PySem.W.Frag} {T : Tx} {W : WX} {G : Gst} {σ : L2.St} {rel : Gst → α → β → Prop} {r : R α} {Q Q' : β → Hp → Prop} (h : okR K T W G σ rel r Q) (q : ∀ v H, Q v H → Q' v H) : okR K T W G σ rel r Q' := by
  cases r with
  | ok y hh => exact fun G2 H2 v e a b => q _ _ (h G2 H2 v e a b)
  | exc c ds hh => exact h
  | stk => exact h
theorem okR.bind {α β γ ε : Type} {K : PySem.W.Frag} {T : Tx} {W : WX} {G : Gst} {σ : L2.St} {rel : Gst → α → β → Prop} {rel' : Gst → γ → ε → Prop} {r : R α} {k : α → Hh → R γ} {Q : ε → Hp → Prop} (h : okR K T W G σ rel' (r.bind k) Q) :
    okR K T W G σ rel r fun v H1 => ∃ G1 x h1, Ext G G1 ∧ Rel K T G1 h1 H1 ∧ rel G1 x v ∧ okR K T W G1 σ rel' (k x h1) Q := by
  cases r with
  | ok y hh => exact fun G2 H2 v e a b => ⟨G2, y, hh, e, a, b, okR.ext e h⟩
  | exc c ds hh => exact h
  | stk => exact h
/-- a value that is there -/
theorem okR.at {α β : Type} {K : PySem.W.Frag} {T : Tx} {W : WX} {G : Gst} {σ : L2.St} {rel : Gst → α → β → Prop} {x : α} {v : β} {h : Hh} {H : Hp} {Q : β → Hp → Prop} (q : okR K T W G σ rel (.ok x h) Q) (r : Rel K T G h H) (d : rel G x v) : Q v H := q G H v (Ext.refl G) r d
abbrev relB : Gst → Bool → Bool → Prop := fun _ a b => a = b
def tF {α β : Type} (K : PySem.W.Frag) (T : Tx) (W : WX) (rel : Gst → α → β → Prop) (f : De → Hh → R α) : L2.St → Hp → (β → Hp → Prop) → Prop := fun σ H Q =>
  ∃ G h δ, Rel K T G h H ∧ RSl K T G δ σ ∧ okR K T W G σ rel (f δ h) Q
abbrev tE (K : PySem.W.Frag) (T : Tx) (W : WX) (f : FnE) : TE := tF K T W (RD K T) f
abbrev tA (K : PySem.W.Frag) (T : Tx) (W : WX) (f : FnA) : TA := tF K T W (RDs K T) f
abbrev tT (K : PySem.W.Frag) (T : Tx) (W : WX) (f : FnT) : TT := tF K T W relB f
/-- first f, then what comes of it -/
theorem tF.bind {α β γ ε : Type} {K : PySem.W.Frag} {T : Tx} {W : WX} {rel : Gst → α → β → Prop} {rel' : Gst → γ → ε → Prop} {f : De → Hh → R α} {k : De → α → Hh → R γ} {σ : L2.St} {H : Hp} {Q : ε → Hp → Prop} {Q' : β → Hp → Prop}
    (h : tF K T W rel' (fun δ h => (f δ h).bind (k δ)) σ H Q)
    (q : ∀ G δ x v h1 H1, Rel K T G h1 H1 → RSl K T G δ σ → rel G x v → okR K T W G σ rel' (k δ x h1) Q → Q' v H1) : tF K T W rel f σ H Q' := by
  obtain ⟨G, h0, δ, r, s, o⟩ := h
  refine ⟨G, h0, δ, r, s, (okR.bind (rel := rel) o).mono ?_⟩
  rintro v H1 ⟨G1, x, h1, e, r1, d, o1⟩
  exact q G1 δ x v h1 H1 r1 (s.mono e) d o1
theorem tF.of {α β : Type} {K : PySem.W.Frag} {T : Tx} {W : WX} {rel : Gst → α → β → Prop} {f : De → Hh → R α} {σ : L2.St} {H : Hp} {Q : β → Hp → Prop} {G : Gst} {h : Hh} {δ : De} (r : Rel K T G h H) (s : RSl K T G δ σ) (o : okR K T W G σ rel (f δ h) Q) : tF K T W rel f σ H Q := ⟨G, h, δ, r, s, o⟩
def okS (K : PySem.W.Frag) (T : Tx) (W : WX) (G : Gst) (r : RS) (D : Ends) : Prop := match r with
  | .nx δ h => ∀ G' H' σ', Ext G G' → Rel K T G' h H' → RSl K T G' δ σ' → D.nx σ' H'
  | .rt d h => ∀ G' H' v, Ext G G' → Rel K T G' h H' → RD K T G' d v → D.rt v H'
  | .bk δ h => ∀ G' H' σ', Ext G G' → Rel K T G' h H' → RSl K T G' δ σ' → D.bk σ' H'
  | .ct δ h => ∀ G' H' σ', Ext G G' → Rel K T G' h H' → RSl K T G' δ σ' → D.ct σ' H'
  | .exc c ds δ h => ∀ G' H' σ' cls dd, Ext G G' → Rel K T G' h H' → RSl K T G' δ σ' → RX K T G' c ds cls dd → W cls dd σ' H'
  | .stk => False
theorem okS.ext {K : PySem.W.Frag} {T : Tx} {W : WX} {G G' : Gst} {r : RS} {D : Ends} (x : Ext G G') (h : okS K T W G r D) : okS K T W G' r D := by
  cases r with
  | nx δ hh => exact fun G2 H2 v e => h G2 H2 v (x.trans e)
  | rt δ hh => exact fun G2 H2 v e => h G2 H2 v (x.trans e)
  | bk δ hh => exact fun G2 H2 v e => h G2 H2 v (x.trans e)
  | ct δ hh => exact fun G2 H2 v e => h G2 H2 v (x.trans e)
  | exc c ds δ hh => exact fun G2 H2 v c d e => h G2 H2 v c d (x.trans e)
  | stk => exact h
def tS (K : PySem.W.Frag) (T : Tx) (W : WX) (u : FnS) : TS := fun D σ H => ∃ G h δ, Rel K T G h H ∧ RSl K T G δ σ ∧ okS K T W G (u δ h) D
def R.toS {α : Type} (r : R α) (δ : De) (k : α → Hh → RS) : RS := match r with
  | .ok x h => k x h
  | .exc c ds h => .exc c ds δ h
  | .stk => .stk
theorem okS.toS {α β : Type} {K : PySem.W.Frag} {T : Tx} {W : WX} {G : Gst} {δ : De} {σ : L2.St} {rel : Gst → α → β → Prop} {r : R α} {k : α → Hh → RS} {D : Ends} (s : RSl K T G δ σ) (h : okS K T W G (r.toS δ k) D) :
    okR K T W G σ rel r fun v H1 => ∃ G1 x h1, Ext G G1 ∧ Rel K T G1 h1 H1 ∧ rel G1 x v ∧ okS K T W G1 (k x h1) D := by
  cases r with
  | ok y hh => exact fun G2 H2 v e a b => ⟨G2, y, hh, e, a, b, okS.ext e h⟩
  | exc c ds hh => exact fun G2 H2 cls dd e a b => h G2 H2 σ cls dd e a (s.mono e) b
  | stk => exact h
theorem tS.bind {α β : Type} {K : PySem.W.Frag} {T : Tx} {W : WX} {rel : Gst → α → β → Prop} {f : De → Hh → R α} {k : De → α → Hh → RS} {σ : L2.St} {H : Hp} {D : Ends} {Q' : β → Hp → Prop}
    (h : tS K T W (fun δ h => (f δ h).toS δ (k δ)) D σ H)
    (q : ∀ G δ x v h1 H1, Rel K T G h1 H1 → RSl K T G δ σ → rel G x v → okS K T W G (k δ x h1) D → Q' v H1) : tF K T W rel f σ H Q' := by
  obtain ⟨G, h0, δ, r, s, o⟩ := h
  refine ⟨G, h0, δ, r, s, (okS.toS (rel := rel) s o).mono ?_⟩
  rintro v H1 ⟨G1, x, h1, e, r1, d, o1⟩
  exact q G1 δ x v h1 H1 r1 (s.mono e) d o1
abbrev FE (X : Cx) (T : Tx) (W : WX) (e : Expr) (f : FnE) : Prop := PE X e (tE X.K T W f)
abbrev FA (X : Cx) (T : Tx) (W : WX) (es : List Expr) (f : FnA) : Prop := PA X es (tA X.K T W f)
abbrev FT (X : Cx) (T : Tx) (W : WX) (e : Expr) (f : FnT) : Prop := PT X e (tT X.K T W f)
abbrev FS (X : Cx) (T : Tx) (W : WX) (st : Stmt) (u : FnS) : Prop := PS X st (tS X.K T W u)
abbrev FSs (X : Cx) (T : Tx) (W : WX) (st : List Stmt) (u : FnS) : Prop := PSs X st (tS X.K T W u)
theorem PE.imp {X : Cx} {e : Expr} {t t' : TE} (h : PE X e t) (q : ∀ σ H Q, t' σ H Q → t σ H Q) : PE X e t' := ⟨fun pins s σ H Q I z => h.run pins s σ H Q I (q _ _ _ z)⟩
theorem PT.imp {X : Cx} {e : Expr} {t t' : TT} (h : PT X e t) (q : ∀ σ H Q, t' σ H Q → t σ H Q) : PT X e t' := ⟨fun pins s σ H Q I z => h.run pins s σ H Q I (q _ _ _ z)⟩
theorem PA.imp {X : Cx} {e : List Expr} {t t' : TA} (h : PA X e t) (q : ∀ σ H Q, t' σ H Q → t σ H Q) : PA X e t' := ⟨fun pos pins s σ H Q I z => h.run pos pins s σ H Q I (q _ _ _ z)⟩
theorem PS.imp {X : Cx} {e : Stmt} {t t' : TS} (h : PS X e t) (q : ∀ D σ H, t' D σ H → t D σ H) : PS X e t' := ⟨fun pins s σ H D I z => h.run pins s σ H D I (q _ _ _ z)⟩
theorem PSs.imp {X : Cx} {e : List Stmt} {t t' : TS} (h : PSs X e t) (q : ∀ D σ H, t' D σ H → t D σ H) : PSs X e t' := ⟨fun pins s σ H D I z => h.run pins s σ H D I (q _ _ _ z)⟩
/-! ### names, constants -/
section
variable {X : Cx} {T : Tx} {W : WX} {pos : Pos}
def eVar (i : Nat) : FnE := fun δ h => match δ[i]? with
  | some (some d) => .ok d h
  | _ => .stk
def eC (d : D) : FnE := fun _ h => .ok d h
theorem fe_var (i : Nat) {x : Str} (h : PE X (.Name x pos) (tVar i)) : FE X T W (.Name x pos) (eVar i) := by
  refine PE.imp h fun σ H Q => ?_
  rintro ⟨G, h0, δ, r, s, o⟩
  unfold eVar at o
  cases e : δ[i]? with
  | none => rw [e] at o; exact o.elim
  | some z =>
    cases z with
    | none => rw [e] at o; exact o.elim
    | some d =>
      rw [e] at o
      obtain ⟨v, h1, h2⟩ := s.at_ i d e
      exact ⟨v, h1, o.at r h2⟩
/-- what stands there without the heap -/
def Cst (K : PySem.W.Frag) (T : Tx) (d : D) (v : V) : Prop := ∀ G, RD K T G d v
theorem fe_const {e : Expr} {d : D} {v : V} (h : PE X e (tC v)) (c : Cst X.K T d v) : FE X T W e (eC d) := by
  refine PE.imp h fun σ H Q => ?_
  rintro ⟨G, h0, δ, r, s, o⟩
  exact okR.at o r (c G)
theorem fe_int {i j} : FE X T W (.Constant (.int i) j pos) (eC (.int i)) := fe_const pe_int fun _ => .int
theorem fe_bl {b j} : FE X T W (.Constant (.bool b) j pos) (eC (.bl b)) := fe_const pe_bl fun _ => .bl
theorem fe_non {j} : FE X T W (.Constant .none j pos) (eC .non) := fe_const pe_non fun _ => .non
theorem fe_str {x : Str} {y : List Nat} {j} (e : x = ⟨y.toArray⟩) : FE X T W (.Constant (.str x) j pos) (eC (.str y)) := by
  subst e
  exact fe_const pe_str fun _ => .str
/-- a module's constant -/
theorem fe_glob {x : Str} {d : D} {v : V} {u : Value} (hg : Gl X x) (hm : X.mg x = some u) (r : RelV v u) (c : Cst X.K T d v) (hd : (x == ("__debug__" : Str)) = false := by decide) : FE X T W (.Name x pos) (eC d) := fe_const (pe_glob hg hm r hd) c
/-! ### two-place operations by values -/
abbrev F2 := D → D → Hh → R D
def eBin (g : F2) (fa fb : FnE) : FnE := fun δ h => (fa δ h).bind fun x h1 => (fb δ h1).bind fun y h2 => g x y h2
/-- the operation's rule rd is served by g -/
def OpS (X : Cx) (T : Tx) (rd : R2) (g : F2) : Prop := ∀ (W : WX) G h H σ x y v w Q, Rel X.K T G h H → RD X.K T G x v → RD X.K T G y w → okR X.K T W G σ (RD X.K T) (g x y h) Q → rd v w H Q
theorem tE_bin {rd : R2} {g : F2} (hs : OpS X T rd g) {fa fb : FnE} {σ : L2.St} {H : Hp} {Q : VK} (h : tE X.K T W (eBin g fa fb) σ H Q) : tOp rd (tE X.K T W fa) (tE X.K T W fb) σ H Q := by
  obtain ⟨G, h0, δ, r, s, o⟩ := h
  refine ⟨G, h0, δ, r, s, (okR.bind (rel := RD X.K T) o).mono ?_⟩
  rintro v H1 ⟨G1, x, h1, e1, r1, d1, o1⟩
  refine ⟨G1, h1, δ, r1, s.mono e1, (okR.bind (rel := RD X.K T) o1).mono ?_⟩
  rintro w H2 ⟨G2, y, h2, e2, r2, d2, o2⟩
  exact hs W G2 h2 H2 σ x y v w Q r2 (d1.mono e2) d2 o2
theorem fe_op {op : Operator} {rd : R2} {g : F2} {a b : Expr} {fa fb : FnE} (ho : OpR X (binaryOp op) rd) (hs : OpS X T rd g) (ha : FE X T W a fa) (hb : FE X T W b fb) : FE X T W (.BinOp a op b pos) (eBin g fa fb) :=
  PE.imp (pe_op ho ha hb) fun _ _ _ h => tE_bin hs h
theorem fe_cmp {op : CmpOp} {rd : R2} {g : F2} {a b : Expr} {fa fb : FnE} (ho : OpR X (compareOp op) rd) (hs : OpS X T rd g) (hm : behindInMarks op b = false) (ha : FE X T W a fa) (hb : FE X T W b fb) : FE X T W (.Compare a [op] [b] pos) (eBin g fa fb) :=
  PE.imp (pe_cmpR ho ha hb hm) fun _ _ _ h => tE_bin hs h
/-- a value as a test: True or False -/
def eTest (f : FnE) : FnT := fun δ h => (f δ h).bind fun x h1 => match x with
  | .bl c => .ok c h1
  | _ => .stk
theorem tE_test {f : FnE} {σ : L2.St} {H : Hp} {Q : Bool → Hp → Prop} (h : tT X.K T W (eTest f) σ H Q) : tE X.K T W f σ H fun x H1 => ∃ c, x = .bl c ∧ Q c H1 := by
  refine tF.bind (k := fun _ x h1 => match x with | .bl c => .ok c h1 | _ => .stk) h fun G δ x v h1 H1 r1 s1 d1 o1 => ?_
  cases d1 with
  | bl => exact ⟨_, rfl, okR.at o1 r1 rfl⟩
  | _ => exact o1.elim
theorem ft_val {e : Expr} {f : FnE} (h : FE X T W e f) (he : ∀ whole, isTrue e X.env whole = (do let v ← whole; standAt e.pos; holding [v] (truthy v)) := by intro _; rfl) : FT X T W e (eTest f) :=
  PT.imp (pt_val h he) fun _ _ _ h => tE_test h
theorem tF.app {α β : Type} {K : PySem.W.Frag} {rel : Gst → α → β → Prop} {f : De → Hh → R α} {σ : L2.St} {H : Hp} {Q Q' : β → Hp → Prop} (h : tF K T W rel f σ H Q) (q : ∀ v H, Q v H → Q' v H) : tF K T W rel f σ H Q' := by
  obtain ⟨G, h0, δ, r, s, o⟩ := h
  exact ⟨G, h0, δ, r, s, o.mono q⟩
theorem ft_cmp {op : CmpOp} {rd : R2} {g : F2} {a b : Expr} {fa fb : FnE} (ho : OpR X (compareOp op) rd) (hs : OpS X T rd g) (hm : behindInMarks op b = false) (ha : FE X T W a fa) (hb : FE X T W b fb) : FT X T W (.Compare a [op] [b] pos) (eTest (eBin g fa fb)) :=
  PT.imp (pt_cmpR ho ha hb hm) fun _ _ _ h => tE_bin hs (tE_test h)
/-- a op b op' c -/
def eChain (g g' : F2) (fa fb fc : FnE) : FnE := fun δ h => (fa δ h).bind fun x h1 => (fb δ h1).bind fun y h2 => (g x y h2).bind fun z h3 => match z with
  | .bl c => if c = true then (fc δ h3).bind fun w h4 => g' y w h4 else .ok (.bl false) h3
  | _ => .stk
theorem tE_chain {rd rd' : R2} {g g' : F2} (hs : OpS X T rd g) (hs' : OpS X T rd' g') {fa fb fc : FnE} {σ : L2.St} {H : Hp} {Q : VK} (h : tE X.K T W (eChain g g' fa fb fc) σ H Q) : tChain rd rd' (tE X.K T W fa) (tE X.K T W fb) (tE X.K T W fc) σ H Q := by
  obtain ⟨G, h0, δ, r, s, o⟩ := h
  refine ⟨G, h0, δ, r, s, (okR.bind (rel := RD X.K T) o).mono ?_⟩
  rintro v H1 ⟨G1, x, h1, e1, r1, d1, o1⟩
  refine ⟨G1, h1, δ, r1, s.mono e1, (okR.bind (rel := RD X.K T) o1).mono ?_⟩
  rintro w H2 ⟨G2, y, h2, e2, r2, d2, o2⟩
  refine hs W G2 h2 H2 σ x y v w _ r2 (d1.mono e2) d2 ((okR.bind (rel := RD X.K T) o2).mono ?_)
  rintro z H3 ⟨G3, z', h3, e3, r3, d3, o3⟩
  cases d3 with
  | @bl c =>
    refine ⟨_, rfl, ?_⟩
    cases c with
    | false => exact okR.at o3 r3 .bl
    | true =>
      refine ⟨G3, h3, δ, r3, s.mono (e1.trans (e2.trans e3)), (okR.bind (rel := RD X.K T) o3).mono ?_⟩
      rintro u H4 ⟨G4, y4, h4, e4, r4, d4, o4⟩
      exact hs' W G4 h4 H4 σ y y4 w u Q r4 (d2.mono (e3.trans e4)) d4 o4
  | _ => exact o3.elim
theorem fe_chain {op op' : CmpOp} {rd rd' : R2} {g g' : F2} {a b c : Expr} {fa fb fc : FnE} (ho : OpR X (compareOp op) rd) (ho' : OpR X (compareOp op') rd') (hs : OpS X T rd g) (hs' : OpS X T rd' g') (hm : lastMarks [op, op'] [b, c] = false) (ha : FE X T W a fa) (hb : FE X T W b fb) (hc : FE X T W c fc) :
    FE X T W (.Compare a [op, op'] [b, c] pos) (eChain g g' fa fb fc) := PE.imp (pe_chain ho ho' ha hb hc hm) fun _ _ _ h => tE_chain hs hs' h
theorem ft_chain {op op' : CmpOp} {rd rd' : R2} {g g' : F2} {a b c : Expr} {fa fb fc : FnE} (ho : OpR X (compareOp op) rd) (ho' : OpR X (compareOp op') rd') (hs : OpS X T rd g) (hs' : OpS X T rd' g') (hm : lastMarks [op, op'] [b, c] = false) (ha : FE X T W a fa) (hb : FE X T W b fb) (hc : FE X T W c fc) :
    FT X T W (.Compare a [op, op'] [b, c] pos) (eTest (eChain g g' fa fb fc)) := PT.imp (pt_chain ho ho' ha hb hc hm) fun _ _ _ h => tE_chain hs hs' (tE_test h)
/-- one place -/
def eUn (g : D → Hh → R D) (fa : FnE) : FnE := fun δ h => (fa δ h).bind g
def UnS (X : Cx) (T : Tx) (rd : V → Hp → VK → Prop) (g : D → Hh → R D) : Prop := ∀ (W : WX) G h H σ x v Q, Rel X.K T G h H → RD X.K T G x v → okR X.K T W G σ (RD X.K T) (g x h) Q → rd v H Q
theorem fe_un {op : UnaryOp} {rd : V → Hp → VK → Prop} {g : D → Hh → R D} {a : Expr} {fa : FnE} (ho : UnR X (unaryOp op) rd) (hs : UnS X T rd g) (ha : FE X T W a fa) : FE X T W (.UnaryOp op a pos) (eUn g fa) := by
  refine PE.imp (pe_un ho ha) fun σ H Q h => ?_
  exact tF.bind (k := fun _ => g) h fun G δ x v h1 H1 r1 s1 d1 o1 => hs W G h1 H1 σ x v Q r1 d1 o1
/-! ### and, or, not, if else -/
def tAnd3 (a b : FnT) : FnT := fun δ h => (a δ h).bind fun c h1 => if c = true then b δ h1 else .ok false h1
def tOr3 (a b : FnT) : FnT := fun δ h => (a δ h).bind fun c h1 => if c = true then .ok true h1 else b δ h1
def tNot3 (a : FnT) : FnT := fun δ h => (a δ h).bind fun c h1 => .ok (!c) h1
abbrev FW (X : Cx) (T : Tx) (W : WX) (e : Expr) (f : FnT) : Prop := PW X e (tT X.K T W f)
theorem PW.imp {e : Expr} {t t' : TT} (h : PW X e t) (q : ∀ σ H Q, t' σ H Q → t σ H Q) : PW X e t' := ⟨fun wh pins s σ H Q I z => h.run wh pins s σ H Q I (q _ _ _ z)⟩
theorem fw_and1 {a : Expr} {fa : FnT} (ha : FT X T W a fa) : FW X T W (.BoolOp .And [a] pos) fa := pw_and1 ha
theorem fw_or1 {a : Expr} {fa : FnT} (ha : FT X T W a fa) : FW X T W (.BoolOp .Or [a] pos) fa := pw_or1 ha
theorem fw_and {a b : Expr} {rest : List Expr} {fa fb : FnT} (ha : FT X T W a fa) (hb : FW X T W (.BoolOp .And (b :: rest) pos) fb) : FW X T W (.BoolOp .And (a :: b :: rest) pos) (tAnd3 fa fb) := by
  refine PW.imp (pw_and ha hb) fun σ H Q h => ?_
  refine tF.bind (k := fun δ c h1 => if c = true then fb δ h1 else .ok false h1) h fun G δ x v h1 H1 r1 s1 d1 o1 => ?_
  have d : x = v := d1
  subst d
  cases x with
  | true => exact tF.of r1 s1 o1
  | false => exact okR.at o1 r1 rfl
theorem fw_or {a b : Expr} {rest : List Expr} {fa fb : FnT} (ha : FT X T W a fa) (hb : FW X T W (.BoolOp .Or (b :: rest) pos) fb) : FW X T W (.BoolOp .Or (a :: b :: rest) pos) (tOr3 fa fb) := by
  refine PW.imp (pw_or ha hb) fun σ H Q h => ?_
  refine tF.bind (k := fun δ c h1 => if c = true then .ok true h1 else fb δ h1) h fun G δ x v h1 H1 r1 s1 d1 o1 => ?_
  have d : x = v := d1
  subst d
  cases x with
  | true => exact okR.at o1 r1 rfl
  | false => exact tF.of r1 s1 o1
theorem ft_bool {e : Expr} {f : FnT} (h : FW X T W e f) : FT X T W e f := PW.pt h
theorem ft_not {a : Expr} {fa : FnT} (ha : FT X T W a fa) : FT X T W (.UnaryOp .Not a pos) (tNot3 fa) := by
  refine PT.imp (pt_not ha) fun σ H Q h => ?_
  refine tF.bind (k := fun δ c h1 => .ok (!c) h1) h fun G δ x v h1 H1 r1 s1 d1 o1 => ?_
  have d : x = v := d1
  subst d
  exact okR.at o1 r1 rfl
/-- as values -/
def eAnd (a b : FnE) : FnE := fun δ h => (a δ h).bind fun x h1 => match x with
  | .bl c => if c = true then b δ h1 else .ok (.bl false) h1
  | _ => .stk
def eOr (a b : FnE) : FnE := fun δ h => (a δ h).bind fun x h1 => match x with
  | .bl c => if c = true then .ok (.bl true) h1 else b δ h1
  | _ => .stk
def eNot (a : FnE) : FnE := fun δ h => (a δ h).bind fun x h1 => match x with
  | .bl c => .ok (.bl (!c)) h1
  | _ => .stk
theorem fe_one {op} {a : Expr} {fa : FnE} (ha : FE X T W a fa) : FE X T W (.BoolOp op [a] pos) fa := pe_one ha
theorem fe_and {a b : Expr} {rest : List Expr} {fa fb : FnE} (ha : FE X T W a fa) (hb : FE X T W (.BoolOp .And (b :: rest) pos) fb) : FE X T W (.BoolOp .And (a :: b :: rest) pos) (eAnd fa fb) := by
  refine PE.imp (pe_and ha hb) fun σ H Q h => ?_
  refine tF.bind (k := fun δ x h1 => match x with | .bl c => if c = true then fb δ h1 else .ok (.bl false) h1 | _ => .stk) h fun G δ x v h1 H1 r1 s1 d1 o1 => ?_
  cases d1 with
  | @bl c =>
    refine ⟨_, rfl, ?_⟩
    cases c with
    | true => exact tF.of r1 s1 o1
    | false => exact okR.at o1 r1 .bl
  | _ => exact o1.elim
theorem fe_or {a b : Expr} {rest : List Expr} {fa fb : FnE} (ha : FE X T W a fa) (hb : FE X T W (.BoolOp .Or (b :: rest) pos) fb) : FE X T W (.BoolOp .Or (a :: b :: rest) pos) (eOr fa fb) := by
  refine PE.imp (pe_or ha hb) fun σ H Q h => ?_
  refine tF.bind (k := fun δ x h1 => match x with | .bl c => if c = true then .ok (.bl true) h1 else fb δ h1 | _ => .stk) h fun G δ x v h1 H1 r1 s1 d1 o1 => ?_
  cases d1 with
  | @bl c =>
    refine ⟨_, rfl, ?_⟩
    cases c with
    | true => exact okR.at o1 r1 .bl
    | false => exact tF.of r1 s1 o1
  | _ => exact o1.elim
theorem fe_not {a : Expr} {fa : FnE} (ha : FE X T W a fa) : FE X T W (.UnaryOp .Not a pos) (eNot fa) := by
  refine PE.imp (pe_not ha) fun σ H Q h => ?_
  refine tF.bind (k := fun δ x h1 => match x with | .bl c => .ok (D.bl (!c)) h1 | _ => .stk) h fun G δ x v h1 H1 r1 s1 d1 o1 => ?_
  cases d1 with
  | bl => exact ⟨_, rfl, okR.at o1 r1 .bl⟩
  | _ => exact o1.elim
def eIf (t : FnT) (a b : FnE) : FnE := fun δ h => (t δ h).bind fun c h1 => if c = true then a δ h1 else b δ h1
theorem fe_if {c a b : Expr} {fc : FnT} {fa fb : FnE} (hc : FT X T W c fc) (ha : FE X T W a fa) (hb : FE X T W b fb) : FE X T W (.IfExp c a b pos) (eIf fc fa fb) := by
  refine PE.imp (pe_ifExp hc ha hb) fun σ H Q h => ?_
  refine tF.bind (k := fun δ c h1 => if c = true then fa δ h1 else fb δ h1) h fun G δ x v h1 H1 r1 s1 d1 o1 => ?_
  have d : x = v := d1
  subst d
  cases x with
  | true => exact tF.of r1 s1 o1
  | false => exact tF.of r1 s1 o1
/-! ### argument lists, displays -/
def aNil : FnA := fun _ h => .ok [] h
def aCons (f : FnE) (r : FnA) : FnA := fun δ h => (f δ h).bind fun x h1 => (r δ h1).bind fun xs h2 => .ok (x :: xs) h2
theorem fa_nil : FA X T W [] aNil := by
  refine PA.imp pa_nil fun σ H Q => ?_
  rintro ⟨G, h0, δ, r, s, o⟩
  exact okR.at o r .nil
theorem fa_cons {e : Expr} {es : List Expr} {f : FnE} {fr : FnA} (ha : FE X T W e f) (hr : FA X T W es fr) (hs : starEach (e :: es) X.env = (false, eval e X.env) :: starEach es X.env := by rfl) : FA X T W (e :: es) (aCons f fr) := by
  refine PA.imp (pa_cons ha hr hs) fun σ H Q => ?_
  rintro ⟨G, h0, δ, r, s, o⟩
  refine ⟨G, h0, δ, r, s, (okR.bind (rel := RD X.K T) o).mono ?_⟩
  rintro v H1 ⟨G1, x, h1, e1, r1, d1, o1⟩
  refine ⟨G1, h1, δ, r1, s.mono e1, (okR.bind (rel := RDs X.K T) o1).mono ?_⟩
  rintro w H2 ⟨G2, y, h2, e2, r2, d2, o2⟩
  exact okR.at o2 r2 (.cons (d1.mono e2) d2)
def lineOk (n : Nat) : Bool := decide (n ≤ 16777216)
theorem lineOk_le {n : Nat} (h : lineOk n = true) : n ≤ sizeLine := by rw [sizeLine_eq]; exact of_decide_eq_true h
def eTup (f : FnA) : FnE := fun δ h => (f δ h).bind fun xs h1 => if lineOk xs.length = true then .ok (.tup xs) h1 else .stk
def eLst (f : FnA) : FnE := fun δ h => (f δ h).bind fun xs h1 => if lineOk xs.length = true then .ok (.lst xs) h1 else .stk
/-- a list that will be changed -/
def eLstM (f : FnA) : FnE := fun δ h => (f δ h).bind fun xs h1 => if lineOk xs.length = true then .ok (.ref h1.length) (h1 ++ [.lst xs]) else .stk
theorem newTup {K : PySem.W.Frag} {W : WX} {G : Gst} {h : Hh} {H : Hp} {σ : L2.St} {ds : List D} {vs : List V} {Q : VK} {p : Addr} (r : Rel K T G h H) (d : RDs K T G ds vs) (hp : H p = none) (o : okR K T W G σ (RD K T) (.ok (.tup ds) h) Q) : Q (.ref p) (upd H p (.tup vs)) := by
  obtain ⟨x, r'⟩ := r.newF (o := .tup vs) hp
  exact o _ _ _ x r' (.tup (.inl (.inl upd_same)) (d.mono x) fun _ => upd_same)
theorem newLst {K : PySem.W.Frag} {W : WX} {G : Gst} {h : Hh} {H : Hp} {σ : L2.St} {ds : List D} {vs : List V} {Q : VK} {p : Addr} (r : Rel K T G h H) (d : RDs K T G ds vs) (hp : H p = none) (o : okR K T W G σ (RD K T) (.ok (.lst ds) h) Q) : Q (.ref p) (upd H p (.lst vs)) := by
  obtain ⟨x, r'⟩ := r.newF (o := .lst vs) hp
  exact o _ _ _ x r' (.lst upd_same (d.mono x))
theorem newLstM {K : PySem.W.Frag} {W : WX} {G : Gst} {h : Hh} {H : Hp} {σ : L2.St} {ds : List D} {vs : List V} {Q : VK} {p : Addr} (r : Rel K T G h H) (d : RDs K T G ds vs) (hp : H p = none) (o : okR K T W G σ (RD K T) (.ok (.ref h.length) (h ++ [.lst ds])) Q) : Q (.ref p) (upd H p (.lst vs)) := by
  obtain ⟨x, r'⟩ := r.newO (o := .lst vs) (u := .lst ds) hp fun G' x hi ho _ => ⟨p, vs, hi, ho, upd_same, d.mono x⟩
  refine o _ _ _ x r' (.ref ?_)
  show (G.ι ++ [p])[h.length]? = some p
  rw [← r.len]; simp
theorem fe_tup {es : List Expr} {f : FnA} {x1} (h : FA X T W es f) : FE X T W (.Tuple es x1 pos) (eTup f) := by
  refine PE.imp (pe_tup h) fun σ H Q h => ?_
  refine tF.bind (k := fun _ xs h1 => if lineOk xs.length = true then .ok (D.tup xs) h1 else .stk) h fun G δ x v h1 H1 r1 s1 d1 o1 => ?_
  by_cases hl : lineOk x.length = true
  · rw [if_pos hl] at o1
    exact ⟨by rw [← d1.length]; exact lineOk_le hl, fun p hp => newTup r1 d1 hp o1⟩
  · rw [if_neg hl] at o1; exact o1.elim
theorem fe_lst {es : List Expr} {f : FnA} (h : FA X T W es f) : FE X T W (.List es pos) (eLst f) := by
  refine PE.imp (pe_lst h) fun σ H Q h => ?_
  refine tF.bind (k := fun _ xs h1 => if lineOk xs.length = true then .ok (D.lst xs) h1 else .stk) h fun G δ x v h1 H1 r1 s1 d1 o1 => ?_
  by_cases hl : lineOk x.length = true
  · rw [if_pos hl] at o1
    exact ⟨by rw [← d1.length]; exact lineOk_le hl, fun p hp => newLst r1 d1 hp o1⟩
  · rw [if_neg hl] at o1; exact o1.elim
theorem fe_lstM {es : List Expr} {f : FnA} (h : FA X T W es f) : FE X T W (.List es pos) (eLstM f) := by
  refine PE.imp (pe_lst h) fun σ H Q h => ?_
  refine tF.bind (k := fun _ xs h1 => if lineOk xs.length = true then .ok (D.ref h1.length) (h1 ++ [O.lst xs]) else .stk) h fun G δ x v h1 H1 r1 s1 d1 o1 => ?_
  by_cases hl : lineOk x.length = true
  · rw [if_pos hl] at o1
    exact ⟨by rw [← d1.length]; exact lineOk_le hl, fun p hp => newLstM r1 d1 hp o1⟩
  · rw [if_neg hl] at o1; exact o1.elim
/-! ### statements -/
def sSeq (u v : FnS) : FnS := fun δ h => match u δ h with
  | .nx δ' h' => v δ' h'
  | r => r
def sNil : FnS := fun δ h => .nx δ h
theorem fss_nil : FSs X T W [] sNil := by
  refine PSs.imp pss_nil fun D σ H => ?_
  rintro ⟨G, h0, δ, r, s, o⟩
  exact o G H σ (Ext.refl G) r s
theorem tS_seq {u v : FnS} {D : Ends} {σ : L2.St} {H : Hp} {K : PySem.W.Frag} (h : tS K T W (sSeq u v) D σ H) : tSeq (tS K T W u) (tS K T W v) D σ H := by
  obtain ⟨G, h0, δ, r, s, o⟩ := h
  refine ⟨G, h0, δ, r, s, ?_⟩
  unfold sSeq at o
  cases e : u δ h0 with
  | nx δ' h' => rw [e] at o; exact fun G' H' σ' x r' s' => ⟨G', h', δ', r', s', okS.ext x o⟩
  | rt d h' => rw [e] at o; exact o
  | bk δ' h' => rw [e] at o; exact o
  | ct δ' h' => rw [e] at o; exact o
  | exc c ds δ' h' => rw [e] at o; exact o
  | stk => rw [e] at o; exact o
theorem fss_cons {st : Stmt} {rest : List Stmt} {u v : FnS} (h1 : FS X T W st u) (h2 : FSs X T W rest v) : FSs X T W (st :: rest) (sSeq u v) := PSs.imp (pss_cons h1 h2) fun _ _ _ h => tS_seq h
theorem fss_one {st : Stmt} {u : FnS} (h1 : FS X T W st u) : FSs X T W [st] u := pss_one h1
def sPass : FnS := fun δ h => .nx δ h
def sBreak : FnS := fun δ h => .bk δ h
def sCont : FnS := fun δ h => .ct δ h
theorem fs_pass : FS X T W (.Pass pos) sPass := by
  refine PS.imp ps_pass fun D σ H => ?_
  rintro ⟨G, h0, δ, r, s, o⟩
  exact o G H σ (Ext.refl G) r s
theorem fs_break : FS X T W (.Break pos) sBreak := by
  refine PS.imp ps_break fun D σ H => ?_
  rintro ⟨G, h0, δ, r, s, o⟩
  exact o G H σ (Ext.refl G) r s
theorem fs_continue : FS X T W (.Continue pos) sCont := by
  refine PS.imp ps_continue fun D σ H => ?_
  rintro ⟨G, h0, δ, r, s, o⟩
  exact o G H σ (Ext.refl G) r s
def sIf (t : FnT) (u v : FnS) : FnS := fun δ h => (t δ h).toS δ fun c h1 => if c = true then u δ h1 else v δ h1
theorem fs_if {c : Expr} {a b : List Stmt} {fc : FnT} {u v : FnS} (hc : FT X T W c fc) (ha : FSs X T W a u) (hb : FSs X T W b v) : FS X T W (.If c a b pos) (sIf fc u v) := by
  refine PS.imp (ps_if hc ha hb) fun D σ H h => ?_
  refine tS.bind (k := fun δ c h1 => if c = true then u δ h1 else v δ h1) h fun G δ x w h1 H1 r1 s1 d1 o1 => ?_
  have d : x = w := d1
  subst d
  cases x with
  | true => exact ⟨G, h1, δ, r1, s1, o1⟩
  | false => exact ⟨G, h1, δ, r1, s1, o1⟩
def sRet (f : FnE) : FnS := fun δ h => (f δ h).toS δ fun x h1 => .rt x h1
theorem fs_ret {e : Expr} {f : FnE} (h : FE X T W e f) : FS X T W (.Return (some e) pos) (sRet f) := by
  refine PS.imp (ps_ret h) fun D σ H h => ?_
  exact tS.bind (k := fun _ x h1 => .rt x h1) h fun G δ x w h1 H1 r1 s1 d1 o1 => o1 G H1 w (Ext.refl G) r1 d1
def sRetN : FnS := fun _ h => .rt .non h
theorem fs_retN : FS X T W (.Return none pos) sRetN := by
  refine PS.imp ps_retN fun D σ H => ?_
  rintro ⟨G, h0, δ, r, s, o⟩
  exact o G H .non (Ext.refl G) r .non
def sExpr (f : FnE) : FnS := fun δ h => (f δ h).toS δ fun _ h1 => .nx δ h1
theorem fs_expr {e : Expr} {f : FnE} (h : FE X T W e f) (hs : swapsWith e none pos.line X.env = pure false := by rfl) : FS X T W (.Expr e pos) (sExpr f) := by
  refine PS.imp (ps_expr h hs) fun D σ H h => ?_
  exact tS.bind (k := fun δ _ h1 => .nx δ h1) h fun G δ x w h1 H1 r1 s1 d1 o1 => o1 G H1 σ (Ext.refl G) r1 s1
/-- name = e -/
def sSet (i : Nat) (f : FnE) : FnS := fun δ h => (f δ h).toS δ fun x h1 => .nx (δ.set i (some x)) h1
theorem fs_set {i : Nat} {x : Str} {e : Expr} {f : FnE} {pos' : Pos} (hN : X.N.Nodup) (hi : X.N[i]? = some x) (hx : Loc X.env.scope x) (he : FE X T W e f) (hs : swapsWith e (some (.Name x pos')) pos.line X.env = pure false := by rfl) (hf : X.fn x = true ∨ X.env.scope.names.lookup x = some .local := by first | exact .inl rfl | exact .inr rfl | assumption) :
    FS X T W (.Assign [.Name x pos'] e pos) (sSet i f) := by
  refine PS.imp (ps_set hN hi hx he hs hf) fun D σ H h => ?_
  exact tS.bind (k := fun δ x h1 => .nx (δ.set i (some x)) h1) h fun G δ x w h1 H1 r1 s1 d1 o1 => o1 G H1 _ (Ext.refl G) r1 (s1.set d1 i)
end
end L3
set_option autoImplicit false
set_option maxHeartbeats 4000000
/-! L3C: operations by values. -/
namespace L3
open PySem PySem.Spec L2
section
variable {X : Cx} {T : Tx}
/-! ### + - * // % ** -/
def asL (h : Hh) : D → Option (List D)
  | .lst ds => some ds
  | .ref n => match h[n]? with
    | some (.lst ds) => some ds
    | _ => none
  | _ => none
theorem asL_ok {K : PySem.W.Frag} {G : Gst} {h : Hh} {H : Hp} {d : D} {v : V} {ds : List D} (r : Rel K T G h H) (d1 : RD K T G d v) (e : asL h d = some ds) : ∃ a vs, v = .ref a ∧ H a = some (.lst vs) ∧ RDs K T G ds vs := by
  cases d1 with
  | lst h1 h2 => cases e; exact ⟨_, _, rfl, r.sub _ _ h1, h2⟩
  | @ref n a h1 =>
    unfold asL at e
    dsimp only at e
    cases q : h[n]? with
    | none => rw [q] at e; cases e
    | some o =>
      rw [q] at e
      cases o with
      | lst es =>
        cases e
        obtain ⟨a', vs, e1, e2, e3, e4⟩ := r.obj n _ q
        rw [h1] at e1; cases e1
        exact ⟨a, vs, rfl, e3, e4⟩
      | _ => cases e
  | _ => cases e
def addD : F2 := fun x y h => match x, y with
  | .int i, .int j => .ok (.int (i + j)) h
  | .tup xs, .tup ys => if lineOk (xs.length + ys.length) = true then .ok (.tup (xs ++ ys)) h else .stk
  | .str a, .str b => if lineOk (a.length + b.length) = true then .ok (.str (a ++ b)) h else .stk
  | x, y => match asL h x, asL h y with
    | some xs, some ys => if lineOk (xs.length + ys.length) = true then .ok (.lst (xs ++ ys)) h else .stk
    | _, _ => .stk
def rdAdd (K : PySem.W.Frag) : R2 := fun x y H Q => (rI0 fun i j => .int (i + j)) x y H Q ∨ rCatA K x y H Q ∨ (fun x y H Q => ∃ i j, x = .str i ∧ y = .str j ∧ i.length + j.length ≤ sizeLine ∧ Q (.str (i ++ j)) H : R2) x y H Q ∨ rCat x y H Q
theorem op_addA : OpR X (binaryOp .Add) (rdAdd X.K) := OpR.or op_add (OpR.or op_catA (OpR.or op_add_str op_cat))
theorem os_add : OpS X T (rdAdd X.K) addD := by
  intro W G h H σ x y v w Q r d1 d2 o
  have lists : (match asL h x, asL h y with
    | some xs, some ys => if lineOk (xs.length + ys.length) = true then R.ok (.lst (xs ++ ys)) h else .stk
    | _, _ => .stk) = addD x y h → rdAdd X.K v w H Q := fun e => by
    rw [← e] at o
    cases ex : asL h x with
    | none => rw [ex] at o; exact o.elim
    | some xs =>
      cases ey : asL h y with
      | none => rw [ex, ey] at o; exact o.elim
      | some ys =>
        rw [ex, ey] at o
        dsimp only at o
        by_cases hl : lineOk (xs.length + ys.length) = true
        · rw [if_pos hl] at o
          obtain ⟨a, vs, rfl, h1, q1⟩ := asL_ok r d1 ex
          obtain ⟨b, ws, rfl, h2, q2⟩ := asL_ok r d2 ey
          exact .inr (.inr (.inr ⟨a, b, vs, ws, rfl, rfl, h1, h2, by rw [← q1.length, ← q2.length]; exact lineOk_le hl, fun p hp => newLst r (q1.append q2) hp o⟩))
        · rw [if_neg hl] at o; exact o.elim
  cases d1 with
  | int =>
    cases d2 with
    | int => exact .inl ⟨_, _, rfl, rfl, o.at r .int⟩
    | _ => first | exact lists rfl | exact o.elim
  | @str a =>
    cases d2 with
    | @str b =>
      unfold addD at o
      dsimp only at o
      by_cases hl : lineOk (a.length + b.length) = true
      · rw [if_pos hl] at o
        refine .inr (.inr (.inl ⟨_, _, rfl, rfl, ?_, ?_⟩))
        · show a.toArray.size + b.toArray.size ≤ sizeLine
          simpa using lineOk_le hl
        · have e : (⟨a.toArray⟩ : Str) ++ (⟨b.toArray⟩ : Str) = ⟨(a ++ b).toArray⟩ := by
            show (⟨a.toArray ++ b.toArray⟩ : Str) = _
            simp
          rw [e]
          exact o.at r .str
      · rw [if_neg hl] at o; exact o.elim
    | _ => first | exact lists rfl | exact o.elim
  | @tup xs a vs h1 q1 n1 =>
    cases d2 with
    | @tup ys b ws h2 q2 n2 =>
      unfold addD at o
      dsimp only at o
      by_cases hl : lineOk (xs.length + ys.length) = true
      · rw [if_pos hl] at o
        refine .inr (.inl ⟨a, b, vs, ws, rfl, rfl, SqT.sub r.sub h1, SqT.sub r.sub h2, by rw [← q1.length, ← q2.length]; exact lineOk_le hl, fun e => ?_, fun _ e => ?_, fun _ _ p hp => newTup r (q1.append q2) hp o⟩)
        · subst e; cases q1; exact o.at r (.tup h2 q2 n2)
        · subst e; cases q2; rw [List.append_nil] at o; exact o.at r (.tup h1 q1 n1)
      · rw [if_neg hl] at o; exact o.elim
    | _ => first | exact lists rfl | exact o.elim
  | _ => first | exact lists rfl | (cases d2 <;> first | exact lists rfl | exact o.elim)
def subD : F2 := fun x y h => match x, y with
  | .int i, .int j => .ok (.int (i - j)) h
  | _, _ => .stk
theorem os_sub : OpS X T (rI0 fun i j => .int (i - j)) subD := by
  intro W G h H σ x y v w Q r d1 d2 o
  cases d1 with
  | int => cases d2 with
    | int => exact ⟨_, _, rfl, rfl, o.at r .int⟩
    | _ => exact o.elim
  | _ => exact o.elim
/-- one factor within 2^64, or both within 2^100000 -/
def mulOk (i j : Int) : Bool := (decide (-(2 ^ 64) < i) && decide (i < 2 ^ 64) || (decide (-(2 ^ 64) < j) && decide (j < 2 ^ 64))) || decide (i.natAbs.log2 + j.natAbs.log2 < 1000000)
theorem mulOk_C {i j : Int} (h : mulOk i j = true) : CMul i j ∨ CMulW i j := by
  unfold mulOk at h
  simp only [Bool.or_eq_true, Bool.and_eq_true, decide_eq_true_eq] at h
  exact h
def mulD : F2 := fun x y h => match x, y with
  | .int i, .int j => if mulOk i j = true then .ok (.int (i * j)) h else .stk
  | .tup xs, .int k => if xs.isEmpty = false ∧ 2 ≤ k ∧ k ≤ 1000 ∧ xs.length ≤ 1000 then .ok (.tup (List.replicate k.toNat xs).flatten) h else .stk
  | x, .int k => match asL h x with
    | some xs => if 0 ≤ k ∧ k ≤ 1000 ∧ xs.length ≤ 1000 then .ok (.lst (List.replicate k.toNat xs).flatten) h else .stk
    | none => .stk
  | _, _ => .stk
def rdMul (K : PySem.W.Frag) : R2 := fun x y H Q => rI CMul (fun i j => .int (i * j)) x y H Q ∨ rI CMulW (fun i j => .int (i * j)) x y H Q ∨ rRepT K x y H Q ∨ rRep x y H Q
theorem op_mulA : OpR X (binaryOp .Mult) (rdMul X.K) := OpR.or op_mul (OpR.or op_mulW (OpR.or op_repT op_rep))
theorem os_mul : OpS X T (rdMul X.K) mulD := by
  intro W G h H σ x y v w Q r d1 d2 o
  cases d2 with
  | @int k =>
    have lists : (match asL h x with
      | some xs => if 0 ≤ k ∧ k ≤ 1000 ∧ xs.length ≤ 1000 then R.ok (.lst (List.replicate k.toNat xs).flatten) h else .stk
      | none => .stk) = mulD x (.int k) h → rdMul X.K v (.int k) H Q := fun e => by
      rw [← e] at o
      cases ex : asL h x with
      | none => rw [ex] at o; exact o.elim
      | some xs =>
        rw [ex] at o
        dsimp only at o
        by_cases hl : 0 ≤ k ∧ k ≤ 1000 ∧ xs.length ≤ 1000
        · rw [if_pos hl] at o
          obtain ⟨a, vs, rfl, h1, q1⟩ := asL_ok r d1 ex
          refine .inr (.inr (.inr ⟨a, k, vs, rfl, rfl, h1, by omega, by omega, ?_, fun p hp => newLst r (q1.rep k.toNat) hp o⟩))
          have z := Nat.mul_le_mul (show vs.length ≤ 1000 by rw [← q1.length]; exact hl.2.2) (show k.toNat ≤ 1000 by omega)
          rw [sizeLine_eq]; omega
        · rw [if_neg hl] at o; exact o.elim
    cases d1 with
    | @int i =>
      unfold mulD at o
      dsimp only at o
      by_cases hl : mulOk i k = true
      · rw [if_pos hl] at o
        rcases mulOk_C hl with c | c
        · exact .inl ⟨_, _, rfl, rfl, c, o.at r .int⟩
        · exact .inr (.inl ⟨_, _, rfl, rfl, c, o.at r .int⟩)
      · rw [if_neg hl] at o; exact o.elim
    | @tup xs a vs h1 q1 =>
      unfold mulD at o
      dsimp only at o
      by_cases hl : xs.isEmpty = false ∧ 2 ≤ k ∧ k ≤ 1000 ∧ xs.length ≤ 1000
      · rw [if_pos hl] at o
        refine .inr (.inr (.inl ⟨a, k, vs, rfl, rfl, SqT.sub r.sub h1, fun e => ?_, hl.2.1, hl.2.2.1, by rw [← q1.length]; exact hl.2.2.2, fun p hp => newTup r (q1.rep k.toNat) hp o⟩))
        subst e; cases q1; exact Bool.noConfusion hl.1
      · rw [if_neg hl] at o; exact o.elim
    | _ => first | exact lists rfl | exact o.elim
  | _ => cases d1 <;> exact o.elim
/-- by a positive divisor below 2^64 -/
def divD : F2 := fun x y h => match x, y with
  | .int i, .int j => if 0 < j ∧ j.natAbs.log2 < 9000 then .ok (.int (i / j)) h else .stk
  | _, _ => .stk
theorem os_div : OpS X T (rI CDivW fun i j => .int (i / j)) divD := by
  intro W G h H σ x y v w Q r d1 d2 o
  cases d1 with
  | @int i => cases d2 with
    | @int j =>
      unfold divD at o
      dsimp only at o
      by_cases hl : 0 < j ∧ j.natAbs.log2 < 9000
      · rw [if_pos hl] at o; exact ⟨_, _, rfl, rfl, ⟨hl.1, hl.2⟩, o.at r .int⟩
      · rw [if_neg hl] at o; exact o.elim
    | _ => exact o.elim
  | _ => exact o.elim
/-- by a positive divisor -/
def modD : F2 := fun x y h => match x, y with
  | .int i, .int j => if 0 < j then .ok (.int (i % j)) h else .stk
  | _, _ => .stk
theorem os_mod : OpS X T (rI (fun _ j => 0 < j) fun i j => .int (i % j)) modD := by
  intro W G h H σ x y v w Q r d1 d2 o
  cases d1 with
  | @int i => cases d2 with
    | @int j =>
      unfold modD at o
      dsimp only at o
      by_cases hl : 0 < j
      · rw [if_pos hl] at o; exact ⟨_, _, rfl, rfl, hl, o.at r .int⟩
      · rw [if_neg hl] at o; exact o.elim
    | _ => exact o.elim
  | _ => exact o.elim
def powD : F2 := fun x y h => match x, y with
  | .int i, .int j => if 0 ≤ j ∧ j ≤ 1000000 ∧ i.natAbs < 2 ^ 64 then .ok (.int (i ^ j.toNat)) h else .stk
  | _, _ => .stk
theorem os_pow : OpS X T (rI CPow fun i j => .int (i ^ j.toNat)) powD := by
  intro W G h H σ x y v w Q r d1 d2 o
  cases d1 with
  | @int i => cases d2 with
    | @int j =>
      unfold powD at o
      dsimp only at o
      by_cases hl : 0 ≤ j ∧ j ≤ 1000000 ∧ i.natAbs < 2 ^ 64
      · rw [if_pos hl] at o; exact ⟨_, _, rfl, rfl, hl, o.at r .int⟩
      · rw [if_neg hl] at o; exact o.elim
    | _ => exact o.elim
  | _ => exact o.elim
def xorD : F2 := fun x y h => match x, y with
  | .int i, .int j => .ok (.int (Builtin.bitXor i j)) h
  | _, _ => .stk
theorem os_xor : OpS X T (rI0 fun i j => .int (Builtin.bitXor i j)) xorD := by
  intro W G h H σ x y v w Q r d1 d2 o
  cases d1 with
  | int => cases d2 with
    | int => exact ⟨_, _, rfl, rfl, o.at r .int⟩
    | _ => exact o.elim
  | _ => exact o.elim
def negD : D → Hh → R D := fun x h => match x with
  | .int i => .ok (.int (-i)) h
  | _ => .stk
theorem us_neg : UnS X T (rU fun i => .int (-i)) negD := by
  intro W G h H σ x v Q r d o
  cases d with
  | int => exact ⟨_, rfl, o.at r .int⟩
  | _ => exact o.elim
/-! ### comparisons -/
def cmpD (p : Int → Int → Bool) : F2 := fun x y h => match x, y with
  | .int i, .int j => .ok (.bl (p i j)) h
  | _, _ => .stk
theorem os_cmp {p : Int → Int → Bool} : OpS X T (rI0 fun i j => .bl (p i j)) (cmpD p) := by
  intro W G h H σ x y v w Q r d1 d2 o
  cases d1 with
  | int => cases d2 with
    | int => exact ⟨_, _, rfl, rfl, o.at r .bl⟩
    | _ => exact o.elim
  | _ => exact o.elim
abbrev ltD : F2 := cmpD fun i j => decide (i < j)
abbrev leD : F2 := cmpD fun i j => decide (i ≤ j)
abbrev gtD : F2 := cmpD fun i j => decide (j < i)
abbrev geD : F2 := cmpD fun i j => decide (j ≤ i)
/-! data -/
mutual
def pd : D → PyData
  | .bl b => .bool b
  | .int i => .int i
  | .str x => .str ⟨x.toArray⟩
  | .tup ds => .tuple (pds ds)
  | .lst ds => .list (pds ds)
  | _ => .none
def pds : List D → List PyData
  | [] => []
  | d :: ds => pd d :: pds ds
end
mutual
/-- plain data of a depth of at most k -/
def flat : Nat → D → Bool
  | _, .non => true
  | _, .bl _ => true
  | _, .int _ => true
  | _, .str _ => true
  | k + 1, .tup ds => flats k ds
  | k + 1, .lst ds => flats k ds
  | _, _ => false
def flats : Nat → List D → Bool
  | _, [] => true
  | k, d :: ds => flat k d && flats k ds
end
mutual
theorem flat_pd : ∀ (d : D) (k : Nat), flat k d = true → (pd d).plain = true ∧ (pd d).depth ≤ k
  | .non, _, _ => ⟨rfl, Nat.zero_le _⟩
  | .bl _, _, _ => ⟨rfl, Nat.zero_le _⟩
  | .int _, _, _ => ⟨rfl, Nat.zero_le _⟩
  | .str _, _, _ => ⟨rfl, Nat.zero_le _⟩
  | .tup ds, 0, h => nomatch (show false = true by simpa [flat] using h)
  | .tup ds, k + 1, h => by
    obtain ⟨a, b⟩ := flats_pd ds k (by simpa [flat] using h)
    simp only [pd, PyData.plain, PyData.depth]
    exact ⟨a, by omega⟩
  | .lst ds, 0, h => nomatch (show false = true by simpa [flat] using h)
  | .lst ds, k + 1, h => by
    obtain ⟨a, b⟩ := flats_pd ds k (by simpa [flat] using h)
    simp only [pd, PyData.plain, PyData.depth]
    exact ⟨a, by omega⟩
  | .dic _ _, k, h => by cases k <;> exact nomatch (show false = true by simpa [flat] using h)
  | .obj _ _, k, h => by cases k <;> exact nomatch (show false = true by simpa [flat] using h)
  | .ref _, k, h => by cases k <;> exact nomatch (show false = true by simpa [flat] using h)
  | .scr _, k, h => by cases k <;> exact nomatch (show false = true by simpa [flat] using h)
theorem flats_pd : ∀ (ds : List D) (k : Nat), flats k ds = true → PyData.plainAll (pds ds) = true ∧ PyData.depthAll (pds ds) ≤ k
  | [], _, _ => ⟨by simp [pds, PyData.plainAll], by simp [pds, PyData.depthAll]⟩
  | d :: ds, k, h => by
    have h' : flat k d = true ∧ flats k ds = true := by simpa [flats] using h
    obtain ⟨a, b⟩ := flat_pd d k h'.1
    obtain ⟨a', b'⟩ := flats_pd ds k h'.2
    simp only [pds, PyData.plainAll, PyData.depthAll]
    exact ⟨by rw [a, a']; rfl, by omega⟩
end
mutual
theorem RD.dp {K : PySem.W.Frag} {G : Gst} {H : Hp} (s : ∀ a o, G.fz a = some o → H a = some o) : ∀ (d : D) (k : Nat) (v : V), flat k d = true → RD K T G d v → Dp K H v (pd d)
  | .non, _, _, _, r => by cases r; simp only [pd]; exact .non
  | .bl _, _, _, _, r => by cases r; simp only [pd]; exact .bl _
  | .int _, _, _, _, r => by cases r; simp only [pd]; exact .int _
  | .str _, _, _, _, r => by cases r; simp only [pd]; exact .str _
  | .tup ds, 0, _, h, _ => nomatch (show false = true by simpa [flat] using h)
  | .tup ds, k + 1, _, h, r => by
    cases r with
    | tup h1 q => simp only [pd]; exact .tup (SqT.sub s h1) (RDs.dp s ds k _ (by simpa [flat] using h) q)
  | .lst ds, 0, _, h, _ => nomatch (show false = true by simpa [flat] using h)
  | .lst ds, k + 1, _, h, r => by
    cases r with
    | lst h1 q => simp only [pd]; exact .lst (.inl (.inl (s _ _ h1))) (RDs.dp s ds k _ (by simpa [flat] using h) q)
  | .dic _ _, k, _, h, _ => by cases k <;> exact nomatch (show false = true by simpa [flat] using h)
  | .obj _ _, k, _, h, _ => by cases k <;> exact nomatch (show false = true by simpa [flat] using h)
  | .ref _, k, _, h, _ => by cases k <;> exact nomatch (show false = true by simpa [flat] using h)
  | .scr _, k, _, h, _ => by cases k <;> exact nomatch (show false = true by simpa [flat] using h)
theorem RDs.dp {K : PySem.W.Frag} {G : Gst} {H : Hp} (s : ∀ a o, G.fz a = some o → H a = some o) : ∀ (ds : List D) (k : Nat) (vs : List V), flats k ds = true → RDs K T G ds vs → DpAll K H vs (pds ds)
  | [], _, _, _, r => by cases r; simp only [pds]; exact .nil
  | d :: ds, k, _, h, r => by
    have h' : flat k d = true ∧ flats k ds = true := by simpa [flats] using h
    cases r with
    | cons h1 h2 => simp only [pds]; exact .cons (RD.dp s d k _ h'.1 h1) (RDs.dp s ds k _ h'.2 h2)
end
/-- a changing list as it stands -/
def deref (h : Hh) (d : D) : D := match d with
  | .ref n => match h[n]? with
    | some (.lst ds) => .lst ds
    | _ => .ref n
  | d => d
theorem deref_dp {K : PySem.W.Frag} {G : Gst} {h : Hh} {H : Hp} {d : D} {v : V} {k : Nat} (r : Rel K T G h H) (d1 : RD K T G d v) (f : flat k (deref h d) = true) : Dp K H v (pd (deref h d)) := by
  cases d with
  | ref n =>
    unfold deref at f ⊢
    dsimp only at f ⊢
    cases q : h[n]? with
    | none =>
      rw [q] at f
      cases k <;> exact nomatch (show false = true by simpa [flat] using f)
    | some o =>
      rw [q] at f
      cases o with
      | lst es =>
        dsimp only at f ⊢
        cases d1 with
        | ref h1 =>
          obtain ⟨a', vs, e1, e2, e3, e4⟩ := r.obj n _ q
          rw [h1] at e1; cases e1
          cases k with
          | zero => exact nomatch (show false = true by simpa [flat] using f)
          | succ k => simp only [pd]; exact .lst (.inl (.inl e3)) (RDs.dp r.sub es k _ (by simpa [flat] using f) e4)
      | _ => cases k <;> exact nomatch (show false = true by simpa [flat] using f)
  | _ => exact RD.dp r.sub _ k _ f d1
/-- == of plain data -/
def eqv (x y : D) : Bool := PyData.eqv (pd x) (pd y)
def eqD : F2 := fun x y h => if flat 60 (deref h x) = true ∧ flat 60 (deref h y) = true then .ok (.bl (eqv (deref h x) (deref h y))) h else .stk
def neD : F2 := fun x y h => if flat 60 (deref h x) = true ∧ flat 60 (deref h y) = true then .ok (.bl (!eqv (deref h x) (deref h y))) h else .stk
def rEqP (K : PySem.W.Frag) : R2 := fun x y H Q => ∃ d e, Dp K H x d ∧ Dp K H y e ∧ d.plain = true ∧ e.plain = true ∧ d.depth ≤ 60 ∧ e.depth ≤ 60 ∧ Q (.bl (PyData.eqv d e)) H
def rNeP (K : PySem.W.Frag) : R2 := fun x y H Q => ∃ d e, Dp K H x d ∧ Dp K H y e ∧ d.plain = true ∧ e.plain = true ∧ d.depth ≤ 60 ∧ e.depth ≤ 60 ∧ Q (.bl (!PyData.eqv d e)) H
theorem op_eqP (hu : X.A.units + 64 < cLine) : OpR X (compareOp .Eq) (rEqP X.K) := by
  intro pins s σ H x y v u Q I rx ry h
  obtain ⟨d, e, hd, he, pd, pe, nd, ne, q⟩ := h
  obtain ⟨as, r1⟩ := Dp.reads I d x v hd rx
  obtain ⟨bs, r2⟩ := Dp.reads I e y u he ry
  exact SeqAt.eq_plain r1 r2 pd pe (by omega) ⟨.bl _, H, I, rfl, q⟩
theorem op_neP (hu : X.A.units + 64 < cLine) : OpR X (compareOp .NotEq) (rNeP X.K) := by
  intro pins s σ H x y v u Q I rx ry h
  obtain ⟨d, e, hd, he, pd, pe, nd, ne, q⟩ := h
  obtain ⟨as, r1⟩ := Dp.reads I d x v hd rx
  obtain ⟨bs, r2⟩ := Dp.reads I e y u he ry
  exact SeqAt.ne_plain r1 r2 pd pe (by omega) ⟨.bl _, H, I, rfl, q⟩
theorem os_eq : OpS X T (rEqP X.K) eqD := by
  intro W G h H σ x y v w Q r d1 d2 o
  unfold eqD at o
  by_cases hl : flat 60 (deref h x) = true ∧ flat 60 (deref h y) = true
  · rw [if_pos hl] at o
    obtain ⟨p1, n1⟩ := flat_pd _ _ hl.1
    obtain ⟨p2, n2⟩ := flat_pd _ _ hl.2
    exact ⟨_, _, deref_dp r d1 hl.1, deref_dp r d2 hl.2, p1, p2, n1, n2, o.at r .bl⟩
  · rw [if_neg hl] at o; exact o.elim
theorem os_ne : OpS X T (rNeP X.K) neD := by
  intro W G h H σ x y v w Q r d1 d2 o
  unfold neD at o
  by_cases hl : flat 60 (deref h x) = true ∧ flat 60 (deref h y) = true
  · rw [if_pos hl] at o
    obtain ⟨p1, n1⟩ := flat_pd _ _ hl.1
    obtain ⟨p2, n2⟩ := flat_pd _ _ hl.2
    exact ⟨_, _, deref_dp r d1 hl.1, deref_dp r d2 hl.2, p1, p2, n1, n2, o.at r .bl⟩
  · rw [if_neg hl] at o; exact o.elim
/-- in, not in -/
def inOk (h : Hh) (x y : D) : Option (List D) := match deref h y with
  | .lst ds => if flat 50 x = true ∧ flats 50 ds = true then some ds else none
  | .tup ds => if flat 50 x = true ∧ flats 50 ds = true then some ds else none
  | _ => none
def inD : F2 := fun x y h => match inOk h x y with
  | some ds => .ok (.bl (ds.any fun z => eqv z x)) h
  | none => .stk
def ninD : F2 := fun x y h => match inOk h x y with
  | some ds => .ok (.bl (!ds.any fun z => eqv z x)) h
  | none => .stk
def rInP (K : PySem.W.Frag) (neg : Bool) : R2 := fun x y H Q => ∃ d ds, Dp K H x d ∧ (Dp K H y (.list ds) ∨ Dp K H y (.tuple ds)) ∧ d.plain = true ∧ PyData.plainAll ds = true ∧ d.depth ≤ 50 ∧ PyData.depthAll ds ≤ 50 ∧ Q (.bl (if neg = true then !(ds.any fun z => PyData.eqv z d) else ds.any fun z => PyData.eqv z d)) H
theorem op_inP (hu : X.A.units + 64 < cLine) : OpR X (compareOp .In) (rInP X.K false) := by
  intro pins s σ H x y v u Q I rx ry h
  obtain ⟨d, ds, hd, he, p1, p2, n1, n2, q⟩ := h
  obtain ⟨as, r1⟩ := Dp.reads I d x v hd rx
  rcases he with he | he
  · obtain ⟨bs, r2⟩ := Dp.reads I _ y u he ry
    exact SeqAt.in_list_data r2 r1 p2 p1 (by omega) ⟨.bl _, H, I, rfl, q⟩
  · obtain ⟨bs, r2⟩ := Dp.reads I _ y u he ry
    exact SeqAt.in_tuple_data r2 r1 p2 p1 (by omega) ⟨.bl _, H, I, rfl, q⟩
theorem op_ninP (hu : X.A.units + 64 < cLine) : OpR X (compareOp .NotIn) (rInP X.K true) := by
  intro pins s σ H x y v u Q I rx ry h
  obtain ⟨d, ds, hd, he, p1, p2, n1, n2, q⟩ := h
  obtain ⟨as, r1⟩ := Dp.reads I d x v hd rx
  rcases he with he | he
  · obtain ⟨bs, r2⟩ := Dp.reads I _ y u he ry
    exact SeqAt.notIn_list_data r2 r1 p2 p1 (by omega) ⟨.bl _, H, I, rfl, q⟩
  · obtain ⟨bs, r2⟩ := Dp.reads I _ y u he ry
    exact SeqAt.notIn_tuple_data r2 r1 p2 p1 (by omega) ⟨.bl _, H, I, rfl, q⟩
theorem any_pds (x : D) : ∀ ds : List D, ((pds ds).any fun z => PyData.eqv z (pd x)) = ds.any fun z => eqv z x
  | [] => by simp [pds]
  | d :: ds => by simp only [pds, List.any_cons, any_pds x ds]; rfl
theorem inOk_ok {K : PySem.W.Frag} {G : Gst} {h : Hh} {H : Hp} {x y : D} {v w : V} {ds : List D} (r : Rel K T G h H) (d1 : RD K T G x v) (d2 : RD K T G y w) (e : inOk h x y = some ds) :
    Dp K H v (pd x) ∧ (Dp K H w (.list (pds ds)) ∨ Dp K H w (.tuple (pds ds))) ∧ (pd x).plain = true ∧ PyData.plainAll (pds ds) = true ∧ (pd x).depth ≤ 50 ∧ PyData.depthAll (pds ds) ≤ 50 := by
  unfold inOk at e
  cases q : deref h y with
  | lst es =>
    rw [q] at e
    dsimp only at e
    by_cases hl : flat 50 x = true ∧ flats 50 es = true
    · rw [if_pos hl] at e
      cases e
      obtain ⟨p1, n1⟩ := flat_pd _ _ hl.1
      obtain ⟨p2, n2⟩ := flats_pd _ _ hl.2
      have f : flat 51 (deref h y) = true := by rw [q]; simpa [flat] using hl.2
      have z := deref_dp r d2 f
      rw [q] at z
      simp only [pd] at z
      exact ⟨RD.dp r.sub _ _ _ hl.1 d1, .inl z, p1, p2, n1, n2⟩
    · rw [if_neg hl] at e; cases e
  | tup es =>
    rw [q] at e
    dsimp only at e
    by_cases hl : flat 50 x = true ∧ flats 50 es = true
    · rw [if_pos hl] at e
      cases e
      obtain ⟨p1, n1⟩ := flat_pd _ _ hl.1
      obtain ⟨p2, n2⟩ := flats_pd _ _ hl.2
      have f : flat 51 (deref h y) = true := by rw [q]; simpa [flat] using hl.2
      have z := deref_dp r d2 f
      rw [q] at z
      simp only [pd] at z
      exact ⟨RD.dp r.sub _ _ _ hl.1 d1, .inr z, p1, p2, n1, n2⟩
    · rw [if_neg hl] at e; cases e
  | _ => rw [q] at e; cases e
theorem os_in : OpS X T (rInP X.K false) inD := by
  intro W G h H σ x y v w Q r d1 d2 o
  unfold inD at o
  cases e : inOk h x y with
  | none => rw [e] at o; exact o.elim
  | some ds =>
    rw [e] at o
    obtain ⟨a, b, c, d, f, g⟩ := inOk_ok r d1 d2 e
    refine ⟨_, _, a, b, c, d, f, g, ?_⟩
    show Q (.bl ((pds ds).any fun z => PyData.eqv z (pd x))) H
    rw [any_pds]
    exact o.at r .bl
theorem os_nin : OpS X T (rInP X.K true) ninD := by
  intro W G h H σ x y v w Q r d1 d2 o
  unfold ninD at o
  cases e : inOk h x y with
  | none => rw [e] at o; exact o.elim
  | some ds =>
    rw [e] at o
    obtain ⟨a, b, c, d, f, g⟩ := inOk_ok r d1 d2 e
    refine ⟨_, _, a, b, c, d, f, g, ?_⟩
    show Q (.bl (!((pds ds).any fun z => PyData.eqv z (pd x)))) H
    rw [any_pds]
    exact o.at r .bl
/-- is None, is True -/
def isNon : D → Bool
  | .non => true
  | _ => false
def isD : F2 := fun x y h => match y with
  | .non => .ok (.bl (isNon x)) h
  | .bl b => match x with
    | .bl a => .ok (.bl (decide (a = b))) h
    | _ => .stk
  | _ => .stk
def isnD : F2 := fun x y h => match y with
  | .non => .ok (.bl (!isNon x)) h
  | .bl b => match x with
    | .bl a => .ok (.bl (!decide (a = b))) h
    | _ => .stk
  | _ => .stk
def rIsA : R2 := fun x y H Q => (fun x y H Q => y = .non ∧ Q (.bl (decide (x = .non))) H : R2) x y H Q ∨ rIsB x y H Q
def rIsnA : R2 := fun x y H Q => (fun x y H Q => y = .non ∧ Q (.bl (!decide (x = .non))) H : R2) x y H Q ∨ rNotB x y H Q
theorem op_isA : OpR X (compareOp .Is) rIsA := OpR.or op_isN op_isBl
theorem op_isnA : OpR X (compareOp .IsNot) rIsnA := OpR.or op_notN op_notBl
theorem isNon_v {K : PySem.W.Frag} {G : Gst} {d : D} {v : V} (d1 : RD K T G d v) : decide (v = .non) = isNon d := by
  cases d1 <;> simp [isNon]
theorem os_is : OpS X T rIsA isD := by
  intro W G h H σ x y v w Q r d1 d2 o
  cases d2 with
  | non => exact .inl ⟨rfl, by rw [isNon_v d1]; exact o.at r .bl⟩
  | bl => cases d1 with
    | bl => exact .inr ⟨_, _, rfl, rfl, o.at r .bl⟩
    | _ => exact o.elim
  | _ => exact o.elim
theorem os_isn : OpS X T rIsnA isnD := by
  intro W G h H σ x y v w Q r d1 d2 o
  cases d2 with
  | non => exact .inl ⟨rfl, by rw [isNon_v d1]; exact o.at r .bl⟩
  | bl => cases d1 with
    | bl => exact .inr ⟨_, _, rfl, rfl, o.at r .bl⟩
    | _ => exact o.elim
  | _ => exact o.elim
end
end L3
set_option autoImplicit false
set_option maxHeartbeats 4000000
/-! L3D: subscripts, slices, attributes, targets, loops, comprehensions, defs and calls. -/
namespace L3
open PySem PySem.Spec L2
section
variable {X : Cx} {T : Tx} {W : WX} {pos : Pos}
/-! ### subscripts -/
theorem RDs.ati {K : PySem.W.Frag} {G : Gst} {ds : List D} {vs : List V} {i : Int} {d : D} (r : RDs K T G ds vs) (e : atI ds i = some d) : ∃ v, atI vs i = some v ∧ RD K T G d v := by
  unfold atI at e ⊢
  rw [← r.length]
  cases q : ixN ds.length i with
  | none => rw [q] at e; cases e
  | some j =>
    rw [q] at e
    exact r.get e
def ixD : F2 := fun x y h => match x, y with
  | .tup xs, .int i => match atI xs i with
    | some d => .ok d h
    | none => .stk
  | .str s, .int i => if lineOk s.length = true then match atI s i with
    | some c => .ok (.str [c]) h
    | none => .stk else .stk
  | x, .int i => match asL h x with
    | some xs => match atI xs i with
      | some d => .ok d h
      | none => .stk
    | none => .stk
  | _, _ => .stk
theorem os_ix : OpS X T (rIx X.K) ixD := by
  intro W G h H σ x y v w Q r d1 d2 o
  cases d2 with
  | @int i =>
    have lists : (match asL h x with
      | some xs => match atI xs i with
        | some d => R.ok d h
        | none => .stk
      | none => .stk) = ixD x (.int i) h → rIx X.K v (.int i) H Q := fun e => by
      rw [← e] at o
      cases ex : asL h x with
      | none => rw [ex] at o; exact o.elim
      | some xs =>
        rw [ex] at o
        dsimp only at o
        cases ea : atI xs i with
        | none => rw [ea] at o; exact o.elim
        | some d =>
          rw [ea] at o
          obtain ⟨a, vs, rfl, h1, q1⟩ := asL_ok r d1 ex
          obtain ⟨u, eu, du⟩ := q1.ati ea
          exact .inl ⟨a, vs, i, u, rfl, rfl, .inl (.inl h1), eu, o.at r du⟩
    cases d1 with
    | @tup xs a vs h1 q1 =>
      unfold ixD at o
      dsimp only at o
      cases ea : atI xs i with
      | none => rw [ea] at o; exact o.elim
      | some d =>
        rw [ea] at o
        obtain ⟨u, eu, du⟩ := q1.ati ea
        exact .inr (.inl ⟨a, vs, i, u, rfl, rfl, SqT.sub r.sub h1, eu, o.at r du⟩)
    | @str s =>
      unfold ixD at o
      dsimp only at o
      by_cases hl : lineOk s.length = true
      · rw [if_pos hl] at o
        cases ea : atI s i with
        | none => rw [ea] at o; exact o.elim
        | some c =>
          rw [ea] at o
          refine .inr (.inr ⟨_, i, c, rfl, rfl, ?_, by simpa using ea, ?_⟩)
          · show s.toArray.size ≤ sizeLine
            simpa using lineOk_le hl
          · exact o.at r .str
      · rw [if_neg hl] at o; exact o.elim
    | _ => first | exact lists rfl | exact o.elim
  | _ => cases d1 <;> exact o.elim
theorem fe_ix {a b : Expr} {fa fb : FnE} (hs : PlainIx b) (ha : FE X T W a fa) (hb : FE X T W b fb) : FE X T W (.Subscript a b pos) (eBin ixD fa fb) :=
  PE.imp (pe_ix ix_seq ha hb hs) fun _ _ _ h => tE_bin os_ix h
/-! slices -/
abbrev FnO := De → Hh → R (Option Int)
abbrev tO (K : PySem.W.Frag) (T : Tx) (W : WX) (f : FnO) : TO := tF K T W (fun _ a b => a = b) f
abbrev FO (X : Cx) (T : Tx) (W : WX) (e : Option Expr) (f : FnO) : Prop := PO X e (tO X.K T W f)
theorem PO.imp {e : Option Expr} {t t' : TO} (h : PO X e t) (q : ∀ σ H Q, t' σ H Q → t σ H Q) : PO X e t' := ⟨fun pins s σ H Q I z => h.run pins s σ H Q I (q _ _ _ z)⟩
def oNone : FnO := fun _ h => .ok none h
def oSome (f : FnE) : FnO := fun δ h => (f δ h).bind fun x h1 => match x with
  | .int i => .ok (some i) h1
  | _ => .stk
theorem fo_none : FO X T W none oNone := by
  refine PO.imp po_none fun σ H Q => ?_
  rintro ⟨G, h0, δ, r, s, o⟩
  exact okR.at o r rfl
theorem fo_some {e : Expr} {f : FnE} (h : FE X T W e f) : FO X T W (some e) (oSome f) := by
  refine PO.imp (po_some h) fun σ H Q h => ?_
  refine tF.bind (k := fun _ x h1 => match x with | .int i => .ok (some i) h1 | _ => .stk) h fun G δ x v h1 H1 r1 s1 d1 o1 => ?_
  cases d1 with
  | int => exact ⟨_, rfl, okR.at o1 r1 rfl⟩
  | _ => exact o1.elim
def cutL {α : Type} (xs : List α) (lo hi : Option Int) : List α := (xs.drop (HT.sIx xs.length 0 lo)).take (HT.sIx xs.length xs.length hi - HT.sIx xs.length 0 lo)
theorem RDs.cut {K : PySem.W.Frag} {G : Gst} {ds : List D} {vs : List V} (r : RDs K T G ds vs) (lo hi : Option Int) : RDs K T G (cutL ds lo hi) (cutV vs lo hi) := by
  unfold cutL cutV
  rw [← r.length]
  exact (r.drop _).take _
theorem cutL_all {α : Type} (xs : List α) (lo hi : Option Int) (h : HT.sIx xs.length 0 lo = 0 ∧ HT.sIx xs.length xs.length hi = xs.length) : cutL xs lo hi = xs := by
  unfold cutL
  rw [h.1, h.2]
  simp
def sliceD (x : D) (lo hi : Option Int) (h : Hh) : R D := match x with
  | .tup xs => .ok (.tup (cutL xs lo hi)) h
  | x => match asL h x with
    | some xs => .ok (.lst (cutL xs lo hi)) h
    | none => .stk
def eSlice (f : FnE) (fl fh : FnO) : FnE := fun δ h => (f δ h).bind fun x h1 => (fl δ h1).bind fun l h2 => (fh δ h2).bind fun u h3 => sliceD x l u h3
def rSlAll (K : PySem.W.Frag) : V → Option Int → Option Int → Hp → VK → Prop := fun x lo hi H Q => rSlA K x lo hi H Q ∨ rSlL K x lo hi H Q
theorem fe_slice {e : Expr} {lo hi : Option Expr} {p2 : Pos} {f : FnE} {fl fh : FnO} (he : FE X T W e f) (hl : FO X T W lo fl) (hh : FO X T W hi fh) : FE X T W (.Subscript e (.Slice lo hi none p2) pos) (eSlice f fl fh) := by
  refine PE.imp (pe_slice (r := rSlAll X.K) (SlR.or sl_tupA sl_list) he hl hh) fun σ H Q => ?_
  rintro ⟨G, h0, δ, r, s, o⟩
  refine ⟨G, h0, δ, r, s, (okR.bind (rel := RD X.K T) o).mono ?_⟩
  rintro v H1 ⟨G1, x, h1, e1, r1, d1, o1⟩
  refine ⟨G1, h1, δ, r1, s.mono e1, (okR.bind (rel := fun _ a b => a = b) o1).mono ?_⟩
  rintro l H2 ⟨G2, l', h2, e2, r2, rfl, o2⟩
  refine ⟨G2, h2, δ, r2, s.mono (e1.trans e2), (okR.bind (rel := fun _ a b => a = b) o2).mono ?_⟩
  rintro u H3 ⟨G3, u', h3, e3, r3, rfl, o3⟩
  have d3 := d1.mono (e2.trans e3)
  have lists : (match asL h3 x with
    | some xs => R.ok (.lst (cutL xs l' u')) h3
    | none => .stk) = sliceD x l' u' h3 → rSlAll X.K v l' u' H3 Q := fun e => by
    rw [← e] at o3
    cases ex : asL h3 x with
    | none => rw [ex] at o3; exact o3.elim
    | some xs =>
      rw [ex] at o3
      obtain ⟨a, vs, rfl, q1, q2⟩ := asL_ok r3 d3 ex
      exact .inr ⟨a, vs, rfl, .inl (.inl q1), fun p hp => newLst r3 (q2.cut l' u') hp o3⟩
  cases d3 with
  | @tup xs a vs q1 q2 q3 =>
    refine .inl ⟨a, vs, rfl, SqT.sub r3.sub q1, fun e => ?_, fun _ p hp => newTup r3 (q2.cut l' u') hp o3⟩
    have o4 : okR X.K T W G3 σ (RD X.K T) (.ok (.tup (cutL xs l' u')) h3) Q := o3
    rw [cutL_all xs l' u' (by rw [q2.length]; exact e)] at o4
    exact o4.at r3 (.tup q1 q2 q3)
  | _ => exact lists rfl
/-! ### attributes -/
/-- where an attribute stands in its class -/
def AttrOk (X : Cx) (T : Tx) (f : Str) (ix : Nat → Option Nat) : Prop := ∀ c k, ix c = some k → ∃ C nm, T.cls c = some (C, nm) ∧ nm[k]? = some f ∧ nm.Nodup ∧ nm.length < 1000 ∧ Cls X.K C ∧ NoAttr X.K C f
theorem look_at {f : Str} : ∀ {fs : List (Str × V)} {k : Nat} {v : V}, (fs.map (·.1)).Nodup → (fs.map (·.1))[k]? = some f → (fs.map (·.2))[k]? = some v → fs.lookup f = some v
  | [], _, _, _, e, _ => by simp at e
  | (g, y) :: r, 0, v, _, e, q => by
    simp at e q
    subst e; subst q
    simp [List.lookup]
  | (g, y) :: r, k + 1, v, n, e, q => by
    have n' : g ∉ r.map (·.1) ∧ (r.map (·.1)).Nodup := by simpa using n
    have e' : (r.map (·.1))[k]? = some f := by simpa using e
    have ne : f ≠ g := fun z => n'.1 (z ▸ List.mem_of_getElem? e')
    have b : (f == g) = false := beq_eq_false_iff_ne.mpr ne
    simp only [List.lookup, b]
    exact look_at n'.2 e' (by simpa using q)
def optR (o : Option D) (h : Hh) : R D := match o with
  | some d => .ok d h
  | none => .stk
def fieldAt (ix : Nat → Option Nat) (c : Nat) (ds : List D) : Option D := match ix c with
  | some k => ds[k]?
  | none => none
def fldD (ix : Nat → Option Nat) (x : D) (h : Hh) : R D := match x with
  | .obj c ds => optR (fieldAt ix c ds) h
  | .ref n => match h[n]? with
    | some (.obj c ds) => optR (fieldAt ix c ds) h
    | _ => .stk
  | _ => .stk
def eFld (ix : Nat → Option Nat) (fa : FnE) : FnE := fun δ h => (fa δ h).bind (fldD ix)
theorem fe_fld {e : Expr} {f : Str} {ix : Nat → Option Nat} {fa : FnE} (a : AttrOk X T f ix) (he : FE X T W e fa) (hb : attributeBase e f X.env (eval e X.env) = eval e X.env := by rfl) : FE X T W (.Attribute e f pos) (eFld ix fa) := by
  refine PE.imp (pe_fld he hb) fun σ H Q h => ?_
  refine tF.bind (k := fun _ => fldD ix) h fun G δ x v h1 H1 r1 s1 d1 o1 => ?_
  have fin : ∀ {c : Nat} {ds : List D} {a' C dx : Addr} {nm : List Str} {fs : List (Str × V)}, H1 a' = some (.ins C dx fs) → T.cls c = some (C, nm) → fs.map (·.1) = nm.take ds.length → RDs X.K T G ds (fs.map (·.2)) →
      okR X.K T W G σ (RD X.K T) (optR (fieldAt ix c ds) h1) Q →
      ∃ a C dx fs v, V.ref a' = .ref a ∧ H1 a = some (.ins C dx fs) ∧ Cls X.K C ∧ NoAttr X.K C f ∧ fs.lookup f = some v ∧ Q v H1 := fun {c ds a' C dx nm fs} q1 q2 q3 q4 o2 => by
    unfold fieldAt at o2
    cases ei : ix c with
    | none => rw [ei] at o2; exact o2.elim
    | some k =>
      rw [ei] at o2
      dsimp only at o2
      cases ed : ds[k]? with
      | none => rw [ed] at o2; exact o2.elim
      | some d =>
        rw [ed] at o2
        obtain ⟨C', nm', c1, c2, c3, _, c4, c5⟩ := a c k ei
        rw [q2] at c1; cases c1
        obtain ⟨u, eu, du⟩ := q4.get ed
        have hk : k < ds.length := (List.getElem?_eq_some_iff.mp ed).1
        refine ⟨a', C, dx, fs, u, rfl, q1, c4, c5, look_at (k := k) (by rw [q3]; exact c3.sublist (List.take_sublist _ _)) (by rw [q3, List.getElem?_take_of_lt hk]; exact c2) eu, o2.at r1 du⟩
  cases d1 with
  | @obj c ds a' C dx nm fs q1 q2 q3 q4 =>
    exact fin (r1.sub _ _ q1) q2 (by rw [q3, List.take_of_length_le (by rw [q4.length, ← q3]; simp)]) q4 o1
  | @ref n a' q1 =>
    unfold fldD at o1
    dsimp only at o1
    cases q : h1[n]? with
    | none => rw [q] at o1; exact o1.elim
    | some ob =>
      rw [q] at o1
      cases ob with
      | obj c ds =>
        obtain ⟨a2, C, dx, nm, fs, e1, e2, e3, e4, e5, e6⟩ := r1.obj n _ q
        rw [q1] at e1; cases e1
        exact fin e3 e4 e5 e6 o1
      | _ => exact o1.elim
  | _ => exact o1.elim
/-- self.f = e: a further attribute, or another value -/
def putAt (ds : List D) (k : Nat) (d : D) : Option (List D) := if k < ds.length then some (ds.set k d) else if k = ds.length then some (ds ++ [d]) else none
def sFld (ix : Nat → Option Nat) (fo fv : FnE) : FnS := fun δ h => (fv δ h).toS δ fun y h1 => (fo δ h1).toS δ fun x h2 => match x with
  | .ref n => match h2[n]? with
    | some (.obj c ds) => match ix c with
      | some k => match putAt ds k y with
        | some ds' => .nx δ (h2.set n (.obj c ds'))
        | none => .stk
      | none => .stk
    | _ => .stk
  | _ => .stk
theorem putF_new {f : Str} {v : V} : ∀ {fs : List (Str × V)}, f ∉ fs.map (·.1) → putF f v fs = fs ++ [(f, v)]
  | [], _ => rfl
  | (g, y) :: r, h => by
    have h' : ¬ f = g ∧ f ∉ r.map (·.1) := by simpa using h
    show (if g = f then _ else _) = _
    rw [if_neg (fun e => h'.1 e.symm), putF_new h'.2]
    rfl
theorem putF_at {f : Str} {v : V} : ∀ {fs : List (Str × V)} {k : Nat}, (fs.map (·.1)).Nodup → (fs.map (·.1))[k]? = some f → (putF f v fs).map (·.1) = fs.map (·.1) ∧ (putF f v fs).map (·.2) = (fs.map (·.2)).set k v
  | [], _, _, e => by simp at e
  | (g, y) :: r, 0, _, e => by
    simp at e
    subst e
    show (List.map _ (if g = g then _ else _)) = _ ∧ (List.map _ (if g = g then _ else _)) = _
    rw [if_pos rfl]
    simp
  | (g, y) :: r, k + 1, n, e => by
    have n' : g ∉ r.map (·.1) ∧ (r.map (·.1)).Nodup := by simpa using n
    have e' : (r.map (·.1))[k]? = some f := by simpa using e
    have ne : ¬ g = f := fun z => n'.1 (z ▸ List.mem_of_getElem? e')
    obtain ⟨a, b⟩ := putF_at (v := v) n'.2 e'
    show (List.map _ (if g = f then _ else _)) = _ ∧ (List.map _ (if g = f then _ else _)) = _
    rw [if_neg ne]
    simp [a, b]
theorem fs_fld {o value : Expr} {f : Str} {ix : Nat → Option Nat} {fo fv : FnE} {pos' : Pos} (a : AttrOk X T f ix) (ho : FE X T W o fo) (hv : FE X T W value fv) (hs : swapsWith value (some (.Attribute o f pos')) pos.line X.env = pure false := by rfl) :
    FS X T W (.Assign [.Attribute o f pos'] value pos) (sFld ix fo fv) := by
  refine PS.imp (ps_fld ho hv hs) fun D σ H => ?_
  rintro ⟨G, h0, δ, r, s, oo⟩
  refine ⟨G, h0, δ, r, s, (okS.toS (rel := RD X.K T) s oo).mono ?_⟩
  rintro v H1 ⟨G1, y, h1, e1, r1, d1, o1⟩
  refine ⟨G1, h1, δ, r1, s.mono e1, (okS.toS (rel := RD X.K T) (s.mono e1) o1).mono ?_⟩
  rintro w H2 ⟨G2, x, h2, e2, r2, d2, o2⟩
  have d1' := d1.mono e2
  cases d2 with
  | @ref n a' q1 =>
    dsimp only at o2
    cases q : h2[n]? with
    | none => rw [q] at o2; exact o2.elim
    | some ob =>
      rw [q] at o2
      cases ob with
      | obj c ds =>
        dsimp only at o2
        obtain ⟨a2, C, dx, nm, fs, z1, z2, z3, z4, z5, z6⟩ := r2.obj n _ q
        rw [q1] at z1; cases z1
        cases ei : ix c with
        | none => rw [ei] at o2; exact o2.elim
        | some k =>
          rw [ei] at o2
          dsimp only at o2
          cases ep : putAt ds k y with
          | none => rw [ep] at o2; exact o2.elim
          | some ds' =>
            rw [ep] at o2
            dsimp only at o2
            obtain ⟨C', nm', c1, c2, c3, c4, c5, c6⟩ := a c k ei
            rw [z4] at c1; cases c1
            have nd : (fs.map (·.1)).Nodup := by rw [z5]; exact c3.sublist (List.take_sublist _ _)
            have lf : fs.length = ds.length := by have := z6.length; simpa using this.symm
            have lle : ds.length ≤ nm.length := by
              have := congrArg List.length z5
              rw [List.length_map, List.length_take] at this
              omega
            have hn : n < h2.length := (List.getElem?_eq_some_iff.mp q).1
            refine ⟨a', C, dx, fs, rfl, z3, c5, c6, by omega, ?_⟩
            have key : (putF f v fs).map (·.1) = nm.take ds'.length ∧ RDs X.K T G2 ds' ((putF f v fs).map (·.2)) := by
              unfold putAt at ep
              by_cases hk : k < ds.length
              · rw [if_pos hk] at ep; cases ep
                obtain ⟨p1, p2⟩ := putF_at (v := v) (k := k) nd (by rw [z5, List.getElem?_take_of_lt hk]; exact c2)
                rw [p1, p2, z5]
                exact ⟨by rw [List.length_set], z6.set d1' k⟩
              · rw [if_neg hk] at ep
                by_cases hk2 : k = ds.length
                · rw [if_pos hk2] at ep; cases ep
                  subst hk2
                  have nf : f ∉ fs.map (·.1) := fun m => by
                    rw [z5] at m
                    obtain ⟨j, hj⟩ := List.mem_iff_getElem?.mp m
                    have hjl : j < ds.length := by
                      have := (List.getElem?_eq_some_iff.mp hj).1
                      rw [List.length_take] at this; omega
                    rw [List.getElem?_take_of_lt hjl] at hj
                    have := nodup_ix c3 hj c2
                    omega
                  rw [putF_new nf, List.map_append, List.map_append, z5]
                  refine ⟨?_, z6.append (.cons d1' .nil)⟩
                  rw [List.length_append, List.length_singleton, List.take_add_one, c2]
                  rfl
                · rw [if_neg hk2] at ep; cases ep
            refine o2 G2 _ σ (Ext.refl G2) (r2.put hn z2 ?_) (s.mono (e1.trans e2))
            exact ⟨a', C, dx, nm, _, q1, z2, upd_same, z4, key.1, key.2⟩
      | _ => exact o2.elim
  | _ => exact o2.elim
end
end L3
set_option autoImplicit false
set_option maxHeartbeats 4000000
/-! L3E: targets, loops, comprehensions, defs and calls. -/
namespace L3
open PySem PySem.Spec L2
section
variable {X : Cx} {T : Tx} {W : WX} {pos : Pos}
/-! ### targets -/
abbrev FnG := D → De → Option De
abbrev FnGs := List D → De → Option De
/-- σ' is σ but for the slots at is -/
def SameOut (is : List Nat) (σ σ' : L2.St) : Prop := σ'.length = σ.length ∧ ∀ i, i ∉ is → σ'[i]? = σ[i]?
theorem SameOut.refl (is : List Nat) (σ : L2.St) : SameOut is σ σ := ⟨rfl, fun _ _ => rfl⟩
theorem SameOut.trans {is js : List Nat} {σ σ1 σ2 : L2.St} (a : SameOut is σ σ1) (b : SameOut js σ1 σ2) : SameOut (is ++ js) σ σ2 :=
  ⟨b.1.trans a.1, fun i h => by
    have h' : i ∉ is ∧ i ∉ js := by simpa using h
    exact (b.2 i h'.2).trans (a.2 i h'.1)⟩
theorem SameOut.set (σ : L2.St) (i : Nat) (x : Option V) : SameOut [i] σ (σ.set i x) := ⟨by simp, fun j h => by
  have h' : j ≠ i := by simpa using h
  exact List.getElem?_set_ne (Ne.symm h')⟩
def tG (K : PySem.W.Frag) (T : Tx) (is : List Nat) (g : FnG) : TG := fun v σ H Q => ∃ G h δ d δ', Rel K T G h H ∧ RSl K T G δ σ ∧ RD K T G d v ∧ g d δ = some δ' ∧ ∀ σ', RSl K T G δ' σ' → SameOut is σ σ' → Q σ' H
def tGs (K : PySem.W.Frag) (T : Tx) (is : List Nat) (g : FnGs) : TGs := fun vs σ H Q => ∃ G h δ ds δ', Rel K T G h H ∧ RSl K T G δ σ ∧ RDs K T G ds vs ∧ g ds δ = some δ' ∧ ∀ σ', RSl K T G δ' σ' → SameOut is σ σ' → Q σ' H
abbrev FG (X : Cx) (T : Tx) (e : Expr) (is : List Nat) (g : FnG) : Prop := PG X e (tG X.K T is g)
abbrev FGs (X : Cx) (T : Tx) (es : List Expr) (is : List Nat) (g : FnGs) : Prop := PGs X es (tGs X.K T is g)
theorem PG.imp {e : Expr} {t t' : TG} (h : PG X e t) (q : ∀ v σ H Q, t' v σ H Q → t v σ H Q) : PG X e t' := ⟨fun pins s σ H v u Q I r z => h.run pins s σ H v u Q I r (q _ _ _ _ z)⟩
theorem PGs.imp {e : List Expr} {t t' : TGs} (h : PGs X e t) (q : ∀ v σ H Q, t' v σ H Q → t v σ H Q) : PGs X e t' := ⟨fun pins s σ H v u Q I r z => h.run pins s σ H v u Q I r (q _ _ _ _ z)⟩
theorem PG.or {e : Expr} {t t' : TG} (h : PG X e t) (h' : PG X e t') : PG X e (fun v σ H Q => t v σ H Q ∨ t' v σ H Q) := ⟨fun pins s σ H v u Q I r z => z.elim (h.run pins s σ H v u Q I r) (h'.run pins s σ H v u Q I r)⟩
def gSet (i : Nat) : FnG := fun d δ => some (δ.set i (some d))
theorem fg_name (i : Nat) {x : Str} (hN : X.N.Nodup) (hi : X.N[i]? = some x) (hx : Loc X.env.scope x) (hf : X.fn x = true ∨ X.env.scope.names.lookup x = some .local := by first | exact .inl rfl | exact .inr rfl | assumption) : FG X T (.Name x pos) [i] (gSet i) := by
  refine PG.imp (pg_name hN hi hx hf) fun v σ H Q => ?_
  rintro ⟨G, h, δ, d, δ', r, s, rd, e, k⟩
  cases e
  exact k _ (s.set rd i) (SameOut.set σ i _)
def gsNil : FnGs := fun ds δ => match ds with
  | [] => some δ
  | _ => none
def gsCons (g : FnG) (gs : FnGs) : FnGs := fun ds δ => match ds with
  | d :: r => match g d δ with
    | some δ' => gs r δ'
    | none => none
  | [] => none
theorem fgs_nil : FGs X T [] [] gsNil := by
  refine PGs.imp pgs_nil fun v σ H Q => ?_
  rintro ⟨G, h, δ, ds, δ', r, s, rd, e, k⟩
  cases rd with
  | nil => cases e; exact ⟨rfl, k _ s (SameOut.refl _ _)⟩
  | cons _ _ => cases e
theorem fgs_cons {e : Expr} {es : List Expr} {is js : List Nat} {g : FnG} {gs : FnGs} (h1 : FG X T e is g) (h2 : FGs X T es js gs) (hs : (assignEach (e :: es) X.env).map (·.2) = assign e X.env :: (assignEach es X.env).map (·.2) := by rfl) : FGs X T (e :: es) (is ++ js) (gsCons g gs) := by
  refine PGs.imp (pgs_cons h1 h2 hs) fun v σ H Q => ?_
  rintro ⟨G, h, δ, ds, δ', r, s, rd, e, k⟩
  cases rd with
  | nil => cases e
  | @cons d v ds vs q1 q2 =>
    unfold gsCons at e
    dsimp only at e
    cases eg : g d δ with
    | none => rw [eg] at e; cases e
    | some δ1 =>
      rw [eg] at e
      exact ⟨v, vs, rfl, G, h, δ, d, δ1, r, s, q1, eg, fun σ1 s1 o1 => ⟨G, h, δ1, ds, δ', r, s1, q2, e, fun σ2 s2 o2 => k σ2 s2 (o1.trans o2)⟩⟩
def gTupD (n : Nat) (gs : FnGs) : FnG := fun d δ => match d with
  | .tup ds => if ds.length = n then gs ds δ else none
  | .lst ds => if ds.length = n then gs ds δ else none
  | _ => none
theorem fg_tup {es : List Expr} {k : Nat} {is : List Nat} {gs : FnGs} {n : Nat} (hc : X.calm = true) (h : FGs X T es is gs) (hn : (assignEach es X.env).length = n := by rfl) (hst : (assignEach es X.env).findIdx? (·.1) = none := by rfl) : FG X T (.Tuple es k pos) is (gTupD n gs) := by
  refine PG.imp (PG.or (pg_tup hc h hn hst) (pg_lst hc h hn hst)) fun v σ H Q => ?_
  rintro ⟨G, h, δ, d, δ', r, s, rd, e, k⟩
  cases rd with
  | @tup ds a vs q1 q2 =>
    unfold gTupD at e
    dsimp only at e
    by_cases hl : ds.length = n
    · rw [if_pos hl] at e
      exact .inl ⟨a, vs, rfl, SqT.sub r.sub q1, q2.length.symm.trans hl, G, h, δ, ds, δ', r, s, q2, e, k⟩
    · rw [if_neg hl] at e; cases e
  | @lst ds a vs q1 q2 =>
    unfold gTupD at e
    dsimp only at e
    by_cases hl : ds.length = n
    · rw [if_pos hl] at e
      exact .inr ⟨a, vs, rfl, .inl (.inl (r.sub _ _ q1)), q2.length.symm.trans hl, G, h, δ, ds, δ', r, s, q2, e, k⟩
    · rw [if_neg hl] at e; cases e
  | _ => cases e
/-- target = e -/
def sAsg (g : FnG) (f : FnE) : FnS := fun δ h => (f δ h).toS δ fun x h1 => match g x δ with
  | some δ' => .nx δ' h1
  | none => .stk
theorem fs_asg {tg e : Expr} {f : FnE} {is : List Nat} {g : FnG} (hg : FG X T tg is g) (he : FE X T W e f) (hs : swapsWithSole [tg] e pos.line X.env = pure false := by rfl) (hw : swappedStores [tg] e X.env = pure none := by rfl)
    (h1 : (assignEach [tg] X.env).map (·.2) = [assign tg X.env] := by rfl) : FS X T W (.Assign [tg] e pos) (sAsg g f) := by
  refine PS.imp (ps_asg he hg hs hw h1) fun D σ H h => ?_
  refine tS.bind (k := fun δ x h1 => match g x δ with | some δ' => .nx δ' h1 | none => .stk) h fun G δ x w h1 H1 r1 s1 d1 o1 => ?_
  cases eg : g x δ with
  | none => rw [eg] at o1; exact o1.elim
  | some δ' =>
    rw [eg] at o1
    exact ⟨G, h1, δ, x, δ', r1, s1, d1, eg, fun σ' s' _ => o1 G H1 σ' (Ext.refl G) r1 s'⟩
/-- a, b = x, y (both sides written) -/
def setAll (ix : List Nat) (ds : List D) (δ : De) : De := match ix, ds with
  | i :: ix, d :: ds => setAll ix ds (δ.set i (some d))
  | _, _ => δ
def kPar (ix : List Nat) (δ : De) (ds : List D) (h1 : Hh) : RS := if ds.length = ix.length then .nx (setAll ix ds δ) h1 else .stk
def sPar (ix : List Nat) (fa : FnA) : FnS := fun δ h => (fa δ h).toS δ (kPar ix δ)
theorem fs_par {i j : Nat} {x y : Str} {a b : Expr} {fa : FnA} {px py pt : Pos} {kt k2 pt2} (hc : X.calm = true) (hN : X.N.Nodup) (hi : X.N[i]? = some x) (hj : X.N[j]? = some y) (hij : i ≠ j)
    (hx : X.env.scope.names.lookup x = some .local) (hy : X.env.scope.names.lookup y = some .local) (ha : FA X T W [a, b] fa)
    (hw : swappedStores [.Tuple [.Name x px, .Name y py] kt pt] (.Tuple [a, b] k2 pt2) X.env = pure (some [x, y]))
    (hs : swapsWithSole [.Tuple [.Name x px, .Name y py] kt pt] (.Tuple [a, b] k2 pt2) pos.line X.env = pure false := by rfl) :
    FS X T W (.Assign [.Tuple [.Name x px, .Name y py] kt pt] (.Tuple [a, b] k2 pt2) pos) (sPar [i, j] fa) := by
  refine PS.imp (ps_par hc hN hi hj hij hx hy ha hw hs) fun D σ H h => ?_
  refine tS.bind (k := kPar [i, j]) h fun G δ ds vs h1 H1 r1 s1 d1 o1 => ?_
  unfold kPar at o1
  by_cases hl : ds.length = [i, j].length
  · rw [if_pos hl] at o1
    match ds, vs, d1, hl, o1 with
    | [d, e], [v, w], .cons q1 (.cons q2 .nil), _, o1 => exact ⟨v, w, rfl, o1 G H1 _ (Ext.refl G) r1 ((s1.set q1 i).set q2 j)⟩
  · rw [if_neg hl] at o1; exact o1.elim
theorem fs_par3 {i j l : Nat} {x y z : Str} {a b c : Expr} {fa : FnA} {px py pz pt : Pos} {kt k2 pt2} (hc : X.calm = true) (hN : X.N.Nodup) (hi : X.N[i]? = some x) (hj : X.N[j]? = some y) (hl : X.N[l]? = some z) (hij : i ≠ j) (hil : i ≠ l) (hjl : j ≠ l)
    (hx : X.env.scope.names.lookup x = some .local) (hy : X.env.scope.names.lookup y = some .local) (hz : X.env.scope.names.lookup z = some .local) (ha : FA X T W [a, b, c] fa)
    (hw : swappedStores [.Tuple [.Name x px, .Name y py, .Name z pz] kt pt] (.Tuple [a, b, c] k2 pt2) X.env = pure (some [x, y, z]))
    (hs : swapsWithSole [.Tuple [.Name x px, .Name y py, .Name z pz] kt pt] (.Tuple [a, b, c] k2 pt2) pos.line X.env = pure false := by rfl) :
    FS X T W (.Assign [.Tuple [.Name x px, .Name y py, .Name z pz] kt pt] (.Tuple [a, b, c] k2 pt2) pos) (sPar [i, j, l] fa) := by
  refine PS.imp (ps_par3 hc hN hi hj hl hij hil hjl hx hy hz ha hw hs) fun D σ H h => ?_
  refine tS.bind (k := kPar [i, j, l]) h fun G δ ds vs h1 H1 r1 s1 d1 o1 => ?_
  unfold kPar at o1
  by_cases hl : ds.length = [i, j, l].length
  · rw [if_pos hl] at o1
    match ds, vs, d1, hl, o1 with
    | [d, e, f], [u, v, w], .cons q1 (.cons q2 (.cons q3 .nil)), _, o1 => exact ⟨u, v, w, rfl, o1 G H1 _ (Ext.refl G) r1 (((s1.set q1 i).set q2 j).set q3 l)⟩
  · rw [if_neg hl] at o1; exact o1.elim
/-! ### what is walked -/
/-- at each later state: the items in order -/
def Walk3 (K : PySem.W.Frag) (T : Tx) (J : It) (G : Gst) (items : List D) : Prop := ∀ (i : Nat) G2 h2 H2, Ext0 G G2 → Rel K T G2 h2 H2 →
  (∀ d, items[i]? = some d → J.go i H2 ∧ ∀ x H3, J.yld i H2 x H3 → ∃ G3, Ext G2 G3 ∧ Rel K T G3 h2 H3 ∧ RD K T G3 d x) ∧ (i = items.length → J.stop i H2)
abbrev FnI := De → Hh → R (List D)
def tI (K : PySem.W.Frag) (T : Tx) (W : WX) (f : FnI) : TI := fun σ H Q => ∃ G h δ, Rel K T G h H ∧ RSl K T G δ σ ∧ okR K T W G σ (fun G ds J => Walk3 K T J G ds) (f δ h) Q
abbrev FI (X : Cx) (T : Tx) (W : WX) (tg e : Expr) (f : FnI) : Prop := PI X tg e (tI X.K T W f)
theorem PI.imp {tg e : Expr} {t t' : TI} (h : PI X tg e t) (q : ∀ σ H Q, t' σ H Q → t σ H Q) : PI X tg e t' := ⟨fun pins s σ H Q I z => h.run pins s σ H Q I (q _ _ _ z)⟩
theorem PI.or {tg e : Expr} {t t' : TI} (h : PI X tg e t) (h' : PI X tg e t') : PI X tg e (fun σ H Q => t σ H Q ∨ t' σ H Q) := ⟨fun pins s σ H Q I z => z.elim (h.run pins s σ H Q I) (h'.run pins s σ H Q I)⟩
/-- a value that is walked -/
def iSeq (f : FnE) : FnI := fun δ h => (f δ h).bind fun x h1 => match x with
  | .tup ds => .ok ds h1
  | .lst ds => .ok ds h1
  | .scr ds => .ok ds h1
  | _ => .stk
theorem walk_tup {K : PySem.W.Frag} {G : Gst} {a : Addr} {ds : List D} {vs : List V} (q1 : SqT K G.fz a vs) (q2 : RDs K T G ds vs) : Walk3 K T (Itt K a) G ds := fun i G2 h2 H2 x r => by
  have z : SqT K H2 a vs := SqT.sub r.sub (SqT.sub x.fz q1)
  refine ⟨fun d e => ?_, fun hl => ⟨vs, z, by rw [← q2.length]; omega⟩⟩
  obtain ⟨v, ev, dv⟩ := q2.get e
  exact ⟨⟨vs, v, z, ev⟩, fun y H3 ⟨e1, e2⟩ => by
    subst e1
    have := e2 vs z
    rw [ev] at this; cases this
    exact ⟨G2, Ext.refl G2, r, dv.mono0 x⟩⟩
theorem walk_lst {K : PySem.W.Frag} {G : Gst} {a : Addr} {ds : List D} {vs : List V} (q1 : SqL K G.fz a vs) (q2 : RDs K T G ds vs) : Walk3 K T (Itl K a) G ds := fun i G2 h2 H2 x r => by
  have z : SqL K H2 a vs := SqL.sub r.sub (SqL.sub x.fz q1)
  refine ⟨fun d e => ?_, fun hl => ⟨vs, z, by rw [← q2.length]; omega⟩⟩
  obtain ⟨v, ev, dv⟩ := q2.get e
  exact ⟨⟨vs, v, z, ev⟩, fun y H3 ⟨e1, e2⟩ => by
    subst e1
    have := e2 vs z
    rw [ev] at this; cases this
    exact ⟨G2, Ext.refl G2, r, dv.mono0 x⟩⟩
theorem fi_seq {tg e : Expr} {f : FnE} (he : FE X T W e f) : FI X T W tg e (iSeq f) := by
  refine PI.imp (PI.or (pi_tup he) (pi_list he)) fun σ H Q => ?_
  rintro ⟨G, h0, δ, r, s, o⟩
  cases ef : f δ h0 with
  | stk => unfold iSeq at o; rw [ef] at o; exact o.elim
  | exc c ds h' =>
    unfold iSeq at o; rw [ef] at o
    refine .inl ⟨G, h0, δ, r, s, ?_⟩
    rw [ef]; exact o
  | ok x h' =>
    unfold iSeq at o
    rw [ef] at o
    cases x with
    | tup ds =>
      refine .inl ⟨G, h0, δ, r, s, ?_⟩
      rw [ef]
      intro G' H' v x r' d
      cases d with
      | @tup _ a vs q1 q2 => exact ⟨a, rfl, ⟨vs, SqT.sub r'.sub q1⟩, o G' H' _ x r' (walk_tup q1 q2)⟩
    | lst ds =>
      refine .inr ⟨G, h0, δ, r, s, ?_⟩
      rw [ef]
      intro G' H' v x r' d
      cases d with
      | @lst _ a vs q1 q2 => exact ⟨a, rfl, ⟨vs, .inl (.inl (r'.sub _ _ q1))⟩, o G' H' _ x r' (walk_lst (.inl (.inl q1)) q2)⟩
    | scr ds =>
      refine .inr ⟨G, h0, δ, r, s, ?_⟩
      rw [ef]
      intro G' H' v x r' d
      cases d with
      | @scr _ a vs q1 q2 => exact ⟨a, rfl, ⟨vs, SqL.sub r'.sub q1⟩, o G' H' _ x r' (walk_lst q1 q2)⟩
    | _ => exact o.elim
/-- lo, lo + 1, .. below hi -/
def rgD (lo : Int) (n : Nat) : List D := (List.range n).map fun (i : Nat) => D.int (lo + i)
theorem walk_rng {K : PySem.W.Frag} {G : Gst} {lo : Int} {n : Nat} : Walk3 K T (Itr lo n) G (rgD lo n) := fun i G2 h2 H2 x r => by
  refine ⟨fun d e => ?_, fun hl => by
    have hl' : i = n := by simpa [rgD] using hl
    exact Nat.le_of_eq hl'.symm⟩
  unfold rgD at e
  rw [List.getElem?_map] at e
  obtain ⟨j, ej, rfl⟩ := Option.map_eq_some_iff.mp e
  obtain ⟨hj, e2⟩ := List.getElem?_eq_some_iff.mp ej
  simp at e2 hj
  subst e2
  exact ⟨hj, fun y H3 ⟨e1, e3⟩ => by subst e1; subst e3; exact ⟨G2, Ext.refl G2, r, .int⟩⟩
def iRg1 (f : FnE) : FnI := fun δ h => (f δ h).bind fun x h1 => match x with
  | .int j => if -(2 ^ 62) ≤ j ∧ j < 2 ^ 62 then .ok (rgD 0 j.toNat) h1 else .stk
  | _ => .stk
def kRg2 (x y : D) (h2 : Hh) : R (List D) := match x, y with
  | .int i, .int j => if -(2 ^ 62) ≤ i ∧ i < 2 ^ 62 ∧ -(2 ^ 62) ≤ j ∧ j < 2 ^ 62 then .ok (rgD i (j - i).toNat) h2 else .stk
  | _, _ => .stk
def iRg2 (f g : FnE) : FnI := fun δ h => (f δ h).bind fun x h1 => (g δ h1).bind fun y h2 => kRg2 x y h2
theorem fi_range1 {tg a : Expr} {f : FnE} {p : Pos} (hg : Gl X "range") (hm : X.mg "range" = none) (ha : FE X T W a f) (hs : starEach [a] X.env = [(false, eval a X.env)] := by rfl) : FI X T W tg (.Call (.Name "range" p) [a] [] pos) (iRg1 f) := by
  refine PI.imp (pi_range1 hg hm (fa_cons ha fa_nil hs) hs) fun σ H Q => ?_
  rintro ⟨G, h0, δ, r, s, o⟩
  refine ⟨G, h0, δ, r, s, ?_⟩
  show okR X.K T W G σ (RDs X.K T) ((f δ h0).bind fun x h1 => R.ok [x] h1) _
  unfold iRg1 at o
  cases ef : f δ h0 with
  | stk => rw [ef] at o; exact o.elim
  | exc c ds h' => rw [ef] at o; exact o
  | ok x h' =>
    rw [ef] at o
    intro G' H' vs e r' d
    match vs, d with
    | [v], .cons q .nil =>
      cases q with
      | @int j =>
        have o' : okR X.K T W G σ (fun G ds J => Walk3 X.K T J G ds) (if -(2 ^ 62) ≤ j ∧ j < 2 ^ 62 then R.ok (rgD 0 j.toNat) h' else .stk) Q := o
        by_cases hl : -(2 ^ 62) ≤ j ∧ j < 2 ^ 62
        · rw [if_pos hl] at o'
          exact ⟨j, rfl, hl.1, hl.2, o' G' H' _ e r' walk_rng⟩
        · rw [if_neg hl] at o'; exact o'.elim
      | _ => exact o.elim
theorem fi_range2 {tg a b : Expr} {f g : FnE} {p : Pos} (hg : Gl X "range") (hm : X.mg "range" = none) (ha : FE X T W a f) (hb : FE X T W b g) (hs : starEach [a, b] X.env = [(false, eval a X.env), (false, eval b X.env)] := by rfl) (hs2 : starEach [b] X.env = [(false, eval b X.env)] := by rfl) : FI X T W tg (.Call (.Name "range" p) [a, b] [] pos) (iRg2 f g) := by
  refine PI.imp (pi_range2 hg hm (fa_cons ha (fa_cons hb fa_nil hs2) (by rw [hs, hs2])) hs hs2) fun σ H Q => ?_
  rintro ⟨G, h0, δ, r, s, o⟩
  refine ⟨G, h0, δ, r, s, ?_⟩
  show okR X.K T W G σ (RDs X.K T) ((f δ h0).bind fun x h1 => ((g δ h1).bind fun y h2 => R.ok [y] h2).bind fun xs h2 => R.ok (x :: xs) h2) _
  unfold iRg2 at o
  cases ef : f δ h0 with
  | stk => rw [ef] at o; exact o.elim
  | exc c ds h' => rw [ef] at o; exact o
  | ok x h' =>
    rw [ef] at o
    have o1 : okR X.K T W G σ (fun G ds J => Walk3 X.K T J G ds) ((g δ h').bind fun y h2 => kRg2 x y h2) Q := o
    show okR X.K T W G σ (RDs X.K T) (((g δ h').bind fun y h2 => R.ok [y] h2).bind fun xs h2 => R.ok (x :: xs) h2) _
    cases eg : g δ h' with
    | stk => rw [eg] at o1; exact o1.elim
    | exc c ds h'' => rw [eg] at o1; exact o1
    | ok y h'' =>
      rw [eg] at o1
      intro G' H' vs e r' d
      match vs, d with
      | [v, w], .cons q (.cons q' .nil) =>
        cases q with
        | @int i => cases q' with
          | @int j =>
            have o' : okR X.K T W G σ (fun G ds J => Walk3 X.K T J G ds) (if -(2 ^ 62) ≤ i ∧ i < 2 ^ 62 ∧ -(2 ^ 62) ≤ j ∧ j < 2 ^ 62 then R.ok (rgD i (j - i).toNat) h'' else .stk) Q := o1
            by_cases hl : -(2 ^ 62) ≤ i ∧ i < 2 ^ 62 ∧ -(2 ^ 62) ≤ j ∧ j < 2 ^ 62
            · rw [if_pos hl] at o'
              exact ⟨i, j, rfl, hl, o' G' H' _ e r' walk_rng⟩
            · rw [if_neg hl] at o'; exact o'.elim
          | _ => exact o1.elim
        | _ => exact o1.elim
/-! ### for -/
def loop3 (g : FnG) (u : FnS) : List D → De → Hh → RS
  | [], δ, h => .nx δ h
  | d :: ds, δ, h => match g d δ with
    | none => .stk
    | some δ1 => match u δ1 h with
      | .nx δ2 h2 => loop3 g u ds δ2 h2
      | .ct δ2 h2 => loop3 g u ds δ2 h2
      | .bk δ2 h2 => .nx δ2 h2
      | r => r
def sFor (f : FnI) (g : FnG) (u : FnS) : FnS := fun δ h => (f δ h).toS δ fun items h1 => loop3 g u items δ h1
theorem fs_for {tg iter : Expr} {body : List Stmt} {f : FnI} {is : List Nat} {g : FnG} {u : FnS} (hp : PassesOwn (model X.prog X.w) X.A X.env X.xe) (hc : X.calm = true) (hi : FI X T W tg iter f) (hg : FG X T tg is g) (hb : FSs X T W body u)
    (hs : ∀ x, foldedSetIterable iter X.env x = pure x := by intro _; rfl) : FS X T W (.For tg iter body [] pos) (sFor f g u) := by
  refine PS.imp (ps_for hp hc hi hg hb hs) fun D σ H => ?_
  rintro ⟨G, h0, δ, r, s, o⟩
  refine ⟨G, h0, δ, r, s, (okS.toS (rel := fun G ds J => Walk3 X.K T J G ds) s o).mono ?_⟩
  rintro J H1 ⟨G1, items, h1, e1, r1, w, o1⟩
  refine ⟨fun i m σ' H' => i ≤ items.length ∧ m = items.length - i ∧ ∃ G2 h2 δ2, Ext G1 G2 ∧ Rel X.K T G2 h2 H' ∧ RSl X.K T G2 δ2 σ' ∧ okS X.K T W G2 (loop3 g u (items.drop i) δ2 h2) D,
    ⟨_, Nat.zero_le _, rfl, G1, h1, δ, Ext.refl G1, r1, s.mono e1, o1⟩, ?_⟩
  rintro i m σ' H' ⟨hi', rfl, G2, h2, δ2, e2, r2, s2, o2⟩
  by_cases hlt : i < items.length
  · refine .inr ?_
    have ed : items[i]? = some items[i] := by simp [hlt]
    obtain ⟨go, yl⟩ := (w i G2 h2 H' e2.e0 r2).1 _ ed
    rw [List.drop_eq_getElem_cons hlt] at o2
    unfold loop3 at o2
    refine ⟨go, fun σ3 H3 => ∃ m', m' < items.length - i ∧ i + 1 ≤ items.length ∧ m' = items.length - (i + 1) ∧ ∃ G2 h2 δ2, Ext G1 G2 ∧ Rel X.K T G2 h2 H3 ∧ RSl X.K T G2 δ2 σ3 ∧ okS X.K T W G2 (loop3 g u (items.drop (i + 1)) δ2 h2) D,
      fun σ3 H3 ⟨m', a, b, c, d⟩ => ⟨m', a, b, c, d⟩, fun x H3 y => ?_⟩
    obtain ⟨G3, e3, r3, d3⟩ := yl x H3 y
    cases eg : g items[i] δ2 with
    | none => rw [eg] at o2; exact o2.elim
    | some δ3 =>
      rw [eg] at o2
      dsimp only at o2
      refine ⟨G3, h2, δ2, items[i], δ3, r3, s2.mono e3, d3, eg, fun σ4 s4 _ => ⟨G3, h2, δ3, r3, s4, ?_⟩⟩
      have again : ∀ {δ5 : De} {h5 : Hh}, okS X.K T W G2 (loop3 g u (items.drop (i + 1)) δ5 h5) D → ∀ G' H' σ', Ext G3 G' → Rel X.K T G' h5 H' → RSl X.K T G' δ5 σ' →
          ∃ m', m' < items.length - i ∧ i + 1 ≤ items.length ∧ m' = items.length - (i + 1) ∧ ∃ G2 h2 δ2, Ext G1 G2 ∧ Rel X.K T G2 h2 H' ∧ RSl X.K T G2 δ2 σ' ∧ okS X.K T W G2 (loop3 g u (items.drop (i + 1)) δ2 h2) D :=
        fun {δ5 h5} o5 G' H' σ' e r' s' => ⟨_, by omega, hlt, rfl, G', h5, δ5, e2.trans (e3.trans e), r', s', okS.ext (e3.trans e) o5⟩
      cases eu : u δ3 h2 with
      | nx δ5 h5 => rw [eu] at o2; exact again o2
      | ct δ5 h5 => rw [eu] at o2; exact again o2
      | bk δ5 h5 => rw [eu] at o2; exact okS.ext e3 o2
      | rt d h5 => rw [eu] at o2; exact okS.ext e3 o2
      | exc c ds δ5 h5 => rw [eu] at o2; exact okS.ext e3 o2
      | stk => rw [eu] at o2; exact o2
  · refine .inl ⟨(w i G2 h2 H' e2.e0 r2).2 (by omega), ?_⟩
    rw [List.drop_eq_nil_of_le (by omega)] at o2
    exact o2 G2 H' σ' (Ext.refl G2) r2 s2
end
end L3
set_option autoImplicit false
set_option maxHeartbeats 4000000
/-! L3F: comprehensions, defs and calls. -/
namespace L3
open PySem PySem.Spec L2
open PyProof.Rows (envOfC)
section
variable {X : Cx} {T : Tx} {W : WX} {pos : Pos}
/-! ### comprehensions -/
abbrev W0 : WX := fun _ _ _ _ => False
def wipeD (δ : De) : List Nat → De
  | [] => δ
  | v :: vs => (wipeD δ vs).set v none
theorem RSl.wipe {K : PySem.W.Frag} {G : Gst} {δ : De} {σ : L2.St} (r : RSl K T G δ σ) : ∀ vs : List Nat, RSl K T G (wipeD δ vs) (L2.wipe σ vs)
  | [] => r
  | v :: vs => (RSl.wipe r vs).unset v none
theorem wipe_get {σ : L2.St} : ∀ {vs : List Nat} {i : Nat}, i ∉ vs → (L2.wipe σ vs)[i]? = σ[i]?
  | [], _, _ => rfl
  | v :: vs, i, h => by
    have h' : i ≠ v ∧ i ∉ vs := by simpa using h
    unfold L2.wipe
    rw [List.getElem?_set_ne (Ne.symm h'.1)]
    exact wipe_get h'.2
theorem wipe_in {σ : L2.St} : ∀ {vs : List Nat} {i : Nat}, i ∈ vs → i < σ.length → (L2.wipe σ vs)[i]? = some none
  | v :: vs, i, h, hl => by
    unfold L2.wipe
    by_cases e : i = v
    · subst e
      exact List.getElem?_set_self (by rw [wipe_length]; exact hl)
    · rw [List.getElem?_set_ne (Ne.symm e)]
      exact wipe_in (by simpa [e] using h) hl
theorem wipe_same {σ σ' : L2.St} {vs is : List Nat} (o : SameOut is (L2.wipe σ vs) σ') (hs : ∀ i ∈ is, i ∈ vs) : L2.wipe σ' vs = L2.wipe σ vs := by
  have hl : σ'.length = σ.length := by rw [o.1, wipe_length]
  refine List.ext_getElem? fun i => ?_
  by_cases hi : i ∈ vs
  · by_cases h : i < σ.length
    · rw [wipe_in hi (by omega), wipe_in hi h]
    · rw [List.getElem?_eq_none (by rw [wipe_length]; omega), List.getElem?_eq_none (by rw [wipe_length]; omega)]
  · rw [wipe_get hi, o.2 i (fun m => hi (hs i m))]
def lcs (g : FnG) (t : FnT) (e : FnE) (δ : De) : List D → Hh → R (List D)
  | [], h => .ok [] h
  | d :: ds, h => match g d δ with
    | none => .stk
    | some δ1 => match t δ1 h with
      | .ok b h1 => if b = true then
          match e δ1 h1 with
          | .ok y h2 => (lcs g t e δ ds h2).bind fun ys h3 => .ok (y :: ys) h3
          | _ => .stk
        else lcs g t e δ ds h1
      | _ => .stk
def kLst (mu : Bool) (xs : List D) (h1 : Hh) : R D := if lineOk xs.length = true then (if mu = true then .ok (.ref h1.length) (h1 ++ [.lst xs]) else .ok (.lst xs) h1) else .stk
def eLc (mu : Bool) (f : FnI) (g : FnG) (t : FnT) (e : FnE) (vs : List Nat) : FnE := fun δ h => (f δ h).bind fun items h1 => (lcs g t e (wipeD δ vs) items h1).bind (kLst mu)
def tYes3 : FnT := fun _ h => .ok true h
abbrev FTs (X : Cx) (T : Tx) (W : WX) (ifs : List Expr) (t : FnT) : Prop := PTs X ifs (tT X.K T W t)
theorem fts_nil : FTs X T W [] tYes3 := ⟨fun pins s σ H Q I ⟨G, h0, δ, r, s', o⟩ => pts_nil.run pins s σ H Q I (o.at r rfl)⟩
theorem fts_one {c : Expr} {t : FnT} (h : FT X T W c t) : FTs X T W [c] t := pts_one h
/-- a list that is being made is protected -/
def Gst.guard (G : Gst) (p : Addr) (o : HO) : Gst := { G with pr := upd G.pr p o }
theorem Ext0.of {G G' : Gst} (e1 : G'.ι = G.ι) (e2 : ∀ a o, G.fz a = some o → G'.fz a = some o) : Ext0 G G' := ⟨⟨[], by simp [e1]⟩, e2⟩
theorem RO.ghost {K : PySem.W.Frag} {G : Gst} {H H' : Hp} {n : Nat} {o : O} (r : RO K T G H n o) (G' : Gst) (e1 : G'.ι = G.ι) (e2 : ∀ a o, G.fz a = some o → G'.fz a = some o) (e3 : G'.own = G.own) (hb : ∀ b, G.own b = some n → H' b = H b) : RO K T G' H' n o := by
  cases o with
  | lst ds => obtain ⟨a, vs, z1, z2, z3, z4⟩ := r; exact ⟨a, vs, by rw [e1]; exact z1, by rw [e3]; exact z2, by rw [hb _ z2]; exact z3, z4.mono0 (.of e1 e2)⟩
  | dic ks vs => obtain ⟨a, kvs, z1, z2, z3, z4, z5⟩ := r; exact ⟨a, kvs, by rw [e1]; exact z1, by rw [e3]; exact z2, by rw [hb _ z2]; exact z3, z4.mono0 (.of e1 e2), z5.mono0 (.of e1 e2)⟩
  | dit ks vs => obtain ⟨a, kvs, z1, z2, z3, z4, z5⟩ := r; exact ⟨a, kvs, by rw [e1]; exact z1, by rw [e3]; exact z2, by rw [hb _ z2]; exact z3, z4, z5.mono0 (.of e1 e2)⟩
  | obj c ds => obtain ⟨a, C, dx, nm, fs, z1, z2, z3, z4, z5, z6⟩ := r; exact ⟨a, C, dx, nm, fs, by rw [e1]; exact z1, by rw [e3]; exact z2, by rw [hb _ z2]; exact z3, z4, z5, z6.mono0 (.of e1 e2)⟩
  | src s => obtain ⟨a, z1, z2⟩ := r; exact ⟨a, by rw [e1]; exact z1, by rw [e3]; exact T.srcStay _ _ _ _ _ z2 hb⟩
  | dead => trivial
theorem RSl.ghost {K : PySem.W.Frag} {G G' : Gst} {δ : De} {σ : L2.St} (e1 : G'.ι = G.ι) (e2 : ∀ a o, G.fz a = some o → G'.fz a = some o) (r : RSl K T G δ σ) : RSl K T G' δ σ :=
  ⟨r.len, fun i d e => let ⟨v, h1, h2⟩ := r.at_ i d e; ⟨v, h1, h2.mono0 (.of e1 e2)⟩⟩
theorem Rel.guard {K : PySem.W.Frag} {G : Gst} {h : Hh} {H : Hp} (r : Rel K T G h H) {p : Addr} {o : HO} (hp : H p = none) : Rel K T (G.guard p o) h (upd H p o) := by
  have nown : ∀ b n, G.own b = some n → b ≠ p := fun b n q z => (r.own b n q).2.2 (by rw [z]; exact hp)
  refine ⟨r.len, fun a u q => ?_, fun a n q => ?_, fun a u q => ?_, fun n u q => ?_⟩
  · have := r.sub a u q
    rw [upd_ne (ne_of_none this hp)]; exact this
  · obtain ⟨h1, h2, h3⟩ := r.own a n q
    exact ⟨h1, h2, by rw [upd_ne (nown a n q)]; exact h3⟩
  · have q' : upd G.pr p o a = some u := q
    by_cases ha : a = p
    · subst ha
      rw [upd_same] at q' ⊢
      refine ⟨q', r.fzNone hp, ?_⟩
      show G.own a = none
      cases e : G.own a with
      | none => rfl
      | some n => exact absurd rfl (nown a n e)
    · rw [upd_ne ha] at q' ⊢
      exact r.pr a u q'
  · exact (r.obj n u q).ghost (G.guard p o) rfl (fun _ _ e => e) rfl fun b e => upd_ne (nown b n e)
/-- the protected list grows -/
theorem Rel.reguard {K : PySem.W.Frag} {G : Gst} {h : Hh} {H : Hp} (r : Rel K T G h H) {p : Addr} {o u : HO} (hp : G.pr p = some o) : Rel K T { G with pr := upd G.pr p u } h (upd H p u) := by
  obtain ⟨h1, h2, h3⟩ := r.pr p o hp
  have nown : ∀ b n, G.own b = some n → b ≠ p := fun b n q z => by rw [z, h3] at q; cases q
  refine ⟨r.len, fun a v q => ?_, fun a n q => ?_, fun a v q => ?_, fun n v q => ?_⟩
  · have na : a ≠ p := fun z => by rw [z, h2] at q; cases q
    rw [upd_ne na]; exact r.sub a v q
  · obtain ⟨z1, z2, z3⟩ := r.own a n q
    exact ⟨z1, z2, by rw [upd_ne (nown a n q)]; exact z3⟩
  · have q' : upd G.pr p u a = some v := q
    by_cases ha : a = p
    · subst ha
      rw [upd_same] at q' ⊢
      exact ⟨q', h2, h3⟩
    · rw [upd_ne ha] at q' ⊢
      exact r.pr a v q'
  · exact (r.obj n v q).ghost { G with pr := upd G.pr p u } rfl (fun _ _ e => e) rfl fun b e => upd_ne (nown b n e)
/-- the list is done: it never changes from now on -/
theorem Rel.unguard {K : PySem.W.Frag} {G : Gst} {h : Hh} {H : Hp} (r : Rel K T G h H) {p : Addr} {o : HO} {pr0 : Hp} (hp : G.pr p = some o) (h0 : ∀ a u, pr0 a = some u → a ≠ p ∧ G.pr a = some u) :
    Rel K T { G with pr := pr0, fz := upd G.fz p o } h H := by
  obtain ⟨h1, h2, h3⟩ := r.pr p o hp
  have nown : ∀ b n, G.own b = some n → b ≠ p := fun b n q z => by rw [z, h3] at q; cases q
  refine ⟨r.len, fun a v q => ?_, fun a n q => ?_, fun a v q => ?_, fun n v q => ?_⟩
  · have q' : upd G.fz p o a = some v := q
    by_cases ha : a = p
    · subst ha; rw [upd_same] at q'; cases q'; exact h1
    · rw [upd_ne ha] at q'; exact r.sub a v q'
  · obtain ⟨z1, z2, z3⟩ := r.own a n q
    exact ⟨z1, by show upd G.fz p o a = none; rw [upd_ne (nown a n q)]; exact z2, z3⟩
  · obtain ⟨na, q'⟩ := h0 a v q
    obtain ⟨z1, z2, z3⟩ := r.pr a v q'
    exact ⟨z1, by show upd G.fz p o a = none; rw [upd_ne na]; exact z2, z3⟩
  · refine (r.obj n v q).ghost { G with pr := pr0, fz := upd G.fz p o } rfl (fun a u e => ?_) rfl fun b e => rfl
    show upd G.fz p o a = some u
    have na : a ≠ p := fun z => by rw [z, h2] at e; cases e
    rw [upd_ne na]; exact e
/-- the list is done: it may change from now on -/
def Gst.give (G : Gst) (p : Addr) (pr0 : Hp) : Gst := { ι := G.ι ++ [p], own := fun b => if b = p then some G.ι.length else G.own b, fz := G.fz, pr := pr0 }
theorem Rel.unguardO {K : PySem.W.Frag} {G : Gst} {h : Hh} {H : Hp} {u : O} (r : Rel K T G h H) {p : Addr} {o : HO} {pr0 : Hp} (hp : G.pr p = some o) (h0 : ∀ a u, pr0 a = some u → a ≠ p ∧ G.pr a = some u)
    (ho : ∀ G', Ext0 G G' → G'.ι[h.length]? = some p → G'.own p = some h.length → (∀ b, G'.own b = some h.length → b = p) → RO K T G' H h.length u) : Ext0 G (G.give p pr0) ∧ Rel K T (G.give p pr0) (h ++ [u]) H := by
  obtain ⟨h1, h2, h3⟩ := r.pr p o hp
  have nown : ∀ b n, G.own b = some n → b ≠ p := fun b n q z => by rw [z, h3] at q; cases q
  have x0 : Ext0 G (G.give p pr0) := ⟨⟨[p], rfl⟩, fun _ _ q => q⟩
  refine ⟨x0, by simp [Gst.give, r.len], fun a v q => r.sub a v q, fun a n q => ?_, fun a v q => ?_, fun n v q => ?_⟩
  · have q' : (if a = p then some G.ι.length else G.own a) = some n := q
    by_cases ha : a = p
    · rw [if_pos ha] at q'
      cases q'
      exact ⟨by simp [r.len], by rw [ha]; exact h2, by rw [ha, h1]; simp⟩
    · rw [if_neg ha] at q'
      obtain ⟨z1, z2, z3⟩ := r.own a n q'
      exact ⟨by simp; omega, z2, z3⟩
  · obtain ⟨na, q'⟩ := h0 a v q
    obtain ⟨z1, z2, z3⟩ := r.pr a v q'
    exact ⟨z1, z2, by show (if a = p then some G.ι.length else G.own a) = none; rw [if_neg na]; exact z3⟩
  · by_cases hn : n < h.length
    · rw [List.getElem?_append_left hn] at q
      have old : ∀ b, (if b = p then some G.ι.length else G.own b) = some n → G.own b = some n := fun b z => by
        by_cases hb : b = p
        · rw [if_pos hb] at z; cases z; rw [r.len] at hn; omega
        · rw [if_neg hb] at z; exact z
      have new : ∀ b, G.own b = some n → (if b = p then some G.ι.length else G.own b) = some n := fun b z => by
        rw [if_neg (nown b n z)]; exact z
      have hi : ∀ a, G.ι[n]? = some a → (G.ι ++ [p])[n]? = some a := fun a e => by
        rw [List.getElem?_append_left (List.getElem?_eq_some_iff.mp e).1]; exact e
      have ro := r.obj n v q
      cases v with
      | lst ds => obtain ⟨a, vs, z1, z2, z3, z4⟩ := ro; exact ⟨a, vs, hi _ z1, new _ z2, z3, z4.mono0 x0⟩
      | dic ks vs => obtain ⟨a, kvs, z1, z2, z3, z4, z5⟩ := ro; exact ⟨a, kvs, hi _ z1, new _ z2, z3, z4.mono0 x0, z5.mono0 x0⟩
      | dit ks vs => obtain ⟨a, kvs, z1, z2, z3, z4, z5⟩ := ro; exact ⟨a, kvs, hi _ z1, new _ z2, z3, z4, z5.mono0 x0⟩
      | obj c ds => obtain ⟨a, C, dx, nm, fs, z1, z2, z3, z4, z5, z6⟩ := ro; exact ⟨a, C, dx, nm, fs, hi _ z1, new _ z2, z3, z4, z5, z6.mono0 x0⟩
      | src s =>
        obtain ⟨a, z1, z2⟩ := ro
        refine ⟨a, hi _ z1, ?_⟩
        have e : (fun b => (G.give p pr0).own b = some n) = (fun b => G.own b = some n) := funext fun b => propext ⟨old b, new b⟩
        rw [e]; exact z2
      | dead => trivial
    · have hn' : n = h.length := by
        have := (List.getElem?_eq_some_iff.mp q).1
        simp at this; omega
      subst hn'
      simp at q
      subst q
      refine ho _ x0 ?_ ?_ ?_
      · show (G.ι ++ [p])[h.length]? = some p
        rw [← r.len]; simp
      · show (if p = p then some G.ι.length else G.own p) = some h.length
        rw [if_pos rfl, r.len]
      · intro b z
        have z' : (if b = p then some G.ι.length else G.own b) = some h.length := z
        by_cases hb : b = p
        · exact hb
        · rw [if_neg hb] at z'
          have := (r.own b _ z').1
          omega
theorem okR.w0 {α β : Type} {K : PySem.W.Frag} {G : Gst} {σ σ' : L2.St} {rel : Gst → α → β → Prop} {x : α} {h : Hh} {Q : β → Hp → Prop} (o : ∀ G' H' v, Ext G G' → Rel K T G' h H' → rel G' x v → Q v H') : okR K T W0 G σ' rel (.ok x h) Q := o
/-- what a turn starts from: the list at p has what acc tells -/
structure LcAt (K : PySem.W.Frag) (T : Tx) (G1 : Gst) (p : Addr) (G : Gst) (acc : List D) (h : Hh) (H : Hp) : Prop where
  ι : ∃ t, G.ι = G1.ι ++ t
  fz : ∀ a o, G1.fz a = some o → G.fz a = some o
  pr : ∃ avs, G.pr = upd G1.pr p (.lst avs) ∧ RDs K T G acc avs
  rel : Rel K T G h H
theorem LcAt.ext {K : PySem.W.Frag} {G1 G : Gst} {p : Addr} {acc : List D} {h : Hh} {H : Hp} (l : LcAt K T G1 p G acc h H) : Ext G1 { G with pr := G1.pr } := ⟨l.ι, l.fz, rfl⟩
theorem LcAt.step {K : PySem.W.Frag} {G1 G G' : Gst} {p : Addr} {acc : List D} {h h' : Hh} {H H' : Hp} (l : LcAt K T G1 p G acc h H) (x : Ext G G') (r : Rel K T G' h' H') : LcAt K T G1 p G' acc h' H' := by
  obtain ⟨t, e⟩ := l.ι
  obtain ⟨u, e'⟩ := x.ι
  obtain ⟨avs, e2, d⟩ := l.pr
  exact ⟨⟨t ++ u, by rw [e', e, List.append_assoc]⟩, fun a o q => x.fz a o (l.fz a o q), ⟨avs, x.pr.trans e2, d.mono x⟩, r⟩
theorem tE_lc {mu : Bool} {f : FnI} {is : List Nat} {g : FnG} {t : FnT} {e : FnE} {own : List (Str × Nat)} (hin : ∀ i ∈ is, i ∈ own.map (·.2)) {σ : L2.St} {H : Hp} {Q : VK} (hh : tE X.K T W (eLc mu f g t e (own.map (·.2))) σ H Q) :
    tLc (tI X.K T W f) (tG X.K T is g) (tT X.K T W0 t) (tE X.K T W0 e) (own.map (·.2)) σ H Q := by
  revert hh
  rintro ⟨G, h0, δ, r, s, o⟩
  refine ⟨G, h0, δ, r, s, (okR.bind (rel := fun G ds J => Walk3 X.K T J G ds) o).mono ?_⟩
  rintro J H1 ⟨G1, items, h1, e1, r1, w, o1⟩
  intro Dn hD
  have s1 := (s.mono e1).wipe (own.map (·.2))
  refine ⟨fun i m H' => i ≤ items.length ∧ m = items.length - i ∧ ∃ G2 h2 acc, LcAt X.K T G1 Dn G2 acc h2 H' ∧ okR X.K T W G1 σ (RD X.K T) ((lcs g t e (wipeD δ (own.map (·.2))) (items.drop i) h2).bind fun ys h3 => kLst mu (acc ++ ys) h3) Q,
    ⟨_, Nat.zero_le _, rfl, G1.guard Dn (.lst []), h1, [], ⟨⟨[], by simp [Gst.guard]⟩, fun _ _ q => q, ⟨[], rfl, .nil⟩, r1.guard hD⟩, o1⟩, ?_⟩
  rintro i m H' ⟨hi', rfl, G2, h2, acc, l, o2⟩
  have x02 : Ext0 G1 G2 := ⟨l.ι, l.fz⟩
  by_cases hlt : i < items.length
  · refine .inr ?_
    have ed : items[i]? = some items[i] := by simp [hlt]
    obtain ⟨go, yl⟩ := (w i G2 h2 H' x02 l.rel).1 _ ed
    refine ⟨go, fun H3 => ∃ m', m' < items.length - i ∧ i + 1 ≤ items.length ∧ m' = items.length - (i + 1) ∧ ∃ G2 h2 acc, LcAt X.K T G1 Dn G2 acc h2 H3 ∧ okR X.K T W G1 σ (RD X.K T) ((lcs g t e (wipeD δ (own.map (·.2))) (items.drop (i + 1)) h2).bind fun ys h3 => kLst mu (acc ++ ys) h3) Q,
      fun H3 ⟨m', a, b, c, d⟩ => ⟨m', a, b, c, d⟩, fun x H3 y => ?_⟩
    obtain ⟨G3, e3, r3, d3⟩ := yl x H3 y
    have l3 := l.step e3 r3
    have s3 : RSl X.K T G3 (wipeD δ (own.map (·.2))) (L2.wipe σ (own.map (·.2))) := ⟨s1.len, fun j d q => let ⟨v, a, b⟩ := s1.at_ j d q; ⟨v, a, b.mono0 ⟨l3.ι, l3.fz⟩⟩⟩
    rw [List.drop_eq_getElem_cons hlt] at o2
    unfold lcs at o2
    cases eg : g items[i] (wipeD δ (own.map (·.2))) with
    | none => rw [eg] at o2; exact o2.elim
    | some δ3 =>
      rw [eg] at o2
      dsimp only at o2
      refine ⟨G3, h2, _, items[i], δ3, r3, s3, d3, eg, fun σ4 s4 so => ⟨wipe_same so hin, G3, h2, δ3, r3, s4, ?_⟩⟩
      cases et : t δ3 h2 with
      | stk => rw [et] at o2; exact o2.elim
      | exc c ds h' => rw [et] at o2; exact o2.elim
      | ok b h3 =>
        rw [et] at o2
        dsimp only at o2
        intro G4 H4 b' x4 r4 eb
        have eb' : b = b' := eb
        subst eb'
        have l4 := l3.step x4 r4
        cases b with
        | false =>
          rw [if_neg Bool.false_ne_true] at o2 ⊢
          exact ⟨_, by omega, hlt, rfl, G4, h3, acc, l4, o2⟩
        | true =>
          rw [if_pos rfl] at o2 ⊢
          refine ⟨G4, h3, δ3, r4, s4.mono x4, ?_⟩
          cases ee : e δ3 h3 with
          | stk => rw [ee] at o2; exact o2.elim
          | exc c ds h' => rw [ee] at o2; exact o2.elim
          | ok y h4 =>
            rw [ee] at o2
            dsimp only at o2
            intro G5 H5 v x5 r5 d5
            have l5 := l4.step x5 r5
            obtain ⟨avs, ep, dacc⟩ := l5.pr
            have hpr : G5.pr Dn = some (.lst avs) := by rw [ep, upd_same]
            obtain ⟨q1, q2, q3⟩ := r5.pr Dn _ hpr
            refine ⟨avs, q1, ?_, _, by omega, hlt, rfl, { G5 with pr := upd G5.pr Dn (.lst (avs ++ [v])) }, h4, acc ++ [y], ⟨l5.ι, l5.fz, ⟨avs ++ [v], ?_, ?_⟩, r5.reguard hpr⟩, ?_⟩
            · -- the size
              have sz : avs.length < 16777216 := by
                rw [← dacc.length]
                cases el : lcs g t e (wipeD δ (own.map (·.2))) (items.drop (i + 1)) h4 with
                | stk => rw [el] at o2; exact o2.elim
                | exc c ds h' => rw [el] at o2; exact absurd o2 (by
                    have none_exc : ∀ (ds : List D) (h : Hh) c es h', lcs g t e (wipeD δ (own.map (·.2))) ds h ≠ .exc c es h' := by
                      intro ds
                      induction ds with
                      | nil => intro h c es h' z; cases z
                      | cons a as ih =>
                        intro h c es h' z
                        unfold lcs at z
                        split at z
                        · cases z
                        · split at z
                          · split at z
                            · split at z
                              · rename_i yy hh _
                                cases zz : lcs g t e (wipeD δ (own.map (·.2))) as hh with
                                | ok a b => rw [zz] at z; cases z
                                | exc a b cc => exact ih _ _ _ _ zz
                                | stk => rw [zz] at z; cases z
                              · cases z
                            · exact ih _ _ _ _ z
                          · cases z
                    exact absurd el (none_exc _ _ _ _ _))
                | ok ys h5 =>
                  rw [el] at o2
                  have o3 : okR X.K T W G1 σ (RD X.K T) (kLst mu (acc ++ y :: ys) h5) Q := o2
                  unfold kLst at o3
                  by_cases hl : lineOk (acc ++ y :: ys).length = true
                  · have := of_decide_eq_true hl
                    rw [List.length_append, List.length_cons] at this
                    omega
                  · rw [if_neg hl] at o3; exact o3.elim
              rw [sizeLine_eq]; exact sz
            · show upd G5.pr Dn (.lst (avs ++ [v])) = upd G1.pr Dn (.lst (avs ++ [v]))
              rw [ep, upd_upd]
            · exact RDs.mono0 (G := G5) (G' := { G5 with pr := upd G5.pr Dn (.lst (avs ++ [v])) }) ⟨⟨[], (List.append_nil _).symm⟩, fun _ _ z => z⟩ (dacc.append (.cons d5 .nil))
            · have ea : ∀ (rr : R (List D)), ((rr.bind fun ys h3 => R.ok (y :: ys) h3).bind fun ys h3 => kLst mu (acc ++ ys) h3) = rr.bind fun ys h3 => kLst mu (acc ++ [y] ++ ys) h3 := fun rr => by
                cases rr with
                | ok a b => show kLst mu (acc ++ y :: a) b = kLst mu (acc ++ [y] ++ a) b; rw [List.append_assoc]; rfl
                | exc _ _ _ => rfl
                | stk => rfl
              rw [ea] at o2
              exact o2
  · refine .inl ⟨(w i G2 h2 H' x02 l.rel).2 (by omega), ?_⟩
    rw [List.drop_eq_nil_of_le (by omega)] at o2
    have o3 : okR X.K T W G1 σ (RD X.K T) (kLst mu (acc ++ []) h2) Q := o2
    rw [List.append_nil] at o3
    unfold kLst at o3
    by_cases hl : lineOk acc.length = true
    · rw [if_pos hl] at o3
      obtain ⟨avs, ep, dacc⟩ := l.pr
      have hpr : G2.pr Dn = some (.lst avs) := by rw [ep, upd_same]
      have pn : G1.pr Dn = none := by
        cases z : G1.pr Dn with
        | none => rfl
        | some u => have := (r1.pr Dn u z).1; rw [hD] at this; cases this
      obtain ⟨q1, q2, q3⟩ := l.rel.pr Dn _ hpr
      have fzm : ∀ a u, G2.fz a = some u → upd G2.fz Dn (.lst avs) a = some u := fun a u z => by
        have na : a ≠ Dn := fun y => by rw [y, q2] at z; cases z
        rw [upd_ne na]; exact z
      have hpr0 : ∀ a u, G1.pr a = some u → a ≠ Dn ∧ G2.pr a = some u := fun a u z => by
        have na : a ≠ Dn := fun y => by rw [y, pn] at z; cases z
        exact ⟨na, by rw [ep, upd_ne na]; exact z⟩
      cases mu with
      | false =>
        rw [if_neg Bool.false_ne_true] at o3
        exact o3 { G2 with pr := G1.pr, fz := upd G2.fz Dn (.lst avs) } H' (.ref Dn) ⟨l.ι, fun a u z => fzm a u (l.fz a u z), rfl⟩ (l.rel.unguard hpr hpr0) (.lst upd_same (RDs.mono0 (G := G2) (G' := { G2 with pr := G1.pr, fz := upd G2.fz Dn (.lst avs) }) ⟨⟨[], (List.append_nil _).symm⟩, fzm⟩ dacc))
      | true =>
        rw [if_pos rfl] at o3
        obtain ⟨x5, r5⟩ := l.rel.unguardO (u := .lst acc) hpr hpr0 fun G' x hi ho _ => ⟨Dn, avs, hi, ho, q1, dacc.mono0 x⟩
        obtain ⟨tt, et⟩ := l.ι
        refine o3 (G2.give Dn G1.pr) H' (.ref Dn) ⟨⟨tt ++ [Dn], ?_⟩, fun a u z => l.fz a u z, rfl⟩ r5 (.ref ?_)
        · show G2.ι ++ [Dn] = G1.ι ++ (tt ++ [Dn])
          rw [et, List.append_assoc]
        · show (G2.ι ++ [Dn])[h2.length]? = some Dn
          rw [← l.rel.len]; simp
    · rw [if_neg hl] at o3; exact o3.elim
theorem fe_lc {mu : Bool} {elt tg iter : Expr} {ifs : List Expr} {scope : Scope} {own : List (Str × Nat)} {f : FnI} {is : List Nat} {g : FnG} {t : FnT} {e : FnE} (hc : X.calm = true) (hN : X.N.Nodup) (hi : FI X T W tg iter f) (ok : BlkOk X.N X.env.scope scope own)
    (hg : ∀ (s : Shared) (H : Hp) (C : Addr) (cl : List (Str × Addr)) (fp : List Addr), FG (X.blk s H scope (compEnvC scope cl C X.env) fp) T tg is g) (ht : ∀ (s : Shared) (H : Hp) (C : Addr) (cl : List (Str × Addr)) (fp : List Addr), FTs (X.blk s H scope (compEnvC scope cl C X.env) fp) T W0 ifs t)
    (he : ∀ (s : Shared) (H : Hp) (C : Addr) (cl : List (Str × Addr)) (fp : List Addr), FE (X.blk s H scope (compEnvC scope cl C X.env) fp) T W0 elt e) (hin : ∀ i ∈ is, i ∈ own.map (·.2)) (hs : ∀ x, foldedSetIterable iter X.env x = pure x := by intro _; rfl) :
    FE X T W (.ListComp elt [⟨tg, iter, ifs, 0⟩] scope pos) (eLc mu f g t e (own.map (·.2))) :=
  PE.imp (pe_lc (wi := tI X.K T W f) (g := tG X.K T is g) (tt := tT X.K T W0 t) (te := tE X.K T W0 e) hc hN hi ok hg ht he hs) fun _ _ _ hh => tE_lc hin hh
/-- name = [..] on one line, a local -/
theorem fs_setLc {mu : Bool} {i : Nat} {y : Str} {py spos : Pos} {elt tg iter : Expr} {ifs : List Expr} {scope : Scope} {own : List (Str × Nat)} {f : FnI} {is : List Nat} {g : FnG} {t : FnT} {e : FnE} (hc : X.calm = true) (hN : X.N.Nodup) (hy : X.N[i]? = some y) (hyl : X.env.scope.names.lookup y = some .local)
    (hsw : swapsWith (.ListComp elt [⟨tg, iter, ifs, 0⟩] scope pos) (some (.Name y py)) spos.line X.env = pure true) (hi : FI X T W tg iter f) (ok : BlkOk X.N X.env.scope scope own)
    (hg : ∀ (s : Shared) (H : Hp) (C : Addr) (cl : List (Str × Addr)) (fp : List Addr), FG (X.blk s H scope (compEnvC scope cl C X.env) fp) T tg is g) (ht : ∀ (s : Shared) (H : Hp) (C : Addr) (cl : List (Str × Addr)) (fp : List Addr), FTs (X.blk s H scope (compEnvC scope cl C X.env) fp) T W0 ifs t)
    (he : ∀ (s : Shared) (H : Hp) (C : Addr) (cl : List (Str × Addr)) (fp : List Addr), FE (X.blk s H scope (compEnvC scope cl C X.env) fp) T W0 elt e) (hin : ∀ i ∈ is, i ∈ own.map (·.2)) (hs : ∀ x, foldedSetIterable iter X.env x = pure x := by intro _; rfl) :
    FS X T W (.Assign [.Name y py] (.ListComp elt [⟨tg, iter, ifs, 0⟩] scope pos) spos) (sSet i (eLc mu f g t e (own.map (·.2)))) := by
  refine PS.imp (ps_setLc (wi := tI X.K T W f) (g := tG X.K T is g) (tt := tT X.K T W0 t) (te := tE X.K T W0 e) hc hN hy hyl hsw hi ok hg ht he hs) fun D σ H h => ?_
  refine tE_lc (mu := mu) hin ?_
  exact tS.bind (k := fun δ x h1 => .nx (δ.set i (some x)) h1) h fun G δ x w h1 H1 r1 s1 d1 o1 => o1 G H1 _ (Ext.refl G) r1 (s1.set d1 i)
/-! ### defs -/
abbrev Sem3 := List D → Hh → R D
def sp3 (K : PySem.W.Frag) (T : Tx) (np : Nat) (sem : Sem3) : Sp := fun vs H Q E => vs.length = np ∧ ∃ G h ds, Rel K T G h H ∧ RDs K T G ds vs ∧ okR K T (fun c d _ H => E c d H) G [] (RD K T) (sem ds h) Q
def startD (n : Nat) (ds : List D) : De := ds.map some ++ List.replicate (n - ds.length) none
def endD (r : RS) : R D := match r with
  | .nx _ h => .ok .non h
  | .rt d h => .ok d h
  | .exc c ds _ h => .exc c ds h
  | _ => .stk
/-- a def with n names -/
def runD (n : Nat) (u : FnS) : Sem3 := fun ds h => endD (u (startD n ds) h)
/-- room, and nothing is being shown by a repr -/
structure RoomG (k : Nat) (A : Around) : Prop where
  r : Room k A
  g : A.guards = some []
theorem RoomG.mono {j k : Nat} {A : Around} (x : RoomG k A) (h : j ≤ k) : RoomG j A := ⟨x.r.mono h, x.g⟩
theorem RoomG.units {k : Nat} {A : Around} (x : RoomG k A) : A.units + 64 < cLine := x.r.units
/-- a def's promise, where nothing is being shown -/
structure FnQ (P : Program) (w : World) (K : PySem.W.Frag) (mg : Str → Option Value) (base : Heap) (CX : CXT) (k : Nat) (f : Addr) (fd : FuncData) (ps : List Str) (sp : Sp) : Prop where
  size : ∀ vs H Q E, sp vs H Q E → vs.length = ps.length
  go : ∀ (A : Around) (outer : List Env) (s : Shared) (H : Hp) (args : Args) (us : List Value) (vs : List V) (Q : VK) (E : XK), RoomG k A → Env0 P w K mg base A outer s H → BindsTo s fd args (ps.zip us) → Vals vs us → sp vs H Q E →
    codeAny (model P w) A (.call (.ref f) args) (CR CX outer P w H s Q E) s
abbrev FnL (P : Program) (w : World) (K : PySem.W.Frag) (mg : Str → Option Value) (base : Heap) (T : Tx) (k : Nat) (f : Addr) (fd : FuncData) (ps : List Str) (sem : Sem3) : Prop := FnQ P w K mg base (L2.CX P w) k f fd ps (sp3 K T ps.length sem)
theorem fnQ_of {CX : CXT} {P : Program} {w : World} {K : PySem.W.Frag} {mg : Str → Option Value} {base : Heap} {k : Nat} {f : Addr} {x qual : Str} {params : Arguments} {body : List Stmt} {scope : Scope} {dvs : List V} {kws : List (Str × V)} {fd : FuncData} {N ps : List Str} {sp : Sp}
    (F : FunD K x qual params body scope dvs kws f fd) (S : FnScope N ps scope) (size : ∀ vs H Q E, sp vs H Q E → vs.length = ps.length)
    (hb : ∀ (cdv : Value) (A : Around) (outer : List Env) (s : Shared) (H : Hp) (vs : List V) (Q : VK) (E : XK), RoomG k (A.deeper (envOfC qual scope s.heap.objs.size f cdv)) → sp vs H Q E →
      ∃ t, PSs (cxOf CX P w K mg base N qual scope f cdv A outer s H E) body t ∧ t { nx := fun _ H' => Q .non H', rt := Q } (L2.start N vs) H) : FnQ P w K mg base CX (k + 1) f fd ps sp := by
  obtain ⟨oc, od, dV, kV, doc, pm, an, cdv, ct, osl, rfl, lk, hcd, _, _⟩ := F.ex
  refine ⟨size, fun A outer s H args us vs Q E room e0 bd r hsp => ?_⟩
  have many := size _ _ _ _ hsp
  have here : K.In s.heap := e0.mod.kin.keeps fun b o e => (e0.bs b o e).1
  have free : s.heap.NoLimit := e0.mod.nolimit.keeps fun b o e => (e0.bs b o e).1
  have kinds : ∀ y ∈ ps.zip us, scope.names.lookup y.1 = some .local ∨ (scope.names.lookup y.1 = some .cell ∧ ((cellsFrom (s.heap.objs.size + 1) scope.names []).lookup y.1).isSome = true) := by
    rintro ⟨n, v⟩ hy
    exact (S.par n (List.of_mem_zip hy).1).elim .inl fun q => .inr ⟨q, PySem.W.cellsFrom_some _ _ _ (.inl q)⟩
  refine codeAny_call_function room.r.depth (here _ _ lk) rfl S.co S.gen rfl (PySem.W.codeRec_of here hcd) (bd _ _ _ _ (wpAny_newFunctionEnv_cells S.kind kinds fun env he s1 z => ?_))
  cases he
  refine ⟨free.keeps z.toInCall.keep, codeAny_func ?_⟩
  obtain ⟨t, ht, ends⟩ := hb cdv A outer s H vs Q E ⟨room.r.deeper _, room.g⟩ hsp
  have J := inv_start (CX := CX) (P := P) (w := w) (mg := mg) (base := base) (qual := qual) (f := f) (cd := cdv) (E := E) S room.r.hd e0 many r z
  refine wpAny_mono (ht.run [] s1 (L2.start N vs) H _ J ends) (fun fl s' q => ?_) fun e s' q => q
  match fl, q with
  | .ret u, ⟨v, σ', H', J', rv, q⟩ => exact (⟨v, H', J'.os, J'.bare, J'.base, J'.hok, rv, q⟩ : CE outer P w H s Q u s')
  | .next, ⟨σ', H', J', q⟩ => exact (⟨V.non, H', J'.os, J'.bare, J'.base, J'.hok, rfl, q⟩ : CE outer P w H s Q Value.none s')
  | .brk, ⟨_, _, _, q⟩ => exact q.elim
  | .cont, ⟨_, _, _, q⟩ => exact q.elim
/-- the call -/
theorem runG {X : Cx} {CX : CXT} {k : Nat} {f : Addr} {fd : FuncData} {ps : List Str} {sp : Sp} {ds : List Value} {dvs : List V} {E : L2.St → XK} {pins : List (Addr × Obj)} {σ : L2.St} {H : Hp} {s : Shared} {Q : VK} {us : List Value} {vs : List V} (F : FnQ X.prog X.w X.K X.mg X.base CX k f fd ps sp) (hr : RoomG k X.A) (bd : Binds X.K fd ps ds) (hd : Vals dvs ds)
    (hx : PassesAt CX X σ (E σ)) (I : Inv X pins σ H s) (r : Vals vs us) (h : sp (vs ++ dvs) H Q (E σ)) : wpAny (model X.prog X.w) X.A (call (.ref f) us) (EP X pins σ Q) X.xe s := by
  have all := r.append hd
  refine wpAny_call (codeAny_mono (F.go X.A X.stack s H ⟨us, []⟩ (us ++ ds) (vs ++ dvs) Q (E σ) hr I.env0 (bd s us I.kIn ?_) all h) fun res s' q => ?_)
  · rw [← all.length]; exact F.size _ _ _ _ h
  · match res, q with
    | .error e, q => exact hx pins H s e s' I q
    | .ok (.ret u), q => exact I.after q
    | .ok .next, q => exact q.elim
    | .ok .brk, q => exact q.elim
    | .ok .cont, q => exact q.elim
theorem RSl.start {K : PySem.W.Frag} {G : Gst} {ds : List D} {vs : List V} (r : RDs K T G ds vs) (N : List Str) : RSl K T G (startD N.length ds) (L2.start N vs) := by
  refine ⟨?_, fun i d e => ?_⟩
  · unfold startD L2.start
    simp [r.length]
  · unfold startD at e
    by_cases hi : i < ds.length
    · rw [List.getElem?_append_left (by simpa using hi), List.getElem?_map] at e
      obtain ⟨d', e1, e2⟩ := Option.map_eq_some_iff.mp e
      cases e2
      obtain ⟨v, ev, dv⟩ := r.get e1
      refine ⟨v, ?_, dv⟩
      unfold L2.start
      rw [List.getElem?_append_left (by simpa [r.length] using (List.getElem?_eq_some_iff.mp ev).1), List.getElem?_map, ev]
      rfl
    · rw [List.getElem?_append_right (by simpa using hi), List.getElem?_replicate] at e
      split at e <;> cases e
theorem def_read {K : PySem.W.Frag} {N : List Str} {np : Nat} {u : FnS} {vs : List V} {H : Hp} {Q : VK} {E : XK} (h : sp3 K T np (runD N.length u) vs H Q E) :
    tS K T (fun c d _ H => E c d H) u { nx := fun _ H' => Q .non H', rt := Q } (L2.start N vs) H := by
  obtain ⟨_, G, h0, ds, r, rd, o⟩ := h
  refine ⟨G, h0, startD N.length ds, r, RSl.start rd N, ?_⟩
  unfold runD at o
  cases e : u (startD N.length ds) h0 with
  | nx δ h' => rw [e] at o; exact fun G' H' σ' x r' _ => o G' H' .non x r' .non
  | rt d h' => rw [e] at o; exact o
  | bk δ h' => rw [e] at o; exact o.elim
  | ct δ h' => rw [e] at o; exact o.elim
  | exc c ds δ h' => rw [e] at o; exact fun G' H' σ' cls dd x r' _ z => o G' H' cls dd x r' z
  | stk => rw [e] at o; exact o.elim
/-! ### calls -/
def kCall (np : Nat) (sem : Sem3) (dds : List D) (ds : List D) (h1 : Hh) : R D := if (ds ++ dds).length = np then sem (ds ++ dds) h1 else .stk
def eCall (np : Nat) (sem : Sem3) (fa : FnA) (dds : List D) : FnE := fun δ h => (fa δ h).bind (kCall np sem dds)
/-- defaults -/
structure Dfl (K : PySem.W.Frag) (T : Tx) (dds : List D) (dvs : List V) (us : List Value) : Prop where
  rel : ∀ G, RDs K T G dds dvs
  val : Vals dvs us
theorem Dfl.nil {K : PySem.W.Frag} : Dfl K T [] [] [] := ⟨fun _ => .nil, .nil⟩
theorem Dfl.cons {K : PySem.W.Frag} {d : D} {v : V} {u : Value} {dds : List D} {dvs : List V} {us : List Value} (h : Cst K T d v) (r : RelV v u) (t : Dfl K T dds dvs us) : Dfl K T (d :: dds) (v :: dvs) (u :: us) := ⟨fun G => .cons (h G) (t.rel G), .cons r t.val⟩
theorem sp3_of {K : PySem.W.Frag} {np : Nat} {sem : Sem3} {G : Gst} {h : Hh} {H : Hp} {ds dds : List D} {vs dvs : List V} {us : List Value} {Q : VK} {σ : L2.St} (D0 : Dfl K T dds dvs us) (r : Rel K T G h H) (d : RDs K T G ds vs) (o : okR K T W G σ (RD K T) (kCall np sem dds ds h) Q) : sp3 K T np sem (vs ++ dvs) H Q (WE W σ) := by
  unfold kCall at o
  have dd := d.append (D0.rel G)
  by_cases hl : (ds ++ dds).length = np
  · rw [if_pos hl] at o
    refine ⟨by rw [← dd.length]; exact hl, G, h, ds ++ dds, r, dd, ?_⟩
    cases e : sem (ds ++ dds) h with
    | ok y hh => rw [e] at o; exact o
    | exc c es hh => rw [e] at o; exact o
    | stk => rw [e] at o; exact o.elim
  · rw [if_neg hl] at o; exact o.elim
theorem fe_call {np : Nat} {x : Str} {p : Pos} {e : Expr} {es : List Expr} {k : Nat} {f : Addr} {fd : FuncData} {ps : List Str} {sem : Sem3} {fa : FnA} {dds : List D} {dvs : List V} {us : List Value} (tk : Takes X W) (F : FnL X.prog X.w X.K X.mg X.base T k f fd ps sem) (hr : RoomG k X.A) (hg : Gl X x) (hm : X.mg x = some (.ref f)) (hk : PySem.W.keepIn X.K (.ref f) = true)
    (hb : Binds X.K fd ps us) (D0 : Dfl X.K T dds dvs us) (ha : FA X T W (e :: es) fa) (hdb : (x == ("__debug__" : Str)) = false := by decide) (he : starEach (e :: es) X.env = (false, eval e X.env) :: starEach es X.env := by rfl) (hpl : (backTo pos (starEach es X.env)).any (·.1) = false := by rfl)  (hnp : ps.length = np := by rfl) :
    FE X T W (.Call (.Name x p) (e :: es) [] pos) (eCall np sem fa dds) := by
  subst hnp
  refine ⟨fun pins s σ H Q I h => ?_⟩
  have h' : tA X.K T W fa σ H fun vs H1 => sp3 X.K T ps.length sem (vs ++ dvs) H1 Q (WE W σ) :=
    tF.bind (k := fun _ => kCall ps.length sem dds) h fun G δ ds vs h1 H1 r1 s1 d1 o1 => sp3_of D0 r1 d1 o1
  refine wpAny_Call_Name_kw (ld_glob I hg hm (PySem.W.callWith_K (h₀ := X.base) I.ok.mod.kin hk (thn (ha.run pos pins s σ H _ I h') fun us s1 ⟨vs, H1, I1, r, q⟩ => ⟨I1.kIn, ?_⟩) he hpl) hdb)
  exact runG (E := WE W) F hr hb D0.val (passAt tk σ) I1 r q
theorem fe_call0 {np : Nat} {x : Str} {p : Pos} {k : Nat} {f : Addr} {fd : FuncData} {ps : List Str} {sem : Sem3} {dds : List D} {dvs : List V} {us : List Value} (tk : Takes X W) (F : FnL X.prog X.w X.K X.mg X.base T k f fd ps sem) (hr : RoomG k X.A) (hg : Gl X x) (hm : X.mg x = some (.ref f)) (hk : PySem.W.keepIn X.K (.ref f) = true)
    (hb : Binds X.K fd ps us) (D0 : Dfl X.K T dds dvs us) (hdb : (x == ("__debug__" : Str)) = false := by decide) (hnp : ps.length = np := by rfl) : FE X T W (.Call (.Name x p) [] [] pos) (eCall np sem aNil dds) := by
  subst hnp
  refine ⟨fun pins s σ H Q I h => ?_⟩
  refine wpAny_Call_Name_kw (ld_glob I hg hm ?_ hdb)
  refine PySem.W.callWith_K0 I.kIn hk (runG (us := []) (vs := []) (E := WE W) F hr hb D0.val (passAt tk σ) I .nil ?_)
  obtain ⟨G, h0, δ, r, s', o⟩ := h
  exact sp3_of (ds := []) D0 r .nil o
/-- a method of an instance of one class -/
structure MethOk (X : Cx) (T : Tx) (c : Nat) (C : Addr) (m : Str) (f : Addr) : Prop where
  cls : ∃ nm, T.cls c = some (C, nm) ∧ m ∉ nm
  cl : Cls X.K C
  meth : Meth X.K C m f
/-- an instance's class -/
def clsOf (h : Hh) : D → Option Nat
  | .obj c _ => some c
  | .ref n => match h[n]? with
    | some (.obj c _) => some c
    | _ => none
  | _ => none
theorem clsOf_ok {K : PySem.W.Frag} {G : Gst} {h : Hh} {H : Hp} {d : D} {v : V} {c : Nat} (r : Rel K T G h H) (d1 : RD K T G d v) (e : clsOf h d = some c) : ∃ a C dx nm fs, v = .ref a ∧ H a = some (.ins C dx fs) ∧ T.cls c = some (C, nm) ∧ ∀ g ∈ fs.map (·.1), g ∈ nm := by
  cases d1 with
  | @obj c' ds a C dx nm fs h1 hc hn q => cases e; exact ⟨a, C, dx, nm, fs, rfl, r.sub _ _ h1, hc, fun g hg => by rw [← hn]; exact hg⟩
  | @ref n a h1 =>
    unfold clsOf at e
    dsimp only at e
    cases q : h[n]? with
    | none => rw [q] at e; cases e
    | some o =>
      rw [q] at e
      cases o with
      | obj c' ds =>
        cases e
        obtain ⟨a', C, dx, nm, fs, e1, e2, e3, e4, e5, e6⟩ := r.obj n _ q
        rw [h1] at e1; cases e1
        exact ⟨a, C, dx, nm, fs, rfl, e3, e4, fun g hg => by rw [e5] at hg; exact List.mem_of_mem_take hg⟩
      | _ => cases e
  | _ => cases e
theorem look_none {f : Str} : ∀ {fs : List (Str × V)}, f ∉ fs.map (·.1) → fs.lookup f = none
  | [], _ => rfl
  | (g, y) :: r, h => by
    have h' : ¬ f = g ∧ f ∉ r.map (·.1) := by simpa using h
    have b : (f == g) = false := beq_eq_false_iff_ne.mpr h'.1
    simp only [List.lookup, b]
    exact look_none h'.2
def kMeth (c : Nat) (np : Nat) (sem : Sem3) (fa : FnA) (dds : List D) (δ : De) (x : D) (h1 : Hh) : R D := if clsOf h1 x = some c then (fa δ h1).bind fun ds h2 => kCall np sem dds (x :: ds) h2 else .stk
def eMeth (c : Nat) (np : Nat) (sem : Sem3) (fo : FnE) (fa : FnA) (dds : List D) : FnE := fun δ h => (fo δ h).bind (kMeth c np sem fa dds δ)
theorem fe_meth {np : Nat} {c : Nat} {C : Addr} {m : Str} {o e : Expr} {es : List Expr} {apos : Pos} {k : Nat} {f : Addr} {fd : FuncData} {ps : List Str} {sem : Sem3} {fo : FnE} {fa : FnA} {dds : List D} {dvs : List V} {us : List Value} {pl : Sem Bool} (tk : Takes X W) (M : MethOk X T c C m f) (F : FnL X.prog X.w X.K X.mg X.base T k f fd ps sem) (hr : RoomG k X.A)
    (hb : Binds X.K fd ps us) (D0 : Dfl X.K T dds dvs us) (ho : FE X T W o fo) (ha : FA X T W (e :: es) fa)
    (hst : starEach (e :: es) X.env = (false, eval e X.env) :: starEach es X.env := by rfl) (hpl : (backTo pos (starEach es X.env)).any (·.1) = false := by rfl)
    (ht : eval (.Call (.Attribute o m apos) (e :: es) [] pos) X.env = (do
      let ov ← eval o X.env
      standAt apos.atName
      let (f, first) ← holding [ov] (getMethod ov m pl)
      callWith pos f first (backTo pos (starEach (e :: es) X.env)) (backToKw pos (keywordEach [] X.env))) := by rfl)  (hnp : ps.length = np := by rfl) :
    FE X T W (.Call (.Attribute o m apos) (e :: es) [] pos) (eMeth c np sem fo fa dds) := by
  subst hnp
  refine ⟨fun pins s σ H Q I h => ?_⟩
  obtain ⟨nm, hcl, hnm⟩ := M.cls
  have h' : tE X.K T W fo σ H fun x H1 => ∃ a dx fs, x = .ref a ∧ H1 a = some (.ins C dx fs) ∧ fs.lookup m = none ∧ tA X.K T W fa σ H1 fun vs H2 => sp3 X.K T ps.length sem (x :: (vs ++ dvs)) H2 Q (WE W σ) := by
    obtain ⟨G, h0, δ, r, s', oo⟩ := h
    refine ⟨G, h0, δ, r, s', (okR.bind (rel := RD X.K T) oo).mono ?_⟩
    rintro v H1 ⟨G1, x, h1, e1, r1, d1, o1⟩
    unfold kMeth at o1
    by_cases hc : clsOf h1 x = some c
    · rw [if_pos hc] at o1
      obtain ⟨a, C', dx, nm', fs, rfl, q1, q2, q3⟩ := clsOf_ok r1 d1 hc
      rw [hcl] at q2; cases q2
      refine ⟨a, dx, fs, rfl, q1, look_none fun z => hnm (q3 _ z), G1, h1, δ, r1, s'.mono e1, (okR.bind (rel := RDs X.K T) o1).mono ?_⟩
      rintro vs H2 ⟨G2, ds, h2, e2, r2, d2, o2⟩
      exact sp3_of (ds := x :: ds) (vs := .ref a :: vs) D0 r2 (.cons (d1.mono e2) d2) o2
    · rw [if_neg hc] at o1; exact o1.elim
  refine PySem.W.methodCall_KW (pl := pl) (thn (ho.run pins s σ H _ I h') fun u s1 ⟨x, H1, I1, rx, a, dx, fs, ex, ea, l, q⟩ => ?_) ht
  subst ex
  obtain rfl : u = Value.ref a := rx
  refine getmeth_ok I1 ea M.cl M.meth l ?_
  refine PySem.W.callWith_K (first := [.ref a]) (h₀ := X.base) I.ok.mod.kin M.meth.kp (thn (ha.run pos pins s1 σ H1 _ I1 q) fun us s2 ⟨vs, H2, I2, r, q2⟩ => ⟨I2.kIn, ?_⟩) hst hpl
  exact runG (us := .ref a :: us) (vs := .ref a :: vs) (E := WE W) F hr hb D0.val (passAt tk σ) I2 (.cons rfl r) q2
theorem fe_meth0 {np : Nat} {c : Nat} {C : Addr} {m : Str} {o : Expr} {apos : Pos} {k : Nat} {f : Addr} {fd : FuncData} {ps : List Str} {sem : Sem3} {fo : FnE} {dds : List D} {dvs : List V} {us : List Value} {pl : Sem Bool} (tk : Takes X W) (M : MethOk X T c C m f) (F : FnL X.prog X.w X.K X.mg X.base T k f fd ps sem) (hr : RoomG k X.A)
    (hb : Binds X.K fd ps us) (D0 : Dfl X.K T dds dvs us) (ho : FE X T W o fo)
    (ht : eval (.Call (.Attribute o m apos) [] [] pos) X.env = (do
      let ov ← eval o X.env
      standAt apos.atName
      let (f, first) ← holding [ov] (getMethod ov m pl)
      callWith pos f first (backTo pos (starEach [] X.env)) (backToKw pos (keywordEach [] X.env))) := by rfl)  (hnp : ps.length = np := by rfl) :
    FE X T W (.Call (.Attribute o m apos) [] [] pos) (eMeth c np sem fo aNil dds) := by
  subst hnp
  refine ⟨fun pins s σ H Q I h => ?_⟩
  obtain ⟨nm, hcl, hnm⟩ := M.cls
  have h' : tE X.K T W fo σ H fun x H1 => ∃ a dx fs, x = .ref a ∧ H1 a = some (.ins C dx fs) ∧ fs.lookup m = none ∧ sp3 X.K T ps.length sem (x :: dvs) H1 Q (WE W σ) := by
    obtain ⟨G, h0, δ, r, s', oo⟩ := h
    refine ⟨G, h0, δ, r, s', (okR.bind (rel := RD X.K T) oo).mono ?_⟩
    rintro v H1 ⟨G1, x, h1, e1, r1, d1, o1⟩
    unfold kMeth at o1
    by_cases hc : clsOf h1 x = some c
    · rw [if_pos hc] at o1
      obtain ⟨a, C', dx, nm', fs, rfl, q1, q2, q3⟩ := clsOf_ok r1 d1 hc
      rw [hcl] at q2; cases q2
      exact ⟨a, dx, fs, rfl, q1, look_none fun z => hnm (q3 _ z), sp3_of (ds := [x]) (vs := [.ref a]) D0 r1 (.cons d1 .nil) o1⟩
    · rw [if_neg hc] at o1; exact o1.elim
  refine PySem.W.methodCall_KW (pl := pl) (thn (ho.run pins s σ H _ I h') fun u s1 ⟨x, H1, I1, rx, a, dx, fs, ex, ea, l, q⟩ => ?_) ht
  subst ex
  obtain rfl : u = Value.ref a := rx
  refine getmeth_ok I1 ea M.cl M.meth l ?_
  exact PySem.W.callWith_K0 (first := [.ref a]) I1.kIn M.meth.kp (runG (us := [.ref a]) (vs := [.ref a]) (E := WE W) F hr hb D0.val (passAt tk σ) I1 (.cons rfl .nil) q)
end
end L3
set_option autoImplicit false
set_option maxHeartbeats 4000000
/-! L3G: making instances, properties, built-ins. -/
namespace L3
open PySem PySem.Spec L2
section
variable {X : Cx} {T : Tx} {W : WX} {pos : Pos}
/-! ### C(..) -/
/-- the instance is done: it never changes from now on -/
theorem Rel.freeze {K : PySem.W.Frag} {G : Gst} {h : Hh} {H : Hp} (r : Rel K T G h H) {n : Nat} {a : Addr} {o : HO} (hn : n < h.length) (ha : G.own a = some n) (hH : H a = some o) :
    Rel K T { G with own := fun b => if b = a then none else G.own b, fz := upd G.fz a o } (h.set n .dead) H ∧ Ext G { G with own := fun b => if b = a then none else G.own b, fz := upd G.fz a o } := by
  obtain ⟨_, f0, _⟩ := r.own a n ha
  have fzm : ∀ b u, G.fz b = some u → upd G.fz a o b = some u := fun b u z => by
    have nb : b ≠ a := fun y => by rw [y, f0] at z; cases z
    rw [upd_ne nb]; exact z
  have x : Ext G { G with own := fun b => if b = a then none else G.own b, fz := upd G.fz a o } := ⟨⟨[], by simp⟩, fzm, rfl⟩
  refine ⟨⟨by simpa using r.len, fun b v q => ?_, fun b m q => ?_, fun b v q => ?_, fun m v q => ?_⟩, x⟩
  · have q' : upd G.fz a o b = some v := q
    by_cases hb : b = a
    · subst hb; rw [upd_same] at q'; cases q'; exact hH
    · rw [upd_ne hb] at q'; exact r.sub b v q'
  · have q' : (if b = a then none else G.own b) = some m := q
    by_cases hb : b = a
    · rw [if_pos hb] at q'; cases q'
    · rw [if_neg hb] at q'
      obtain ⟨h1, h2, h3⟩ := r.own b m q'
      exact ⟨by simpa using h1, by show upd G.fz a o b = none; rw [upd_ne hb]; exact h2, h3⟩
  · obtain ⟨h1, h2, h3⟩ := r.pr b v q
    have nb : b ≠ a := fun y => by rw [y, ha] at h3; cases h3
    exact ⟨h1, by show upd G.fz a o b = none; rw [upd_ne nb]; exact h2, by show (if b = a then none else G.own b) = none; rw [if_neg nb]; exact h3⟩
  · by_cases hm : m = n
    · subst hm
      rw [List.getElem?_set_self hn] at q
      cases q
      trivial
    · rw [List.getElem?_set_ne (Ne.symm hm)] at q
      have keep : ∀ b, G.own b = some m → b ≠ a := fun b z y => by rw [y, ha] at z; cases z; exact hm rfl
      refine (r.obj m v q).stay x (fun b z => ?_) (fun b z => rfl) (fun b z => ?_)
      · show (if b = a then none else G.own b) = some m
        rw [if_neg (keep b z)]; exact z
      · have z' : (if b = a then none else G.own b) = some m := z
        by_cases hb : b = a
        · rw [if_pos hb] at z'; cases z'
        · rw [if_neg hb] at z'; exact z'
/-- an own class that is made by an __init__ -/
structure MakeOk (X : Cx) (T : Tx) (c : Nat) (C : Addr) (f : Addr) (na : Nat) : Prop where
  cls : ∃ nm, T.cls c = some (C, nm) ∧ nm.length = na
  make : Mk X.K C f
def endMake (c na n : Nat) (r : R D) : R D := match r with
  | .ok .non h2 => match h2[n]? with
    | some (.obj c' es) => if c' = c ∧ es.length = na then .ok (.obj c es) (h2.set n .dead) else .stk
    | _ => .stk
  | .exc c ds h => .exc c ds h
  | _ => .stk
/-- what is made, frozen -/
def kMake (c na np : Nat) (sem : Sem3) (dds ds : List D) (h1 : Hh) : R D := if (D.ref h1.length :: (ds ++ dds)).length = np then
  endMake c na h1.length (sem (.ref h1.length :: (ds ++ dds)) (h1 ++ [.obj c []])) else .stk
def eMake (c na np : Nat) (sem : Sem3) (fa : FnA) (dds : List D) : FnE := fun δ h => (fa δ h).bind (kMake c na np sem dds)
theorem Rel.track {K : PySem.W.Frag} {G : Gst} {h : Hh} {H : Hp} (r : Rel K T G h H) {p : Addr} {o : HO} (hp : H p = none) : Rel K T G h (upd H p o) := by
  have nown : ∀ b n, G.own b = some n → b ≠ p := fun b n q z => (r.own b n q).2.2 (by rw [z]; exact hp)
  refine ⟨r.len, fun a u q => ?_, fun a n q => ?_, fun a u q => ?_, fun n u q => ?_⟩
  · have := r.sub a u q
    rw [upd_ne (ne_of_none this hp)]; exact this
  · obtain ⟨h1, h2, h3⟩ := r.own a n q
    exact ⟨h1, h2, by rw [upd_ne (nown a n q)]; exact h3⟩
  · obtain ⟨h1, h2, h3⟩ := r.pr a u q
    exact ⟨by rw [upd_ne (ne_of_none h1 hp)]; exact h1, h2, h3⟩
  · exact (r.obj n u q).ghost G rfl (fun _ _ e => e) rfl fun b e => upd_ne (nown b n e)
theorem make_read {c na np : Nat} {C : Addr} {sem : Sem3} {nm : List Str} {dds ds : List D} {dvs vs : List V} {us : List Value} {G1 : Gst} {h1 : Hh} {H1 : Hp} {σ : L2.St} {Q : VK} {K : PySem.W.Frag} (hc : T.cls c = some (C, nm)) (hna : nm.length = na) (D0 : Dfl K T dds dvs us)
    (r1 : Rel K T G1 h1 H1) (d1 : RDs K T G1 ds vs) (o : okR K T W G1 σ (RD K T) (kMake c na np sem dds ds h1) Q) (x dx : Addr) (hx : H1 x = none) (hdx : H1 dx = none) (ne : dx ≠ x) :
    sp3 K T np sem (.ref x :: (vs ++ dvs)) (upd (upd H1 dx (.own x)) x (.ins C dx [])) (fun v H2 => v = .non ∧ Q (.ref x) H2) (WE W σ) := by
  unfold kMake at o
  by_cases hl : (D.ref h1.length :: (ds ++ dds)).length = np
  · rw [if_pos hl] at o
    have r2 := r1.track (o := .own x) hdx
    have hx2 : upd H1 dx (.own x) x = none := by rw [upd_ne (Ne.symm ne)]; exact hx
    obtain ⟨x3, r3⟩ := r2.newO (o := .ins C dx []) (u := .obj c []) hx2 fun G' _ hi ho _ => ⟨x, C, dx, nm, [], hi, ho, upd_same, hc, by simp, .nil⟩
    have hix : (G1.new x).ι[h1.length]? = some x := by
      show (G1.ι ++ [x])[h1.length]? = some x
      rw [← r1.len]; simp
    have dd : RDs K T (G1.new x) (D.ref h1.length :: (ds ++ dds)) (V.ref x :: (vs ++ dvs)) := .cons (.ref hix) ((d1.mono x3).append (D0.rel _))
    refine ⟨by rw [← dd.length]; exact hl, G1.new x, _, _, r3, dd, ?_⟩
    cases e : sem (D.ref h1.length :: (ds ++ dds)) (h1 ++ [.obj c []]) with
    | stk => rw [e] at o; exact o.elim
    | exc c' es h' => rw [e] at o; exact okR.ext (W := W) (rel := RD K T) (σ := σ) (r := .exc c' es h') x3 o
    | ok y h2 =>
      rw [e] at o
      unfold endMake at o
      cases y with
      | non =>
        dsimp only at o
        intro G' H' v x4 r4 dv
        cases dv
        refine ⟨rfl, ?_⟩
        cases q : h2[h1.length]? with
        | none => rw [q] at o; exact o.elim
        | some ob =>
          rw [q] at o
          cases ob with
          | obj c' es =>
            dsimp only at o
            by_cases hce : c' = c ∧ es.length = na
            · rw [if_pos hce] at o
              obtain ⟨rfl, hlen⟩ := hce
              obtain ⟨a, C', dx', nm', fs, z1, z2, z3, z4, z5, z6⟩ := r4.obj _ _ q
              rw [hc] at z4; cases z4
              obtain ⟨tt, ht⟩ := x4.ι
              have hax : a = x := by
                have h0 : h1.length < (G1.new x).ι.length := (List.getElem?_eq_some_iff.mp hix).1
                rw [ht, List.getElem?_append_left h0, hix] at z1
                cases z1; rfl
              subst hax
              have hn : h1.length < h2.length := (List.getElem?_eq_some_iff.mp q).1
              obtain ⟨r5, x5⟩ := r4.freeze hn z2 z3
              refine o _ H' (.ref a) (x3.trans (x4.trans x5)) r5 (.obj (C := C) (dx := dx') (nm := nm) (fs := fs) upd_same hc ?_ (z6.mono x5))
              rw [z5, hlen, ← hna, List.take_length]
            · rw [if_neg hce] at o; exact o.elim
          | _ => exact o.elim
      | _ => exact o.elim
  · rw [if_neg hl] at o; exact o.elim
theorem underG {A : Around} {C : Addr} {us : List Value} {kw : List (Str × Value)} (h : A.guards = some []) : (A.under (.builtin "type.__call__" ⟨.ref C :: us, kw⟩)).guards = some [] := by
  have e : (Code.builtin "type.__call__" ⟨.ref C :: us, kw⟩).guards = [] := rfl
  show pushGuards (Code.builtin "type.__call__" ⟨.ref C :: us, kw⟩).guards A.guards = some []
  rw [e, h]; rfl
theorem run_makeS {CX : CXT} {C f : Addr} {k : Nat} {fd : FuncData} {ps : List Str} {sp : Sp} {ds : List Value} {dvs : List V} {E : XK} {pins : List (Addr × Obj)} {σ : L2.St} {H : Hp} {s : Shared} {Q : VK} {us : List Value} {vs : List V} (M : Mk X.K C f) (F : FnQ X.prog X.w X.K X.mg X.base CX k f fd ps sp) (hr : RoomG (k + 1) X.A) (hb : Binds X.K fd ps ds) (hd : Vals dvs ds)
    (hx : PassesAt CX X σ E) (I : Inv X pins σ H s) (r : Vals vs us)
    (h : ∀ x dx, H x = none → H dx = none → dx ≠ x → sp (.ref x :: (vs ++ dvs)) (upd (upd H dx (.own x)) x (.ins C dx [])) (fun v H2 => v = .non ∧ Q (.ref x) H2) E) :
    wpAny (model X.prog X.w) X.A (call (.ref C) us) (EP X pins σ Q) X.xe s := by
  have go_ := h (s.heap.objs.size + 1) s.heap.objs.size (I.hok.fresh (Nat.le_succ _)) (I.hok.fresh (Nat.le_refl _)) (Nat.ne_of_lt (Nat.lt_succ_self _))
  have J := Inv.made (C := C) I
  have args : Vals (V.ref (s.heap.objs.size + 1) :: (vs ++ dvs)) (Value.ref (s.heap.objs.size + 1) :: (us ++ ds)) := .cons rfl (r.append hd)
  have many : (Value.ref (s.heap.objs.size + 1) :: us ++ ds).length = ps.length := by
    have e := args.length
    rw [F.size _ _ _ _ go_] at e
    exact e.symm
  refine wpAny_call (make_map (f := f) I.kIn M.makes M.init (beq_iff_eq.mp M.fn) (codeAny_mono (F.go _ X.stack _ _ ⟨Value.ref (s.heap.objs.size + 1) :: us, []⟩ (Value.ref (s.heap.objs.size + 1) :: (us ++ ds)) _ _ E ⟨hr.r.make C us [], underG hr.g⟩
    (J.env0.make C us []) (hb _ (Value.ref (s.heap.objs.size + 1) :: us) J.kIn many) args go_) fun r s' end_ => ?_))
  cases r with
  | error e => exact hx pins _ _ e s' J end_
  | ok fw =>
    cases fw with
    | ret u =>
      obtain ⟨v, H', J3, rel_, same_, fin_⟩ := J.after end_
      subst same_
      exact ⟨rel_, ⟨V.ref (s.heap.objs.size + 1), H', J3, rfl, fin_⟩⟩
    | next => exact False.elim end_
    | brk => exact False.elim end_
    | cont => exact False.elim end_
theorem fe_make {np : Nat} {x : Str} {p : Pos} {c na : Nat} {C f : Addr} {e : Expr} {es : List Expr} {k : Nat} {fd : FuncData} {ps : List Str} {sem : Sem3} {fa : FnA} {dds : List D} {dvs : List V} {us : List Value} (tk : Takes X W) (M : MakeOk X T c C f na) (F : FnL X.prog X.w X.K X.mg X.base T k f fd ps sem) (hr : RoomG (k + 1) X.A) (hg : Gl X x) (hm : X.mg x = some (.ref C))
    (hb : Binds X.K fd ps us) (D0 : Dfl X.K T dds dvs us) (ha : FA X T W (e :: es) fa) (hdb : (x == ("__debug__" : Str)) = false := by decide) (he : starEach (e :: es) X.env = (false, eval e X.env) :: starEach es X.env := by rfl) (hpl : (backTo pos (starEach es X.env)).any (·.1) = false := by rfl)  (hnp : ps.length = np := by rfl) :
    FE X T W (.Call (.Name x p) (e :: es) [] pos) (eMake c na np sem fa dds) := by
  subst hnp
  obtain ⟨nm, hc, hna⟩ := M.cls
  refine ⟨fun pins s σ H Q I h => ?_⟩
  refine wpAny_Call_Name_kw (ld_glob I hg hm ?_ hdb)
  have h' : tA X.K T W fa σ H fun vs H1 => ∀ x dx, H1 x = none → H1 dx = none → dx ≠ x → sp3 X.K T ps.length sem (.ref x :: (vs ++ dvs)) (upd (upd H1 dx (.own x)) x (.ins C dx [])) (fun v H2 => v = .non ∧ Q (.ref x) H2) (WE W σ) :=
    tF.bind (k := fun _ => kMake c na ps.length sem dds) h fun G δ ds vs h1 H1 r1 s1 d1 o1 x dx => make_read hc hna D0 r1 d1 o1 x dx
  refine PySem.W.callWith_K (h₀ := X.base) I.ok.mod.kin M.make.kp (thn (ha.run pos pins s σ H _ I h') fun us s1 ⟨vs, H1, I1, r, q⟩ => ⟨I1.kIn, ?_⟩) he hpl
  exact run_makeS M.make F hr hb D0.val (passAt tk σ) I1 r q
/-! ### a property -/
def noX (r : R D) : R D := match r with
  | .ok d h => .ok d h
  | _ => .stk
def kProp (c np : Nat) (sem : Sem3) (x : D) (h : Hh) : R D := if clsOf h x = some c ∧ np = 1 then noX (sem [x] h) else .stk
def eProp (c np : Nat) (sem : Sem3) (fo : FnE) : FnE := fun δ h => (fo δ h).bind (kProp c np sem)
theorem fe_prop {np : Nat} {c : Nat} {C p g : Addr} {f : Str} {e : Expr} {k : Nat} {fd : FuncData} {ps : List Str} {sem : Sem3} {fo : FnE} (hcl : ∃ nm, T.cls c = some (C, nm)) (cl : Cls X.K C) (hp : PropOf X.K C f p g) (F : FnL X.prog X.w X.K X.mg X.base T k g fd ps sem) (hr : RoomG (k + 1) X.A) (hb : Binds X.K fd ps [])
    (ho : FE X T W e fo) (hab : attributeBase e f X.env (eval e X.env) = eval e X.env := by rfl) (hnp : ps.length = np := by rfl) : FE X T W (.Attribute e f pos) (eProp c np sem fo) := by
  subst hnp
  obtain ⟨nm, hcl⟩ := hcl
  refine ⟨fun pins s σ H Q I h => ?_⟩
  have h' : tE X.K T W fo σ H fun x H1 => ∃ a dx fs, x = .ref a ∧ H1 a = some (.ins C dx fs) ∧ sp3 X.K T ps.length sem [x] H1 Q E0 := by
    refine tF.bind (k := fun _ => kProp c ps.length sem) h fun G δ x v h1 H1 r1 s1 d1 o1 => ?_
    unfold kProp at o1
    by_cases hc : clsOf h1 x = some c ∧ ps.length = 1
    · rw [if_pos hc] at o1
      obtain ⟨a, C', dx, nm', fs, rfl, q1, q2, _⟩ := clsOf_ok r1 d1 hc.1
      rw [hcl] at q2; cases q2
      refine ⟨a, dx, fs, rfl, q1, hc.2.symm, G, h1, [x], r1, .cons d1 .nil, ?_⟩
      cases es : sem [x] h1 with
      | ok y hh => rw [es] at o1; exact o1
      | exc c es' hh => rw [es] at o1; exact o1.elim
      | stk => rw [es] at o1; exact o1.elim
    · rw [if_neg hc] at o1; exact o1.elim
  refine attr_of hab (thn (ho.run pins s σ H _ I h') fun u s1 ⟨x, H1, J, rx, a, dx, fs, ex, ea, q⟩ => ?_)
  subst ex
  obtain rfl : u = Value.ref a := rx
  obtain ⟨mA, O, _⟩ := ins_get J.hok ea
  obtain ⟨od, look, _⟩ := O.look
  obtain ⟨rest, getter⟩ := hp.rec_
  have J1 := J.tok (s1.toks + 1)
  have isC : (PySem.W.clsIn X.K C).isSome = true := by
    obtain ⟨cd, e, _⟩ := PySem.W.any_some cl.hd
    rw [e]; rfl
  have one_ : ([Value.ref a] ++ ([] : List Value)).length = ps.length := q.1
  refine PySem.W.get_bind J.kIn look (PySem.W.plainGet_of (cl.get f)).1 (PySem.W.findObj_data isC hp.at_ hp.get hp.tak) (PySem.W.plainGet_of (cl.get f)).2 (wpAny_call (PySem.W.prop_get (s := { s1 with toks := s1.toks + 1 }) J.kIn getter ?_))
  refine codeAny_mono (F.go X.A.in1 X.stack { s1 with toks := s1.toks + 1 } H1 ⟨[.ref a], []⟩ [.ref a] [.ref a] Q E0 ⟨hr.r.in1, hr.g⟩ J1.env0.in1 (hb { s1 with toks := s1.toks + 1 } [.ref a] J1.kIn one_) (.cons rfl .nil) q) fun r s' e => ?_
  match r, e with
  | .error er, e => exact False.elim ((passL : Passes (L2.CX X.prog X.w) X.nox E0) pins σ H1 _ er s' (J1.wish _) e)
  | .ok (.ret u), e =>
    obtain ⟨v, H', J3, rv, q3⟩ := J1.after e
    show wpAny _ _ (handedOut u) _ _ _
    rw [PySem.W.handedOut_of (handed_of rv)]
    exact wpAny_pure ⟨v, H', J3, rv, q3⟩
  | .ok .next, e => exact e.elim
  | .ok .brk, e => exact e.elim
  | .ok .cont, e => exact e.elim
/-! ### built-ins by their values -/
abbrev FB := List D → Hh → R D
def CallS (X : Cx) (T : Tx) (rd : List V → Hp → VK → Prop) (g : FB) : Prop := ∀ (W : WX) G h H σ ds vs Q, Rel X.K T G h H → RDs X.K T G ds vs → okR X.K T W G σ (RD X.K T) (g ds h) Q → rd vs H Q
def eB (g : FB) (fa : FnA) : FnE := fun δ h => (fa δ h).bind g
theorem fe_b {x : Str} {p : Pos} {e : Expr} {es : List Expr} {id : String} {rd : List V → Hp → VK → Prop} {g : FB} {fa : FnA} (hc : CallR X (.builtin id) rd) (hs : CallS X T rd g) (hg : Gl X x) (hm : X.mg x = none) (hv : bootBuiltins x = some (.builtin id)) (ha : FA X T W (e :: es) fa) (hn : x ≠ "__name__" := by decide) (hdb : (x == ("__debug__" : Str)) = false := by decide)
    (he : starEach (e :: es) X.env = (false, eval e X.env) :: starEach es X.env := by rfl) (hpl : (backTo pos (starEach es X.env)).any (·.1) = false := by rfl) : FE X T W (.Call (.Name x p) (e :: es) [] pos) (eB g fa) := by
  refine PE.imp (pe_callB hc hg hm hv ha hn hdb he hpl) fun σ H Q h => ?_
  exact tF.bind (k := fun _ => g) h fun G δ ds vs h1 H1 r1 s1 d1 o1 => hs W G h1 H1 σ ds vs Q r1 d1 o1
theorem fe_bt {x : Str} {p : Pos} {e : Expr} {es : List Expr} {id : String} {rd : List V → Hp → VK → Prop} {g : FB} {fa : FnA} (hc : CallR X (.type id) rd) (hs : CallS X T rd g) (hg : Gl X x) (hm : X.mg x = none) (hv : bootBuiltins x = some (.type id)) (ha : FA X T W (e :: es) fa) (hn : x ≠ "__name__" := by decide) (hdb : (x == ("__debug__" : Str)) = false := by decide)
    (he : starEach (e :: es) X.env = (false, eval e X.env) :: starEach es X.env := by rfl) (hpl : (backTo pos (starEach es X.env)).any (·.1) = false := by rfl) : FE X T W (.Call (.Name x p) (e :: es) [] pos) (eB g fa) := by
  refine PE.imp (pe_callTy hc hg hm hv ha hn hdb he hpl) fun σ H Q h => ?_
  exact tF.bind (k := fun _ => g) h fun G δ ds vs h1 H1 r1 s1 d1 o1 => hs W G h1 H1 σ ds vs Q r1 d1 o1
/-- of one value -/
def one (g : D → Hh → R D) : FB := fun ds h => match ds with
  | [x] => g x h
  | _ => .stk
/-! len -/
def lenD (x : D) (h : Hh) : R D := match x with
  | .tup xs => .ok (.int xs.length) h
  | .scr xs => .ok (.int xs.length) h
  | .str x => if lineOk x.length = true then .ok (.int x.length) h else .stk
  | x => match asL h x with
    | some xs => .ok (.int xs.length) h
    | none => .stk
abbrev lenB : FB := one lenD
def rLenA (K : PySem.W.Frag) : List V → Hp → VK → Prop := fun xs H Q => ∃ x n, xs = [x] ∧ LenV K x H n ∧ Q (.int n) H
theorem cs_len : CallS X T (rLenA X.K) lenB := by
  intro W G h H σ ds vs Q r d o
  match ds, vs, d with
  | [], _, _ => exact o.elim
  | _ :: _ :: _, _, _ => exact o.elim
  | [x], [v], .cons d1 .nil =>
    have lists : (match asL h x with
      | some xs => R.ok (.int xs.length) h
      | none => .stk) = lenB [x] h → rLenA X.K [v] H Q := fun e => by
      rw [← e] at o
      cases ex : asL h x with
      | none => rw [ex] at o; exact o.elim
      | some xs =>
        rw [ex] at o
        obtain ⟨a, ws, rfl, h1, q1⟩ := asL_ok r d1 ex
        exact ⟨_, ws.length, rfl, .inl ⟨ws, .inl (.inl h1), rfl⟩, by rw [← q1.length]; exact o.at r .int⟩
    cases d1 with
    | @tup xs a ws h1 q1 => exact ⟨_, ws.length, rfl, .inr ⟨ws, SqT.sub r.sub h1, rfl⟩, by rw [← q1.length]; exact o.at r .int⟩
    | @scr xs a ws h1 q1 => exact ⟨_, ws.length, rfl, .inl ⟨ws, SqL.sub r.sub h1, rfl⟩, by rw [← q1.length]; exact o.at r .int⟩
    | @str x =>
      have o : okR X.K T W G σ (RD X.K T) (if lineOk x.length = true then R.ok (.int x.length) h else .stk) Q := o
      by_cases hl : lineOk x.length = true
      · rw [if_pos hl] at o
        refine ⟨_, x.length, rfl, ⟨?_, ?_⟩, o.at r .int⟩
        · show x.toArray.size ≤ sizeLine
          simpa using lineOk_le hl
        · show x.length = x.toArray.size
          simp
      · rw [if_neg hl] at o; exact o.elim
    | _ => first | exact lists rfl | exact o.elim
/-! tuple(x), list(x): frozen; list(x) that will be changed -/
def tupleD (x : D) (h : Hh) : R D := match x with
  | .tup xs => .ok (.tup xs) h
  | x => match asL h x with
    | some xs => .ok (.tup xs) h
    | none => .stk
abbrev tupleB : FB := one tupleD
def rTupA (K : PySem.W.Frag) : List V → Hp → VK → Prop := fun xs H Q => ∃ p ys, xs = [.ref p] ∧ ((SqL K H p ys ∧ ∀ l, H l = none → Q (.ref l) (upd H l (.tup ys))) ∨ (SqT K H p ys ∧ Q (.ref p) H))
theorem cs_tuple : CallS X T (rTupA X.K) tupleB := by
  intro W G h H σ ds vs Q r d o
  match ds, vs, d with
  | [], _, _ => exact o.elim
  | _ :: _ :: _, _, _ => exact o.elim
  | [x], [v], .cons d1 .nil =>
    have lists : (match asL h x with
      | some xs => R.ok (.tup xs) h
      | none => .stk) = tupleB [x] h → rTupA X.K [v] H Q := fun e => by
      rw [← e] at o
      cases ex : asL h x with
      | none => rw [ex] at o; exact o.elim
      | some xs =>
        rw [ex] at o
        obtain ⟨a, ws, rfl, h1, q1⟩ := asL_ok r d1 ex
        exact ⟨a, ws, rfl, .inl ⟨.inl (.inl h1), fun l hl => newTup r q1 hl o⟩⟩
    cases d1 with
    | @tup xs a ws h1 q1 n1 => exact ⟨a, ws, rfl, .inr ⟨SqT.sub r.sub h1, o.at r (.tup h1 q1 n1)⟩⟩
    | _ => first | exact lists rfl | exact o.elim
def asSeq (h : Hh) : D → Option (List D)
  | .tup ds => some ds
  | .scr ds => some ds
  | x => asL h x
def listB : FB := fun ds h => match ds with
  | [x] => match asSeq h x with
    | some xs => .ok (.lst xs) h
    | none => .stk
  | _ => .stk
def listMB : FB := fun ds h => match ds with
  | [x] => match asSeq h x with
    | some xs => .ok (.ref h.length) (h ++ [.lst xs])
    | none => .stk
  | _ => .stk
def rListA (K : PySem.W.Frag) : List V → Hp → VK → Prop := fun xs H Q => ∃ p ys, xs = [.ref p] ∧ (SqL K H p ys ∨ SqT K H p ys) ∧ ∀ l, H l = none → Q (.ref l) (upd H l (.lst ys))
theorem asSeq_ok {K : PySem.W.Frag} {G : Gst} {h : Hh} {H : Hp} {d : D} {v : V} {ds : List D} (r : Rel K T G h H) (d1 : RD K T G d v) (e : asSeq h d = some ds) : ∃ a vs, v = .ref a ∧ (SqL K H a vs ∨ SqT K H a vs) ∧ RDs K T G ds vs := by
  cases d1 with
  | tup h1 q => cases e; exact ⟨_, _, rfl, .inr (SqT.sub r.sub h1), q⟩
  | scr h1 q => cases e; exact ⟨_, _, rfl, .inl (SqL.sub r.sub h1), q⟩
  | lst h1 q => cases e; exact ⟨_, _, rfl, .inl (.inl (.inl (r.sub _ _ h1))), q⟩
  | ref h1 =>
    obtain ⟨a, vs, ev, h2, q⟩ := asL_ok r (.ref h1) (show asL h (.ref _) = some ds from e)
    exact ⟨a, vs, ev, .inl (.inl (.inl h2)), q⟩
  | _ => cases e
theorem cs_list : CallS X T (rListA X.K) listB := by
  intro W G h H σ ds vs Q r d o
  match ds, vs, d with
  | [], _, _ => exact o.elim
  | _ :: _ :: _, _, _ => exact o.elim
  | [x], [v], .cons d1 .nil =>
    unfold listB at o
    dsimp only at o
    cases ex : asSeq h x with
    | none => rw [ex] at o; exact o.elim
    | some xs =>
      rw [ex] at o
      obtain ⟨a, ws, rfl, h1, q1⟩ := asSeq_ok r d1 ex
      exact ⟨a, ws, rfl, h1, fun l hl => newLst r q1 hl o⟩
theorem cs_listM : CallS X T (rListA X.K) listMB := by
  intro W G h H σ ds vs Q r d o
  match ds, vs, d with
  | [], _, _ => exact o.elim
  | _ :: _ :: _, _, _ => exact o.elim
  | [x], [v], .cons d1 .nil =>
    unfold listMB at o
    dsimp only at o
    cases ex : asSeq h x with
    | none => rw [ex] at o; exact o.elim
    | some xs =>
      rw [ex] at o
      obtain ⟨a, ws, rfl, h1, q1⟩ := asSeq_ok r d1 ex
      exact ⟨a, ws, rfl, h1, fun l hl => newLstM r q1 hl o⟩
/-! int, abs, max, min of ints; sum, all, any -/
def intD (x : D) (h : Hh) : R D := match x with
  | .int i => .ok (.int i) h
  | .bl k => .ok (.int (if k then 1 else 0)) h
  | _ => .stk
abbrev intB : FB := one intD
theorem cs_int : CallS X T (fun xs H Q => (∃ i, xs = [.int i] ∧ Q (.int i) H) ∨ ∃ k, xs = [.bl k] ∧ Q (.int (if k then 1 else 0)) H) intB := by
  intro W G h H σ ds vs Q r d o
  match ds, vs, d with
  | [], _, _ => exact o.elim
  | _ :: _ :: _, _, _ => exact o.elim
  | [x], [v], .cons d1 .nil =>
    cases d1 with
    | int => exact .inl ⟨_, rfl, o.at r .int⟩
    | bl => exact .inr ⟨_, rfl, o.at r .int⟩
    | _ => exact o.elim
def absD (x : D) (h : Hh) : R D := match x with
  | .int i => .ok (.int (if i < 0 then -i else i)) h
  | _ => .stk
abbrev absB : FB := one absD
theorem cs_abs : CallS X T (fun xs H Q => ∃ i, xs = [.int i] ∧ Q (.int (if i < 0 then -i else i)) H) absB := by
  intro W G h H σ ds vs Q r d o
  match ds, vs, d with
  | [], _, _ => exact o.elim
  | _ :: _ :: _, _, _ => exact o.elim
  | [x], [v], .cons d1 .nil =>
    cases d1 with
    | int => exact ⟨_, rfl, o.at r .int⟩
    | _ => exact o.elim
def max2B : FB := fun ds h => match ds with
  | [.int i, .int j] => .ok (.int (if j > i then j else i)) h
  | _ => .stk
def min2B : FB := fun ds h => match ds with
  | [.int i, .int j] => .ok (.int (if j < i then j else i)) h
  | _ => .stk
theorem two_ints {K : PySem.W.Frag} {G : Gst} {ds : List D} {vs : List V} {P : Prop} (d : RDs K T G ds vs) (k : ∀ i j, ds = [.int i, .int j] → vs = [.int i, .int j] → P) (n : (∀ i j, ds ≠ [.int i, .int j]) → P) : P := by
  match ds, vs, d with
  | [x, y], [v, w], .cons d1 (.cons d2 .nil) =>
    cases d1 with
    | int => cases d2 with
      | int => exact k _ _ rfl rfl
      | _ => exact n (fun _ _ z => by cases z)
    | _ => exact n (fun _ _ z => by cases z)
  | [], _, _ => exact n (fun _ _ z => by cases z)
  | [_], _, _ => exact n (fun _ _ z => by cases z)
  | _ :: _ :: _ :: _, _, _ => exact n (fun _ _ z => by cases z)
theorem cs_max2 : CallS X T (fun xs H Q => ∃ i j, xs = [.int i, .int j] ∧ Q (.int (if j > i then j else i)) H) max2B := by
  intro W G h H σ ds vs Q r d o
  refine two_ints d (fun i j e1 e2 => ?_) fun n => ?_
  · subst e1; subst e2; exact ⟨i, j, rfl, o.at r .int⟩
  · unfold max2B at o
    split at o
    · exact absurd rfl (n _ _)
    · exact o.elim
theorem cs_min2 : CallS X T (fun xs H Q => ∃ i j, xs = [.int i, .int j] ∧ Q (.int (if j < i then j else i)) H) min2B := by
  intro W G h H σ ds vs Q r d o
  refine two_ints d (fun i j e1 e2 => ?_) fun n => ?_
  · subst e1; subst e2; exact ⟨i, j, rfl, o.at r .int⟩
  · unfold min2B at o
    split at o
    · exact absurd rfl (n _ _)
    · exact o.elim
def intsOf : List D → Option (List Int)
  | [] => some []
  | .int i :: r => (intsOf r).map (i :: ·)
  | _ => none
def blsOf : List D → Option (List Bool)
  | [] => some []
  | .bl i :: r => (blsOf r).map (i :: ·)
  | _ => none
theorem intsOf_ok {K : PySem.W.Frag} {G : Gst} : ∀ {ds : List D} {vs : List V} {ns : List Int}, RDs K T G ds vs → intsOf ds = some ns → vs = ns.map V.int
  | _, _, _, .nil, e => by cases e; rfl
  | _, _, _, .cons d t, e => by
    cases d with
    | int =>
      unfold intsOf at e
      obtain ⟨ms, e1, e2⟩ := Option.map_eq_some_iff.mp e
      subst e2
      rw [intsOf_ok t e1]
      rfl
    | _ => cases e
theorem blsOf_ok {K : PySem.W.Frag} {G : Gst} : ∀ {ds : List D} {vs : List V} {ns : List Bool}, RDs K T G ds vs → blsOf ds = some ns → vs = ns.map V.bl
  | _, _, _, .nil, e => by cases e; rfl
  | _, _, _, .cons d t, e => by
    cases d with
    | bl =>
      unfold blsOf at e
      obtain ⟨ms, e1, e2⟩ := Option.map_eq_some_iff.mp e
      subst e2
      rw [blsOf_ok t e1]
      rfl
    | _ => cases e
def listOf (h : Hh) (ds : List D) : Option (List D) := match ds with
  | [x] => asL h x
  | _ => none
theorem listOf_ok {K : PySem.W.Frag} {G : Gst} {h : Hh} {H : Hp} {ds : List D} {vs : List V} {es : List D} (r : Rel K T G h H) (d : RDs K T G ds vs) (e : listOf h ds = some es) : ∃ a ws, vs = [.ref a] ∧ H a = some (.lst ws) ∧ RDs K T G es ws := by
  match ds, vs, d with
  | [], _, _ => cases e
  | _ :: _ :: _, _, _ => cases e
  | [x], [v], .cons d1 .nil =>
    obtain ⟨a, ws, ev, h1, q⟩ := asL_ok r d1 e
    exact ⟨a, ws, by rw [ev], h1, q⟩
def sumB : FB := fun ds h => match (listOf h ds).bind intsOf with
  | some ns => .ok (.int ns.sum) h
  | none => .stk
def allB : FB := fun ds h => match (listOf h ds).bind blsOf with
  | some bs => .ok (.bl (bs.all id)) h
  | none => .stk
def anyB : FB := fun ds h => match (listOf h ds).bind blsOf with
  | some bs => .ok (.bl (bs.any id)) h
  | none => .stk
theorem cs_sum : CallS X T (rSum X.K) sumB := by
  intro W G h H σ ds vs Q r d o
  unfold sumB at o
  cases e : (listOf h ds).bind intsOf with
  | none => rw [e] at o; exact o.elim
  | some ns =>
    rw [e] at o
    obtain ⟨es, e1, e2⟩ := Option.bind_eq_some_iff.mp e
    obtain ⟨a, ws, ev, h1, q⟩ := listOf_ok r d e1
    have := intsOf_ok q e2
    subst this
    exact ⟨a, ns, ev, .inl (.inl h1), o.at r .int⟩
theorem cs_all : CallS X T (rAll X.K) allB := by
  intro W G h H σ ds vs Q r d o
  unfold allB at o
  cases e : (listOf h ds).bind blsOf with
  | none => rw [e] at o; exact o.elim
  | some ns =>
    rw [e] at o
    obtain ⟨es, e1, e2⟩ := Option.bind_eq_some_iff.mp e
    obtain ⟨a, ws, ev, h1, q⟩ := listOf_ok r d e1
    have := blsOf_ok q e2
    subst this
    exact ⟨a, ns, ev, .inl (.inl h1), o.at r .bl⟩
theorem cs_any : CallS X T (rAny X.K) anyB := by
  intro W G h H σ ds vs Q r d o
  unfold anyB at o
  cases e : (listOf h ds).bind blsOf with
  | none => rw [e] at o; exact o.elim
  | some ns =>
    rw [e] at o
    obtain ⟨es, e1, e2⟩ := Option.bind_eq_some_iff.mp e
    obtain ⟨a, ws, ev, h1, q⟩ := listOf_ok r d e1
    have := blsOf_ok q e2
    subst this
    exact ⟨a, ns, ev, .inl (.inl h1), o.at r .bl⟩
end
end L3
set_option autoImplicit false
set_option maxHeartbeats 4000000
/-! L3H: zip, enumerate, isinstance. -/
namespace L3
open PySem PySem.Spec L2
/-! ### zip of two, each a list or a tuple -/
def SqX (K : PySem.W.Frag) : Bool → Hp → Addr → List V → Prop
  | true, H, a, xs => SqT K H a xs
  | false, H, a, xs => SqL K H a xs
def HasX : Bool → Heap → Addr → Array Value → Prop
  | true, h, a, x => h.IsTuple a x
  | false, h, a, x => h.IsList a x
def IterX : Bool → Heap → Addr → Addr → Nat → Prop
  | true, h, it, a, i => h.IsTupleIter it a i
  | false, h, it, a, i => h.IsListIter it a i
def objX : Bool → Addr → Obj
  | true, a => { cls := .type "tuple_iterator", data := .fields #[.ref a, .int 0 0] }
  | false, a => { cls := .type "list_iterator", data := .fields #[.ref a, .int 0 0] }
theorem drawsX {prog : Program} {w : World} {A : Around} (hh : A.handled = none) (b : Bool) (it l : Addr) (hne : l ≠ it) (items : Array Value) :
    Draws prog w A it [it, l] items.size (fun i v => items[i]? = some v) (fun i h => IterX b h it l i ∧ HasX b h l items) := by
  cases b with
  | true => exact Draws.tuple hh it l hne items
  | false => exact Draws.list hh it l hne items
theorem beginsX (b : Bool) (l : Addr) (items : Array Value) : Begins (.ref l) (objX b l) fun h => HasX b h l items := by
  cases b with
  | true => exact begins_tuple l items
  | false => exact begins_list l items
theorem iterX_of {b : Bool} {h : Heap} {it a : Addr} (e : h.get? it = some (objX b a)) : IterX b h it a 0 := by
  cases b with
  | true => exact ⟨_, e, rfl, rfl⟩
  | false => exact ⟨_, e, rfl, rfl⟩
theorem IterX.at {b : Bool} {h h' : Heap} {it a : Addr} {i : Nat} (x : IterX b h it a i) (k : ∀ o, h.get? it = some o → h'.get? it = some o) : IterX b h' it a i := by
  cases b with
  | true => exact Heap.IsTupleIter.at x k
  | false => exact Heap.IsListIter.at x k
theorem IterX.obj {b : Bool} {h : Heap} {it a : Addr} {i : Nat} (x : IterX b h it a i) : ∃ o, h.get? it = some o ∧ ∀ v, o.data ≠ .cell v := by
  cases b with
  | true => obtain ⟨o, e, _, d⟩ := x; exact ⟨o, e, fun v q => by rw [d] at q; cases q⟩
  | false => obtain ⟨o, e, _, d⟩ := x; exact ⟨o, e, fun v q => by rw [d] at q; cases q⟩
theorem HasX.lt {b : Bool} {h : Heap} {a : Addr} {x : Array Value} (q : HasX b h a x) : a < h.objs.size := by
  cases b with
  | true => obtain ⟨o, e, _⟩ := q; exact Heap.lt_size e
  | false => obtain ⟨o, e, _⟩ := q; exact Heap.lt_size e
theorem SqX.has {X : Cx} {pins : List (Addr × Obj)} {σ : L2.St} {H : Hp} {s : Shared} {b : Bool} {a : Addr} {xs : List V} (I : Inv X pins σ H s) (q : SqX X.K b H a xs) : ∃ its : List Value, Vals xs its ∧ HasX b s.heap a its.toArray := by
  cases b with
  | true => obtain ⟨its, r, p, _⟩ := I.tuple q; exact ⟨its, r, p⟩
  | false => obtain ⟨its, r, p, _⟩ := I.list q; exact ⟨its, r, p.isList⟩
theorem SqX.inj {X : Cx} {pins : List (Addr × Obj)} {σ : L2.St} {H : Hp} {s : Shared} {b : Bool} {a : Addr} {xs ys : List V} (I : Inv X pins σ H s) (q : SqX X.K b H a xs) (q' : SqX X.K b H a ys) : xs = ys := by
  cases b with
  | true => exact I.tuple_inj q q'
  | false => exact I.list_inj q q'
def ItzX (K : PySem.W.Frag) (b1 b2 : Bool) (a b : Addr) : It :=
  ⟨fun i H => ∃ (xs ys : List V) (x y : V), SqX K b1 H a xs ∧ SqX K b2 H b ys ∧ xs[i]? = some x ∧ ys[i]? = some y,
    fun i H v H' => ∃ T x y, v = .ref T ∧ H T = none ∧ H' = upd H T (.tup [x, y]) ∧ (∀ xs, SqX K b1 H a xs → xs[i]? = some x) ∧ ∀ ys, SqX K b2 H b ys → ys[i]? = some y,
    fun i H => ∃ xs ys : List V, SqX K b1 H a xs ∧ SqX K b2 H b ys ∧ i ≤ xs.length ∧ i ≤ ys.length ∧ (i = xs.length ∨ i = ys.length)⟩
theorem sep_of {a b z TI TO i1 i2 : Addr} (D : ZipApart z TI TO i1 i2 a b) : ZipSep2 z TI TO i1 i2 [i1, a] [i2, b] where
  TIz := D.TIz
  TOz := D.TOz
  TITO := D.TITO
  TIi1 := D.TIi1
  mem1 := by simp
  zf1 := by simp [Ne.symm D.i1z, Ne.symm D.l1z]
  Tf1 := by simp [D.TOi1, Ne.symm D.l1TO]
  TIi2 := D.TIi2
  mem2 := by simp
  zf2 := by simp [Ne.symm D.i2z, Ne.symm D.l2z]
  Tf2 := by simp [D.TOi2, Ne.symm D.l2TO]
  sep1_2 := by simp [D.i12, Ne.symm D.l2i1]
  sep2_1 := by simp [Ne.symm D.i12, Ne.symm D.l1i2]
theorem turn_zipX {P : Program} {w : World} {K : PySem.W.Frag} {elts : List Expr} {kk : Nat} {tpos : Pos} (b1 b2 : Bool) {a b z TI TO i1 i2 : Addr} (D : ZipApart z TI TO i1 i2 a b) :
    Turn P w K (.Tuple elts kk tpos) (ItzX K b1 b2 a b) [z, TI, TO, i1, i2] z (fun i h => IsZip h z TI TO .none ∧ IsPair h TI (.ref i1) (.ref i2) ∧ (∃ x y, IsPair h TO x y) ∧ IterX b1 h i1 a i ∧ IterX b2 h i2 b i) where
  mem := by simp
  obj := fun i h st0 c hc => by
    obtain ⟨hz, hTI, ⟨x, y, hTO⟩, j1, j2⟩ := st0
    have alt : (((c = z ∨ c = TI) ∨ c = TO) ∨ c = i1) ∨ c = i2 := by simpa [or_assoc] using hc
    rcases alt with (((q | q) | q) | q) | q <;> subst q
    · exact ⟨_, hz, fun v q => nomatch q⟩
    · exact ⟨_, hTI, fun v q => nomatch q⟩
    · exact ⟨_, hTO, fun v q => nomatch q⟩
    · exact j1.obj
    · exact j2.obj
  keep := fun i h h' st0 k => by
    obtain ⟨hz, hTI, ⟨x, y, hTO⟩, j1, j2⟩ := st0
    exact ⟨k z (by simp) _ hz, k TI (by simp) _ hTI, ⟨x, y, k TO (by simp) _ hTO⟩, j1.at fun o q => k i1 (by simp) o q, j2.at fun o q => k i2 (by simp) o q⟩
  item := by
    intro X hP hw hK hc i pins s σ H E I free_ st0 go_
    subst hP hw hK
    obtain ⟨hz, hTI, ⟨x0, y0, hTO⟩, j1, j2⟩ := st0
    obtain ⟨xs, ys, x, y, qa, qb, ix, iy⟩ := go_
    obtain ⟨us1, va, p⟩ := qa.has I
    obtain ⟨us2, vb, p2⟩ := qb.has I
    obtain ⟨p1v, gu, wa⟩ := va.get ix
    obtain ⟨p2v, gu2, wb⟩ := vb.get iy
    have lt1 : i < us1.toArray.size := by have := (List.getElem?_eq_some_iff.mp gu).1; simpa using this
    have lt2 : i < us2.toArray.size := by have := (List.getElem?_eq_some_iff.mp gu2).1; simpa using this
    have zl : z < s.heap.objs.size := Heap.lt_size hz
    have D1 := drawsX (prog := X.prog) (w := X.w) (A := X.A.in1) (I.ok.hd hc) b1 i1 a D.l1i1 us1.toArray
    have D2 := drawsX (prog := X.prog) (w := X.w) (A := X.A.in1) (I.ok.hd hc) b2 i2 b D.l2i2 us2.toArray
    refine wpAny_pyNext_zipD2_item (sep_of D) D1 D2 hz hTI hTO ⟨j1, p⟩ ⟨j2, p2⟩ lt1 lt2 fun x1 x2 h' tk y1 y2 zn out_ st1 st2 hT size_ kept_ => ?_
    have e1 : x1 = p1v := by simp at y1; rw [gu] at y1; exact (Option.some.inj y1).symm
    have e2 : x2 = p2v := by simp at y2; rw [gu2] at y2; exact (Option.some.inj y2).symm
    subst e1
    subst e2
    refine ⟨_, rfl, wpAny_letOwnedTupleGo_zip (s := { s with heap := h', toks := tk }) zn fun h'' zn2 same_ => ?_⟩
    have pair_ : h''.get? s.heap.objs.size = some { cls := .type "tuple", data := .seq #[x1, x2] } := (same_.2 _ (Nat.ne_of_gt zl)).trans hT
    have laid : ObjOk X.prog X.w (upd H s.heap.objs.size (.tup [x, y])) h'' s.heap.objs.size (.tup [x, y]) :=
      ⟨by show 2 ≤ sizeLine; decide, [x1, x2], .cons wa (.cons wb .nil), ⟨_, pair_, rfl, _, rfl⟩⟩
    have J1 : Inv X pins σ (upd H s.heap.objs.size (.tup [x, y])) { s with heap := h'', toks := tk } :=
      I.turnedNew (t' := tk) (ch := [z, TI, TO, i1, i2]) (fun c o hb q => (same_.2 c (fun q' => hb (by simp [q']))).trans (kept_ c o (fun q' => hb (by simp [q'])) (fun q' => hb (by simp [q'])) (fun q' => hb (by simp [q'])) (fun q' => hb (by simp [q'])) q)) free_ (Nat.le_refl _) laid
    refine ⟨.ref s.heap.objs.size, _, J1, rfl, ⟨_, x, y, rfl, I.hok.fresh (Nat.le_refl _), rfl, fun l hl => by rw [SqX.inj I hl qa]; exact ix, fun l hl => by rw [SqX.inj I hl qb]; exact iy⟩, ⟨zn2, ?_, ⟨x1, x2, ?_⟩, ?_, ?_⟩, fun c mem_ => ?_⟩
    · exact (same_.2 _ D.TIz).trans (kept_ _ _ D.TIz D.TITO D.TIi1 D.TIi2 hTI)
    · exact (same_.2 _ D.TOz).trans out_
    · exact st1.1.at fun o q => (same_.2 _ D.i1z).trans q
    · exact st2.1.at fun o q => (same_.2 _ D.i2z).trans q
    · have below : c < s.heap.objs.size := by
        have alt : (((c = z ∨ c = TI) ∨ c = TO) ∨ c = i1) ∨ c = i2 := by simpa [or_assoc] using mem_
        rcases alt with (((q | q) | q) | q) | q
        · rw [q]; exact zl
        · rw [q]; exact Heap.lt_size hTI
        · rw [q]; exact Heap.lt_size hTO
        · rw [q]; obtain ⟨_, e1, _⟩ := j1.obj; exact Heap.lt_size e1
        · rw [q]; obtain ⟨_, e2, _⟩ := j2.obj; exact Heap.lt_size e2
      rw [upd_ne (Nat.ne_of_lt below)]
      exact (free_ c mem_).1
  done := by
    intro X hP hw hK hc i pins s σ H E I free_ st0 go_
    subst hP hw hK
    obtain ⟨hz, hTI, ⟨x0, y0, hTO⟩, j1, j2⟩ := st0
    obtain ⟨xs, ys, qa, qb, l1, l2, end_⟩ := go_
    obtain ⟨us1, va, p⟩ := qa.has I
    obtain ⟨us2, vb, p2⟩ := qb.has I
    have n1 := va.length
    have n2 := vb.length
    have D1 := drawsX (prog := X.prog) (w := X.w) (A := X.A.in1) (I.ok.hd hc) b1 i1 a D.l1i1 us1.toArray
    have D2 := drawsX (prog := X.prog) (w := X.w) (A := X.A.in1) (I.ok.hd hc) b2 i2 b D.l2i2 us2.toArray
    exact wpAny_pyNext_zipD2_end (sep_of D) D1 D2 hz hTI hTO ⟨j1, p⟩ ⟨j2, p2⟩ (by simp; omega) (by simp; omega) (by simp; omega) fun h' tk kept_ => ⟨rfl, I.turnedL (t' := tk) (ch := [z, TI, TO, i1, i2]) (fun c o hb q =>
      kept_ c o (fun q' => hb (by simp [q'])) (fun q' => hb (by simp [q'])) (fun q' => hb (by simp [q'])) (fun q' => hb (by simp [q'])) q) free_⟩
  self := fun A i s Q E st0 h => wpAny_pyIter_zip st0.1 h
def iZipX (K : PySem.W.Frag) (ta : TA) : TI := fun σ H R => ta σ H fun vs H1 => ∃ b1 b2 a b xs ys, vs = [.ref a, .ref b] ∧ SqX K b1 H1 a xs ∧ SqX K b2 H1 b ys ∧ R (ItzX K b1 b2 a b) H1
theorem pi_zipX {X : Cx} {e e2 : Expr} {ta : TA} {p pos tpos : Pos} {elts : List Expr} {kk : Nat} (go_ : Gl X "zip") (hm : X.mg "zip" = none) (ha : PA X [e, e2] ta)
    (hs : starEach [e, e2] X.env = (false, eval e X.env) :: starEach [e2] X.env := by rfl) (hpl : (backTo pos (starEach [e2] X.env)).any (·.1) = false := by rfl) :
    PI X (.Tuple elts kk tpos) (.Call (.Name "zip" p) [e, e2] [] pos) (iZipX X.K ta) := by
  refine ⟨fun pins s σ H R I h => ?_⟩
  refine PyProof.Rows.Call_ (ld_blt I go_ hm PyProof.Rows.boot_zip (PyProof.Rows.callWith_type1 (thn (ha.run pos pins s σ H _ I h) fun us sh ⟨vs, H1, J1, r1, q1⟩ => ?_) hs hpl))
  obtain ⟨b1, b2, a, b, xs, ys, ex, qa, qb, q⟩ := q1
  subst ex
  cases r1 with
  | cons r rr =>
    cases rr with
    | cons r' rr =>
      cases rr
      cases r
      cases r'
      obtain ⟨us1, va, p1⟩ := qa.has J1
      obtain ⟨us2, vb, p2⟩ := qb.has J1
      refine zip_begins2 (beginsX b1 a us1.toArray) (beginsX b2 b us2.toArray) p1 p2 fun h' hz hTI hTO h1 h2 size_ kept_ => wpAny_pyIter_zip hz ?_
      have J2 : Inv X pins σ H1 { sh with heap := h' } := J1.kept (t' := sh.toks) kept_
      refine ⟨sh.heap.objs.size + 4, [sh.heap.objs.size + 4, sh.heap.objs.size + 2, sh.heap.objs.size + 3, sh.heap.objs.size, sh.heap.objs.size + 1], _, _, H1, rfl, J2, turn_zipX b1 b2 (PySem.W.ktu_apart sh.heap.objs.size a b p1.lt p2.lt), ⟨hz, hTI, ⟨_, _, hTO⟩, iterX_of h1, iterX_of h2⟩, fun c mem_ => ?_, q⟩
      have after_ : sh.heap.objs.size ≤ c := by
        have alt : c = sh.heap.objs.size + 4 ∨ c = sh.heap.objs.size + 2 ∨ c = sh.heap.objs.size + 3 ∨ c = sh.heap.objs.size ∨ c = sh.heap.objs.size + 1 := by simpa using mem_
        rcases alt with z | z | z | z | z <;> (rw [z]; omega)
      exact J1.fpOk after_ (J1.hok.fresh after_)
section
variable {X : Cx} {T : Tx} {W : WX} {pos : Pos}
/-- what never changes and is walked -/
def immS : D → Option (Bool × List D)
  | .tup ds => some (true, ds)
  | .lst ds => some (false, ds)
  | .scr ds => some (false, ds)
  | _ => none
theorem immS_ok {K : PySem.W.Frag} {G : Gst} {d : D} {v : V} {b : Bool} {ds : List D} (d1 : RD K T G d v) (e : immS d = some (b, ds)) : ∃ a vs, v = .ref a ∧ SqX K b G.fz a vs ∧ RDs K T G ds vs := by
  cases d1 with
  | tup h r => cases e; exact ⟨_, _, rfl, h, r⟩
  | lst h r => cases e; exact ⟨_, _, rfl, .inl (.inl h), r⟩
  | scr h r => cases e; exact ⟨_, _, rfl, h, r⟩
  | _ => cases e
theorem SqX.sub {K : PySem.W.Frag} {b : Bool} {H H' : Hp} {a : Addr} {xs : List V} (s : ∀ a o, H a = some o → H' a = some o) (h : SqX K b H a xs) : SqX K b H' a xs := by
  cases b with
  | true => exact SqT.sub s h
  | false => exact SqL.sub s h
def zipL : List D → List D → List D
  | x :: xs, y :: ys => .tup [x, y] :: zipL xs ys
  | _, _ => []
theorem zipL_len : ∀ xs ys : List D, (zipL xs ys).length = min xs.length ys.length
  | [], _ => by simp [zipL]
  | _ :: _, [] => by simp [zipL]
  | x :: xs, y :: ys => by simp [zipL, zipL_len xs ys]
theorem zipL_get : ∀ (xs ys : List D) (i : Nat) (d : D), (zipL xs ys)[i]? = some d → ∃ x y, xs[i]? = some x ∧ ys[i]? = some y ∧ d = .tup [x, y]
  | [], _, _, _, e => by simp [zipL] at e
  | _ :: _, [], _, _, e => by simp [zipL] at e
  | x :: xs, y :: ys, 0, d, e => by simp [zipL] at e; exact ⟨x, y, rfl, rfl, e.symm⟩
  | x :: xs, y :: ys, i + 1, d, e => by
    obtain ⟨x', y', h1, h2, h3⟩ := zipL_get xs ys i d (by simpa [zipL] using e)
    exact ⟨x', y', by simpa using h1, by simpa using h2, h3⟩
theorem walk_zip {K : PySem.W.Frag} {G : Gst} {b1 b2 : Bool} {a b : Addr} {ds es : List D} {vs ws : List V} (q1 : SqX K b1 G.fz a vs) (q2 : RDs K T G ds vs) (q3 : SqX K b2 G.fz b ws) (q4 : RDs K T G es ws) : Walk3 K T (ItzX K b1 b2 a b) G (zipL ds es) := fun i G2 h2 H2 x r => by
  have z1 : SqX K b1 H2 a vs := SqX.sub r.sub (SqX.sub x.fz q1)
  have z2 : SqX K b2 H2 b ws := SqX.sub r.sub (SqX.sub x.fz q3)
  have l1 := q2.length
  have l2 := q4.length
  refine ⟨fun d e => ?_, fun hl => ⟨vs, ws, z1, z2, ?_⟩⟩
  · obtain ⟨d1, d2, e1, e2, rfl⟩ := zipL_get ds es i d e
    obtain ⟨v, ev, dv⟩ := q2.get e1
    obtain ⟨w, ew, dw⟩ := q4.get e2
    refine ⟨⟨vs, ws, v, w, z1, z2, ev, ew⟩, ?_⟩
    rintro y H3 ⟨p, v', w', rfl, hp, rfl, f1, f2⟩
    have g1 := f1 vs z1
    have g2 := f2 ws z2
    rw [ev] at g1; cases g1
    rw [ew] at g2; cases g2
    obtain ⟨x', r'⟩ := r.newF (o := .tup [v, w]) hp
    exact ⟨_, x', r', .tup (.inl (.inl upd_same)) (.cons ((dv.mono0 x).mono x') (.cons ((dw.mono0 x).mono x') .nil)) fun _ => upd_same⟩
  · rw [zipL_len] at hl
    omega
def kZip (ds : List D) (h : Hh) : R (List D) := match ds with
  | [x, y] => match immS x, immS y with
    | some (_, xs), some (_, ys) => .ok (zipL xs ys) h
    | _, _ => .stk
  | _ => .stk
def iZip (fa : FnA) : FnI := fun δ h => (fa δ h).bind kZip
theorem fi_zip {e e2 : Expr} {fa : FnA} {p tpos : Pos} {elts : List Expr} {kk : Nat} (hg : Gl X "zip") (hm : X.mg "zip" = none) (ha : FA X T W [e, e2] fa)
    (hs : starEach [e, e2] X.env = (false, eval e X.env) :: starEach [e2] X.env := by rfl) (hpl : (backTo pos (starEach [e2] X.env)).any (·.1) = false := by rfl) :
    FI X T W (.Tuple elts kk tpos) (.Call (.Name "zip" p) [e, e2] [] pos) (iZip fa) := by
  refine PI.imp (pi_zipX hg hm ha hs hpl) fun σ H Q => ?_
  rintro ⟨G, h0, δ, r, s, o⟩
  refine ⟨G, h0, δ, r, s, (okR.bind (rel := RDs X.K T) o).mono ?_⟩
  rintro vs H1 ⟨G1, ds, h1, e1, r1, d1, o1⟩
  match ds, vs, d1 with
  | [], _, _ => exact o1.elim
  | [_], _, _ => exact o1.elim
  | _ :: _ :: _ :: _, _, _ => exact o1.elim
  | [x, y], [v, w], .cons d1 (.cons d2 .nil) =>
    unfold kZip at o1
    dsimp only at o1
    cases ex : immS x with
    | none => rw [ex] at o1; exact o1.elim
    | some p =>
      cases ey : immS y with
      | none => rw [ex, ey] at o1; exact o1.elim
      | some q =>
        rw [ex, ey] at o1
        obtain ⟨b1, xs⟩ := p
        obtain ⟨b2, ys⟩ := q
        obtain ⟨a, us, rfl, z1, z2⟩ := immS_ok d1 ex
        obtain ⟨b, ws, rfl, z3, z4⟩ := immS_ok d2 ey
        exact ⟨b1, b2, a, b, us, ws, rfl, SqX.sub r1.sub z1, SqX.sub r1.sub z3, o1 G1 H1 _ (Ext.refl G1) r1 (walk_zip z1 z2 z3 z4)⟩
/-! ### enumerate of a list -/
def enumL : Nat → List D → List D
  | _, [] => []
  | k, x :: xs => .tup [.int k, x] :: enumL (k + 1) xs
theorem enumL_len : ∀ (k : Nat) (xs : List D), (enumL k xs).length = xs.length
  | _, [] => rfl
  | k, x :: xs => by simp [enumL, enumL_len (k + 1) xs]
theorem enumL_get : ∀ (k : Nat) (xs : List D) (i : Nat) (d : D), (enumL k xs)[i]? = some d → ∃ x, xs[i]? = some x ∧ d = .tup [.int ((k + i : Nat) : Int), x]
  | _, [], _, _, e => by simp [enumL] at e
  | k, x :: xs, 0, d, e => by simp [enumL] at e; exact ⟨x, rfl, by rw [← e]; simp⟩
  | k, x :: xs, i + 1, d, e => by
    obtain ⟨x', h1, h2⟩ := enumL_get (k + 1) xs i d (by simpa [enumL] using e)
    exact ⟨x', by simpa using h1, by rw [h2, show k + 1 + i = k + (i + 1) by omega]⟩
theorem walk_enum {K : PySem.W.Frag} {G : Gst} {a : Addr} {ds : List D} {vs : List V} (q1 : SqL K G.fz a vs) (q2 : RDs K T G ds vs) : Walk3 K T (Ite K a) G (enumL 0 ds) := fun i G2 h2 H2 x r => by
  have z1 : SqL K H2 a vs := SqL.sub r.sub (SqL.sub x.fz q1)
  have l1 := q2.length
  refine ⟨fun d e => ?_, fun hl => ⟨vs, z1, ?_⟩⟩
  · obtain ⟨d1, e1, rfl⟩ := enumL_get 0 ds i d e
    obtain ⟨v, ev, dv⟩ := q2.get e1
    refine ⟨⟨vs, v, z1, ev⟩, ?_⟩
    rintro y H3 ⟨p, v', rfl, hp, rfl, f1⟩
    have g1 := f1 vs z1
    rw [ev] at g1; cases g1
    obtain ⟨x', r'⟩ := r.newF (o := .tup [.int (i : Nat), v]) hp
    refine ⟨_, x', r', .tup (.inl (.inl upd_same)) (.cons ?_ (.cons ((dv.mono0 x).mono x') .nil)) fun _ => upd_same⟩
    rw [Nat.zero_add]; exact .int
  · rw [enumL_len] at hl
    omega
def kEnum (ds : List D) (h : Hh) : R (List D) := match ds with
  | [.lst xs] => .ok (enumL 0 xs) h
  | [.scr xs] => .ok (enumL 0 xs) h
  | _ => .stk
def iEnum3 (fa : FnA) : FnI := fun δ h => (fa δ h).bind kEnum
theorem fi_enum {e : Expr} {fa : FnA} {p tpos : Pos} {elts : List Expr} {kk : Nat} (hg : Gl X "enumerate") (hm : X.mg "enumerate" = none) (ha : FA X T W [e] fa)
    (hs : starEach [e] X.env = [(false, eval e X.env)] := by rfl) :
    FI X T W (.Tuple elts kk tpos) (.Call (.Name "enumerate" p) [e] [] pos) (iEnum3 fa) := by
  refine PI.imp (pi_enum hg hm ha hs) fun σ H Q => ?_
  rintro ⟨G, h0, δ, r, s, o⟩
  refine ⟨G, h0, δ, r, s, (okR.bind (rel := RDs X.K T) o).mono ?_⟩
  rintro vs H1 ⟨G1, ds, h1, e1, r1, d1, o1⟩
  match ds, vs, d1 with
  | [], _, _ => exact o1.elim
  | _ :: _ :: _, _, _ => exact (by unfold kEnum at o1; split at o1 <;> first | exact o1.elim | simp_all)
  | [x], [v], .cons d1 .nil =>
    cases d1 with
    | @lst xs a us z1 z2 => exact ⟨a, us, rfl, .inl (.inl (r1.sub _ _ z1)), o1 G1 H1 _ (Ext.refl G1) r1 (walk_enum (.inl (.inl z1)) z2)⟩
    | @scr xs a us z1 z2 => exact ⟨a, us, rfl, SqL.sub r1.sub z1, o1 G1 H1 _ (Ext.refl G1) r1 (walk_enum z1 z2)⟩
    | _ => exact o1.elim
/-! ### isinstance with a built-in type -/
inductive Ty | int | bool | str | tuple | list | dict
deriving DecidableEq
def Ty.nm : Ty → String
  | .int => "int" | .bool => "bool" | .str => "str" | .tuple => "tuple" | .list => "list" | .dict => "dict"
/-- what a value's type is, as far as it is known -/
inductive Kd | non | bool | int | str | tuple | list | dict
def Kd.nm : Kd → String
  | .non => "NoneType" | .bool => "bool" | .int => "int" | .str => "str" | .tuple => "tuple" | .list => "list" | .dict => "dict"
def isK : Kd → Ty → Bool
  | .bool, .bool => true
  | .bool, .int => true
  | .int, .int => true
  | .str, .str => true
  | .tuple, .tuple => true
  | .list, .list => true
  | .dict, .dict => true
  | _, _ => false
theorem isK_kit (k : Kd) (t : Ty) : kitB k.nm t.nm = some (isK k t) := by
  cases k <;> cases t <;> decide +kernel
def kdOf (h : Hh) : D → Option Kd
  | .non => some .non
  | .bl _ => some .bool
  | .int _ => some .int
  | .str _ => some .str
  | .tup _ => some .tuple
  | .lst _ => some .list
  | .scr _ => some .list
  | .dic _ _ => some .dict
  | .ref n => match h[n]? with
    | some (.lst _) => some .list
    | some (.dic _ _) => some .dict
    | _ => none
  | .obj _ _ => none
theorem kd_list {K : PySem.W.Frag} {H : Hp} {a : Addr} {vs : List V} (q : SqL K H a vs) : TyX K H (.ref a) (.type "list") := by
  rcases q with (h | ⟨o, h⟩) | ⟨o, its, n, h1, h2, _⟩
  · exact .base (.lst h)
  · exact .base (.frz h)
  · exact .kList h1 h2
theorem kd_tup {K : PySem.W.Frag} {H : Hp} {a : Addr} {vs : List V} (q : SqT K H a vs) : TyX K H (.ref a) (.type "tuple") := by
  rcases q with (h | ⟨o, h⟩) | ⟨o, its, n, h1, h2, _⟩
  · exact .base (.tup h)
  · exact .fTuple h
  · exact .kTuple h1 h2
theorem kd_ok {K : PySem.W.Frag} {G : Gst} {h : Hh} {H : Hp} {d : D} {v : V} {k : Kd} (r : Rel K T G h H) (d1 : RD K T G d v) (e : kdOf h d = some k) : TyX K H v (.type k.nm) := by
  cases d1 with
  | non => cases e; exact .base .non
  | bl => cases e; exact .base (.bl _)
  | int => cases e; exact .base (.int _)
  | str => cases e; exact .base (.str _)
  | tup q _ => cases e; exact kd_tup (SqT.sub r.sub q)
  | lst q _ => cases e; exact .base (.lst (r.sub _ _ q))
  | scr q _ => cases e; exact kd_list (SqL.sub r.sub q)
  | dic q _ _ => cases e; exact .base (.dK (r.sub _ _ q))
  | obj => cases e
  | @ref n a q =>
    unfold kdOf at e
    dsimp only at e
    cases z : h[n]? with
    | none => rw [z] at e; cases e
    | some o =>
      rw [z] at e
      cases o with
      | lst ds =>
        cases e
        obtain ⟨a', vs, e1, e2, e3, _⟩ := r.obj n _ z
        rw [q] at e1; cases e1
        exact .base (.lst e3)
      | dic ks vs =>
        cases e
        obtain ⟨a', kvs, e1, e2, e3, _⟩ := r.obj n _ z
        rw [q] at e1; cases e1
        exact .base (.dK e3)
      | _ => cases e
def isiD (t : Ty) (x : D) (h : Hh) : R D := match kdOf h x with
  | some k => .ok (.bl (isK k t)) h
  | none => .stk
def eIsi (t : Ty) (fa : FnE) : FnE := fun δ h => (fa δ h).bind (isiD t)
theorem fe_isi {t : Ty} {x : Str} {p p2 : Pos} {e : Expr} {fa : FnE} (he : FE X T W e fa) (hg : Gl X "isinstance") (hm : X.mg "isinstance" = none) (hgt : Gl X x) (hmt : X.mg x = none) (hv : bootBuiltins x = some (.type t.nm)) (hv0 : bootBuiltins "isinstance" = some (.builtin "isinstance")) (hn : x ≠ "__name__" := by decide) (hdb : (x == ("__debug__" : Str)) = false := by decide)
    (hs : starEach [e, .Name x p2] X.env = (false, eval e X.env) :: starEach [.Name x p2] X.env := by rfl) (hs2 : starEach [.Name x p2] X.env = (false, eval (.Name x p2) X.env) :: starEach [] X.env := by rfl) (hpl : (backTo pos (starEach [.Name x p2] X.env)).any (·.1) = false := by rfl) :
    FE X T W (.Call (.Name "isinstance" p) [e, .Name x p2] [] pos) (eIsi t fa) := by
  have hty : PE X (.Name x p2) (tC (.ty t.nm)) := pe_bltn hgt hmt hv rfl hn hdb
  refine PE.imp (pe_callB call_isi hg hm hv0 (pa_cons he (pa_cons hty pa_nil hs2) hs) (by decide) (by decide) hs hpl) fun σ H Q h => ?_
  refine tF.bind (k := fun _ => isiD t) h fun G δ x v h1 H1 r1 s1 d1 o1 => ?_
  unfold isiD at o1
  cases ek : kdOf h1 x with
  | none => rw [ek] at o1; exact o1.elim
  | some k =>
    rw [ek] at o1
    exact ⟨v, .ty t.nm, .type k.nm, .type t.nm, isK k t, rfl, .ty _, kd_ok r1 d1 ek, kit_ty (isK_kit k t), o1.at r1 .bl⟩
end
end L3
set_option autoImplicit false
set_option maxHeartbeats 4000000
/-! L3I: dicts, stores, methods that change, while, op=. -/
namespace L3
open PySem PySem.Spec L2
/-! ### keys -/
def keyEq : D → D → Bool
  | .int i, .int j => decide (i = j)
  | .str a, .str b => decide (a = b)
  | _, _ => false
def isKey : D → Bool
  | .int _ => true
  | .str _ => true
  | _ => false
def keyOf : D → Key
  | .int i => .inl i
  | .str x => .inr ⟨x.toArray⟩
  | _ => .inl 0
theorem keyEq_iff {a b : D} (ha : isKey a = true) (hb : isKey b = true) : keyEq a b = decide (keyOf a = keyOf b) := by
  cases a <;> first | (cases ha; done) | skip
  all_goals (cases b <;> first | (cases hb; done) | skip)
  all_goals simp [keyEq, keyOf]
section
variable {T : Tx} {K : PySem.W.Frag} {G : Gst}
theorem RD.key {d : D} {v : V} (d1 : RD K T G d v) (h : isKey d = true) : v = kV (keyOf d) := by
  cases d1 <;> first | rfl | cases h
theorem RD.unkey {d : D} {k : Key} (d1 : RD K T G d (kV k)) : isKey d = true ∧ keyOf d = k := by
  cases k with
  | inl i =>
    have e : kV (.inl i) = V.int i := rfl
    rw [e] at d1
    cases d1; exact ⟨rfl, rfl⟩
  | inr x =>
    have e : kV (.inr x) = V.str x := rfl
    rw [e] at d1
    cases d1; exact ⟨rfl, rfl⟩
def lookD : List D → List D → D → Option D
  | k :: ks, v :: vs, x => if keyEq k x = true then some v else lookD ks vs x
  | _, _, _ => none
theorem lookD_ok {x d : D} (hx : isKey x = true) : ∀ {kvs : List (Key × V)} {ks vs : List D}, RDs K T G ks (kvs.map fun p => kV p.1) → RDs K T G vs (kvs.map (·.2)) → lookD ks vs x = some d → ∃ v, valV kvs (keyOf x) = some v ∧ RD K T G d v
  | [], _, _, hk, hv, e => by cases hk; cases hv; cases e
  | p :: kvs, _, _, hk, hv, e => by
    rw [List.map_cons] at hk hv
    cases hk with
    | cons k1 k2 => cases hv with
      | cons v1 v2 =>
        obtain ⟨z1, z2⟩ := k1.unkey
        unfold lookD at e
        rw [keyEq_iff z1 hx, z2] at e
        by_cases q : p.1 = keyOf x
        · rw [if_pos (decide_eq_true q)] at e
          cases e
          exact ⟨p.2, valV_pos q, v1⟩
        · rw [if_neg (by simpa using q)] at e
          obtain ⟨v, w1, w2⟩ := lookD_ok hx k2 v2 e
          exact ⟨v, by rw [valV_neg q]; exact w1, w2⟩
def hasK (ks : List D) (x : D) : Bool := ks.any fun k => keyEq k x
def replD : List D → List D → D → D → List D
  | k :: ks, v :: vs, x, y => (if keyEq k x = true then y else v) :: replD ks vs x y
  | _, _, _, _ => []
def putKs (ks : List D) (x : D) : List D := if hasK ks x = true then ks else ks ++ [x]
def putVs (ks vs : List D) (x y : D) : List D := if hasK ks x = true then replD ks vs x y else vs ++ [y]
theorem hasK_ok {x : D} (hx : isKey x = true) : ∀ {kvs : List (Key × V)} {ks : List D}, RDs K T G ks (kvs.map fun p => kV p.1) → hasK ks x = kvs.any fun kv => decide (kv.1 = keyOf x)
  | [], _, hk => by cases hk; rfl
  | p :: kvs, _, hk => by
    rw [List.map_cons] at hk
    cases hk with
    | cons k1 k2 =>
      obtain ⟨z1, z2⟩ := k1.unkey
      unfold hasK
      rw [List.any_cons, List.any_cons, keyEq_iff z1 hx, z2]
      congr 1
      exact hasK_ok hx k2
theorem replD_ok {x y : D} {w : V} (hx : isKey x = true) (hy : RD K T G y w) : ∀ {kvs : List (Key × V)} {ks vs : List D}, RDs K T G ks (kvs.map fun p => kV p.1) → RDs K T G vs (kvs.map (·.2)) →
    RDs K T G (replD ks vs x y) ((kvs.map fun kv => if kv.1 = keyOf x then (kv.1, w) else kv).map (·.2))
  | [], _, _, hk, hv => by cases hk; cases hv; exact .nil
  | p :: kvs, _, _, hk, hv => by
    rw [List.map_cons] at hk hv
    cases hk with
    | cons k1 k2 => cases hv with
      | cons v1 v2 =>
        obtain ⟨z1, z2⟩ := k1.unkey
        unfold replD
        rw [List.map_cons, List.map_cons, keyEq_iff z1 hx, z2]
        refine .cons ?_ (replD_ok hx hy k2 v2)
        by_cases q : p.1 = keyOf x
        · rw [if_pos (decide_eq_true q), if_pos q]; exact hy
        · rw [if_neg (by simpa using q), if_neg q]; exact v1
theorem repl_keys (k : Key) (w : V) : ∀ kvs : List (Key × V), ((kvs.map fun kv => if kv.1 = k then (kv.1, w) else kv).map fun p => kV p.1) = kvs.map fun p => kV p.1
  | [] => rfl
  | p :: kvs => by
    rw [List.map_cons, List.map_cons, List.map_cons, repl_keys k w kvs]
    congr 1
    by_cases q : p.1 = k
    · rw [if_pos q]
    · rw [if_neg q]
theorem putD_ok {x y : D} {w : V} {kvs : List (Key × V)} {ks vs : List D} (hx : isKey x = true) (hy : RD K T G y w) (hk : RDs K T G ks (kvs.map fun p => kV p.1)) (hv : RDs K T G vs (kvs.map (·.2))) :
    RDs K T G (putKs ks x) ((putK kvs (keyOf x) w).map fun p => kV p.1) ∧ RDs K T G (putVs ks vs x y) ((putK kvs (keyOf x) w).map (·.2)) := by
  unfold putKs putVs putK
  rw [hasK_ok hx hk]
  by_cases q : (kvs.any fun kv => decide (kv.1 = keyOf x)) = true
  · rw [if_pos q, if_pos q, if_pos q, repl_keys]
    exact ⟨hk, replD_ok hx hy hk hv⟩
  · rw [if_neg q, if_neg q, if_neg q, List.map_append, List.map_append]
    refine ⟨hk.append (.cons ?_ .nil), hv.append (.cons hy .nil)⟩
    cases x with
    | int => exact .int
    | str => exact .str
    | _ => cases hx
end
section
variable {X : Cx} {T : Tx} {W : WX} {pos : Pos}
def asDic (h : Hh) : D → Option (List D × List D)
  | .dic ks vs => some (ks, vs)
  | .ref n => match h[n]? with
    | some (.dic ks vs) => some (ks, vs)
    | _ => none
  | _ => none
theorem asDic_ok {K : PySem.W.Frag} {G : Gst} {h : Hh} {H : Hp} {d : D} {v : V} {ks vs : List D} (r : Rel K T G h H) (d1 : RD K T G d v) (e : asDic h d = some (ks, vs)) :
    ∃ a kvs, v = .ref a ∧ H a = some (.dK kvs) ∧ RDs K T G ks (kvs.map fun p => kV p.1) ∧ RDs K T G vs (kvs.map (·.2)) := by
  cases d1 with
  | dic q1 q2 q3 => cases e; exact ⟨_, _, rfl, r.sub _ _ q1, q2, q3⟩
  | @ref n a q =>
    unfold asDic at e
    dsimp only at e
    cases z : h[n]? with
    | none => rw [z] at e; cases e
    | some o =>
      rw [z] at e
      cases o with
      | dic ks' vs' =>
        cases e
        obtain ⟨a', kvs, e1, e2, e3, e4, e5⟩ := r.obj n _ z
        rw [q] at e1; cases e1
        exact ⟨a, kvs, rfl, e3, e4, e5⟩
      | _ => cases e
  | _ => cases e
/-! ### o[i] of all kinds -/
def rIxH : R2 := fun x y H Q => ∃ a v, x = .ref a ∧ DGet H a y (some v) ∧ Q v H
theorem ix_dict (hu : X.A.units + 1 < cLine) : IxR X rIxH := by
  intro value slice pins s σ H x y v u Q I rx ry h hs
  obtain ⟨a, w, ex, g, q⟩ := h
  subst ex
  obtain rfl : v = Value.ref a := rx
  have hT := dict_typeIs I g
  unfold PyProof.Rows.subscriptTail
  refine wpAny_bind ?_
  rw [getitemInPython_of_ne hT.not_modules]
  refine wpAny_bind (wpAny_specialOf hT PySem.F.slot_dict_getitem.lookup ?_)
  have fin : wpAny (model X.prog X.w) X.A (subscripted slice false (.ref a) u) (fun r s₃ => wpAny (model X.prog X.w) X.A (letTemporaryGo value (.ref a) r >>= fun _ => pure r) (EP X pins σ Q) X.xe s₃) X.xe s := by
    rw [hs]
    exact wpAny_operating (d_getItem hu I g ry fun w' s3 I3 rw' => wpAny_bind (wpAny_letTemporaryGo (wpAny_pure ⟨w, H, I3, rw', q⟩)))
  first
    | exact wpAny_pure (wpAny_bind fin)
    | exact wpAny_bind (wpAny_pure (wpAny_bind fin))
    | exact wpAny_bind fin
def ixA : F2 := fun x y h => match asDic h x with
  | some (ks, vs) => if isKey y = true then optR (lookD ks vs y) h else .stk
  | none => ixD x y h
def rIxAll (K : PySem.W.Frag) : R2 := fun x y H Q => rIx K x y H Q ∨ rIxH x y H Q
theorem os_ixA : OpS X T (rIxAll X.K) ixA := by
  intro W G h H σ x y v w Q r d1 d2 o
  unfold ixA at o
  cases e : asDic h x with
  | none => rw [e] at o; exact .inl (os_ix W G h H σ x y v w Q r d1 d2 o)
  | some p =>
    obtain ⟨ks, vs⟩ := p
    rw [e] at o
    dsimp only at o
    by_cases hy : isKey y = true
    · rw [if_pos hy] at o
      cases el : lookD ks vs y with
      | none => rw [el] at o; exact o.elim
      | some d =>
        rw [el] at o
        obtain ⟨a, kvs, rfl, q1, q2, q3⟩ := asDic_ok r d1 e
        obtain ⟨u, w1, w2⟩ := lookD_ok hy q2 q3 el
        have ew := d2.key hy
        subst ew
        exact .inr ⟨a, u, rfl, by rw [← w1]; exact DGet.k q1, o.at r w2⟩
    · rw [if_neg hy] at o; exact o.elim
theorem fe_ixA {a b : Expr} {fa fb : FnE} (hu : X.A.units + 1 < cLine) (hs : PlainIx b) (ha : FE X T W a fa) (hb : FE X T W b fb) : FE X T W (.Subscript a b pos) (eBin ixA fa fb) :=
  PE.imp (pe_ix (IxR.or ix_seq (ix_dict hu)) ha hb hs) fun _ _ _ h => tE_bin os_ixA h
/-- y in d, of a dict as well -/
def inA : F2 := fun x y h => match asDic h y with
  | some (ks, _) => if isKey x = true then .ok (.bl (hasK ks x)) h else .stk
  | none => inD x y h
/-! ### o[i] = e -/
def setOne (x i y : D) (h : Hh) : Option Hh := match x with
  | .ref n => match h[n]? with
    | some (.lst ds) => match i with
      | .int k => match ixN ds.length k with
        | some j => some (h.set n (.lst (ds.set j y)))
        | none => none
      | _ => none
    | some (.dic ks vs) => if isKey i = true ∧ ks.length < 1000000 then some (h.set n (.dic (putKs ks i) (putVs ks vs i y))) else none
    | _ => none
  | _ => none
def rSetA : TSet := fun o i v H Q => rSetL o i v H Q ∨ rSetD o i v H Q
theorem set_A (hu : X.A.units + 1 < cLine) : PSet X rSetA := fun pins s σ H o i v ov iv u Q I ro ri rv h => h.elim (set_list pins s σ H o i v ov iv u Q I ro ri rv) (set_dict hu pins s σ H o i v ov iv u Q I ro ri rv)
theorem setOne_ok {K : PySem.W.Frag} {G : Gst} {h h' : Hh} {H : Hp} {x i y : D} {vx vi vy : V} {Q : Hp → Prop} (r : Rel K T G h H) (dx : RD K T G x vx) (di : RD K T G i vi) (dy : RD K T G y vy) (e : setOne x i y h = some h') (q : ∀ H', Rel K T G h' H' → Q H') : rSetA vx vi vy H Q := by
  cases dx with
  | @ref n a q1 =>
    unfold setOne at e
    dsimp only at e
    cases z : h[n]? with
    | none => rw [z] at e; cases e
    | some o =>
      rw [z] at e
      have hn : n < h.length := (List.getElem?_eq_some_iff.mp z).1
      cases o with
      | lst ds =>
        cases di with
        | @int k =>
          dsimp only at e
          cases ej : ixN ds.length k with
          | none => rw [ej] at e; cases e
          | some j =>
            rw [ej] at e
            cases e
            obtain ⟨a', vs, e1, e2, e3, e4⟩ := r.obj n _ z
            rw [q1] at e1; cases e1
            refine .inl ⟨a, vs, k, j, rfl, rfl, e3, by rw [← e4.length]; exact ej, q _ (r.put hn e2 ⟨a, _, q1, e2, upd_same, e4.set dy j⟩)⟩
        | _ => cases e
      | dic ks vs =>
        dsimp only at e
        by_cases hk : isKey i = true ∧ ks.length < 1000000
        · rw [if_pos hk] at e
          cases e
          obtain ⟨a', kvs, e1, e2, e3, e4, e5⟩ := r.obj n _ z
          rw [q1] at e1; cases e1
          have ei := di.key hk.1
          subst ei
          obtain ⟨p1, p2⟩ := putD_ok hk.1 dy e4 e5
          have hl : kvs.length < sizeLine := by
            have := e4.length
            rw [List.length_map] at this
            rw [← this, sizeLine_eq]; omega
          exact .inr ⟨a, _, rfl, DPut.k e3 hl, q _ (r.put hn e2 ⟨a, _, q1, e2, upd_same, p1, p2⟩)⟩
        · rw [if_neg hk] at e; cases e
      | _ => cases e
  | _ => cases e
def kSet (δ : De) (x i y : D) (h : Hh) : RS := match setOne x i y h with
  | some h' => .nx δ h'
  | none => .stk
def sIxS (fo fi fv : FnE) : FnS := fun δ h => (fv δ h).toS δ fun y h1 => (fo δ h1).toS δ fun x h2 => (fi δ h2).toS δ fun i h3 => kSet δ x i y h3
theorem fs_ix {o i value : Expr} {fo fi fv : FnE} {pos' : Pos} (hu : X.A.units + 1 < cLine) (ho : FE X T W o fo) (hi : FE X T W i fi) (hv : FE X T W value fv)
    (ha : ∀ v, assign (.Subscript o i pos') X.env v = (do
      let ov ← holding [v] (eval o X.env)
      let iv ← holding [v, ov] (eval i X.env)
      standAt pos'
      holding [v, ov, iv] (setItem ov iv v)
      release [v, ov, iv] []) := by intro _; rfl)
    (hs : swapsWithSole [.Subscript o i pos'] value pos.line X.env = pure false := by rfl) (hw : swappedStores [.Subscript o i pos'] value X.env = pure none := by rfl) (h1 : (assignEach [.Subscript o i pos'] X.env).map (·.2) = [assign (.Subscript o i pos') X.env] := by rfl) :
    FS X T W (.Assign [.Subscript o i pos'] value pos) (sIxS fo fi fv) := by
  refine PS.imp (ps_asg hv (pg_sub ho hi (set_A hu) ha) hs hw h1) fun D σ H => ?_
  rintro ⟨G, h0, δ, r, s, oo⟩
  refine ⟨G, h0, δ, r, s, (okS.toS (rel := RD X.K T) s oo).mono ?_⟩
  rintro vy H1 ⟨G1, y, h1, e1, r1, d1, o1⟩
  refine ⟨G1, h1, δ, r1, s.mono e1, (okS.toS (rel := RD X.K T) (s.mono e1) o1).mono ?_⟩
  rintro vx H2 ⟨G2, x, h2, e2, r2, d2, o2⟩
  refine ⟨G2, h2, δ, r2, s.mono (e1.trans e2), (okS.toS (rel := RD X.K T) (s.mono (e1.trans e2)) o2).mono ?_⟩
  rintro vi H3 ⟨G3, i', h3, e3, r3, d3, o3⟩
  unfold kSet at o3
  cases es : setOne x i' y h3 with
  | none => rw [es] at o3; exact o3.elim
  | some h4 =>
    rw [es] at o3
    exact setOne_ok r3 (d2.mono e3) d3 (d1.mono (e2.trans e3)) es fun H' r' => o3 G3 H' σ (Ext.refl G3) r' (s.mono (e1.trans (e2.trans e3)))
/-! ### name op= e: ints -/
def sAug (i : Nat) (p : Int → Int → Int) (f : FnE) : FnS := fun δ h => match δ[i]? with
  | some (some (.int a)) => (f δ h).toS δ fun y h1 => match y with
    | .int b => .nx (δ.set i (some (.int (p a b)))) h1
    | _ => .stk
  | _ => .stk
theorem fs_aug {i : Nat} {x : Str} {e : Expr} {f : FnE} {op : Operator} {p : Int → Int → Int} {pos' : Pos} (ho : PIp X op (ipI p)) (hN : X.N.Nodup) (hi : X.N[i]? = some x) (hx : Loc X.env.scope x) (he : FE X T W e f) (hf : X.fn x = true ∨ X.env.scope.names.lookup x = some .local := by first | exact .inl rfl | exact .inr rfl | assumption) :
    FS X T W (.AugAssign (.Name x pos') op e pos) (sAug i p f) := by
  refine PS.imp (ps_aug hN hi hx he ho hf) fun D σ H => ?_
  rintro ⟨G, h0, δ, r, s, o⟩
  unfold sAug at o
  split at o
  · rename_i a ea
    obtain ⟨v, h1, h2⟩ := s.at_ i _ ea
    cases h2
    refine ⟨_, h1, G, h0, δ, r, s, (okS.toS (rel := RD X.K T) s o).mono ?_⟩
    rintro vy H1 ⟨G1, y, h1, e1, r1, d1, o1⟩
    cases d1 with
    | int => exact ⟨_, _, rfl, rfl, o1 G1 H1 _ (Ext.refl G1) r1 ((s.mono e1).set .int i)⟩
    | _ => exact o1.elim
  · exact o.elim
/-! ### while -/
def whileN (t : FnT) (u : FnS) : Nat → FnS
  | 0 => fun _ _ => .stk
  | n + 1 => fun δ h => (t δ h).toS δ fun c h1 => if c = true then (match u δ h1 with
      | .nx δ2 h2 => whileN t u n δ2 h2
      | .ct δ2 h2 => whileN t u n δ2 h2
      | .bk δ2 h2 => .nx δ2 h2
      | r => r) else .nx δ h1
theorem fs_while {N : Nat} {c : Expr} {body : List Stmt} {t : FnT} {u : FnS} (hp : PassesOwn (model X.prog X.w) X.A X.env X.xe) (hc : FT X T W c t) (hb : FSs X T W body u) : FS X T W (.While c body [] pos) (whileN t u N) := by
  refine PS.imp (ps_while hp hc hb) fun D σ H => ?_
  intro hh
  refine ⟨fun m σ H => tS X.K T W (whileN t u m) D σ H, ⟨N, hh⟩, ?_⟩
  rintro m σ' H' ⟨G1, h1, δ1, r1, s1, o1⟩
  cases m with
  | zero => exact o1.elim
  | succ n =>
    unfold whileN at o1
    refine ⟨G1, h1, δ1, r1, s1, (okS.toS (rel := relB) s1 o1).mono ?_⟩
    rintro b H2 ⟨G2, x, h2, e2, r2, d2, o2⟩
    have d : x = b := d2
    subst d
    cases x with
    | false =>
      rw [if_neg Bool.false_ne_true] at o2 ⊢
      exact o2 G2 H2 σ' (Ext.refl G2) r2 (s1.mono e2)
    | true =>
      rw [if_pos rfl] at o2 ⊢
      refine ⟨fun σ3 H3 => tS X.K T W (whileN t u n) D σ3 H3, fun σ3 H3 z => ⟨n, Nat.lt_succ_self n, z⟩, G2, h2, δ1, r2, s1.mono e2, ?_⟩
      cases eu : u δ1 h2 with
      | nx δ5 h5 => rw [eu] at o2; exact fun G' H'' σ'' x' r' s' => ⟨G', h5, δ5, r', s', okS.ext x' o2⟩
      | ct δ5 h5 => rw [eu] at o2; exact fun G' H'' σ'' x' r' s' => ⟨G', h5, δ5, r', s', okS.ext x' o2⟩
      | bk δ5 h5 => rw [eu] at o2; exact o2
      | rt d h5 => rw [eu] at o2; exact o2
      | exc c ds δ5 h5 => rw [eu] at o2; exact o2
      | stk => rw [eu] at o2; exact o2
theorem whileN_mono {t : FnT} {u : FnS} : ∀ (n m : Nat) (δ : De) (h : Hh), n ≤ m → whileN t u n δ h ≠ .stk → whileN t u m δ h = whileN t u n δ h
  | 0, _, _, _, _, e => absurd rfl e
  | n + 1, 0, _, _, hl, _ => by omega
  | n + 1, m + 1, δ, h, hl, e => by
    unfold whileN at e ⊢
    cases et : t δ h with
    | stk => rfl
    | exc => rfl
    | ok c h1 =>
      rw [et] at e
      simp only [R.toS] at e ⊢
      cases c with
      | false => rfl
      | true =>
        simp only [if_true] at e ⊢
        cases eu : u δ h1 with
        | nx δ2 h2 => rw [eu] at e; exact whileN_mono n m δ2 h2 (by omega) e
        | ct δ2 h2 => rw [eu] at e; exact whileN_mono n m δ2 h2 (by omega) e
        | bk δ2 h2 => rfl
        | rt d h2 => rfl
        | exc c ds δ2 h2 => rfl
        | stk => rfl
/-! ### methods of lists -/
abbrev FM := D → List D → Hh → R D
def MtS (X : Cx) (T : Tx) (rd : V → List V → Hp → VK → Prop) (g : FM) : Prop := ∀ (W : WX) G h H σ x v ds vs Q, Rel X.K T G h H → RD X.K T G x v → RDs X.K T G ds vs → okR X.K T W G σ (RD X.K T) (g x ds h) Q → rd v vs H Q
/-- a method of a list -/
def kM (g : FM) (fa : FnA) (δ : De) (x : D) (h1 : Hh) : R D := if (asL h1 x).isSome = true then (fa δ h1).bind (g x) else .stk
def eM (g : FM) (fo : FnE) (fa : FnA) : FnE := fun δ h => (fo δ h).bind (kM g fa δ)
theorem asL_ty {K : PySem.W.Frag} {G : Gst} {h : Hh} {H : Hp} {d : D} {v : V} (r : Rel K T G h H) (d1 : RD K T G d v) (e : (asL h d).isSome = true) : tyV K "list" v H := by
  obtain ⟨ds, ed⟩ := Option.isSome_iff_exists.mp e
  obtain ⟨a, vs, rfl, h1, _⟩ := asL_ok r d1 ed
  exact .inl ⟨rfl, vs, .inl (.inl h1)⟩
theorem fe_m {o e : Expr} {es : List Expr} {name : Str} {id : String} {apos : Pos} {rd : V → List V → Hp → VK → Prop} {g : FM} {fo : FnE} {fa : FnA} (slot : Slot "list" name id) (hty : typeOf (.builtin id) = pure (.type "method_descriptor")) (hm : MtR X id rd) (hs : MtS X T rd g) (ho : FE X T W o fo) (ha : FA X T W (e :: es) fa)
    (hbase : attributeBase o name X.env (eval o X.env) = eval o X.env := by rfl)
    (hfew : ((backTo pos (starEach (e :: es) X.env)).all (fun x => !x.1) && (backToKw pos (keywordEach [] X.env)).all (fun x => x.1.isSome)
      && decide ((e :: es).length + ([] : List Keyword).length + (if ([] : List Keyword).isEmpty then 0 else 1) < 30)) = true := by rfl)
    (hline : (apos.endLine == pos.line) = true := by rfl) (hs1 : starEach (e :: es) X.env = (false, eval e X.env) :: starEach es X.env := by rfl) (hplain : (backTo pos (starEach es X.env)).any (·.1) = false := by rfl) :
    FE X T W (.Call (.Attribute o name apos) (e :: es) [] pos) (eM g fo fa) := by
  refine PE.imp (pe_bm PySem.F.plainAttrs_list slot hty hm ho ha hbase hfew hline hs1 hplain) fun σ H Q => ?_
  rintro ⟨G, h0, δ, r, s, oo⟩
  refine ⟨G, h0, δ, r, s, (okR.bind (rel := RD X.K T) oo).mono ?_⟩
  rintro v H1 ⟨G1, x, h1, e1, r1, d1, o1⟩
  unfold kM at o1
  by_cases hl : (asL h1 x).isSome = true
  · rw [if_pos hl] at o1
    refine ⟨asL_ty r1 d1 hl, G1, h1, δ, r1, s.mono e1, (okR.bind (rel := RDs X.K T) o1).mono ?_⟩
    rintro vs H2 ⟨G2, ds, h2, e2, r2, d2, o2⟩
    exact hs W G2 h2 H2 σ x v ds vs Q r2 (d1.mono e2) d2 o2
  · rw [if_neg hl] at o1; exact o1.elim
theorem fe_m0 {o : Expr} {name : Str} {id : String} {apos : Pos} {rd : V → List V → Hp → VK → Prop} {g : FM} {fo : FnE} (slot : Slot "list" name id) (hty : typeOf (.builtin id) = pure (.type "method_descriptor")) (hm : MtR X id rd) (hs : MtS X T rd g) (ho : FE X T W o fo)
    (hbase : attributeBase o name X.env (eval o X.env) = eval o X.env := by rfl) (hline : (apos.endLine == pos.line) = true := by rfl) : FE X T W (.Call (.Attribute o name apos) [] [] pos) (eM g fo aNil) := by
  refine PE.imp (pe_bm0 PySem.F.plainAttrs_list slot hty hm ho hbase hline) fun σ H Q => ?_
  rintro ⟨G, h0, δ, r, s, oo⟩
  refine ⟨G, h0, δ, r, s, (okR.bind (rel := RD X.K T) oo).mono ?_⟩
  rintro v H1 ⟨G1, x, h1, e1, r1, d1, o1⟩
  unfold kM at o1
  by_cases hl : (asL h1 x).isSome = true
  · rw [if_pos hl] at o1
    exact ⟨asL_ty r1 d1 hl, hs W G1 h1 H1 σ x v [] [] Q r1 d1 .nil o1⟩
  · rw [if_neg hl] at o1; exact o1.elim
def mutL (h : Hh) : D → Option (Nat × List D)
  | .ref n => match h[n]? with
    | some (.lst ds) => some (n, ds)
    | _ => none
  | _ => none
theorem mutL_ok {K : PySem.W.Frag} {G : Gst} {h : Hh} {H : Hp} {d : D} {v : V} {n : Nat} {ds : List D} (r : Rel K T G h H) (d1 : RD K T G d v) (e : mutL h d = some (n, ds)) :
    ∃ a vs, v = .ref a ∧ H a = some (.lst vs) ∧ RDs K T G ds vs ∧ ∀ es ws, RDs K T G es ws → Rel K T G (h.set n (.lst es)) (upd H a (.lst ws)) := by
  cases d1 with
  | @ref m a q =>
    unfold mutL at e
    dsimp only at e
    cases z : h[m]? with
    | none => rw [z] at e; cases e
    | some o =>
      rw [z] at e
      cases o with
      | lst es =>
        cases e
        obtain ⟨a', vs, e1, e2, e3, e4⟩ := r.obj _ _ z
        rw [q] at e1; cases e1
        exact ⟨a, vs, rfl, e3, e4, fun es ws d => r.put (List.getElem?_eq_some_iff.mp z).1 e2 (show RO K T G (upd H a (.lst ws)) _ (.lst es) from ⟨a, ws, q, e2, upd_same, d⟩)⟩
      | _ => cases e
  | _ => cases e
def appendM : FM := fun x as h => match mutL h x, as with
  | some (n, ds), [y] => if ds.length < 16777216 then .ok .non (h.set n (.lst (ds ++ [y]))) else .stk
  | _, _ => .stk
theorem ms_append : MtS X T rAppend appendM := by
  intro W G h H σ x v as vs Q r d1 d2 o
  unfold appendM at o
  cases e : mutL h x with
  | none => rw [e] at o; exact o.elim
  | some p =>
    obtain ⟨n, ds⟩ := p
    rw [e] at o
    match as, vs, d2 with
    | [], _, _ => exact o.elim
    | _ :: _ :: _, _, _ => exact o.elim
    | [y], [w], .cons dy .nil =>
      dsimp only at o
      by_cases hl : ds.length < 16777216
      · rw [if_pos hl] at o
        obtain ⟨a, us, rfl, q1, q2, q3⟩ := mutL_ok r d1 e
        exact ⟨a, us, w, rfl, rfl, q1, by rw [← q2.length, sizeLine_eq]; exact hl, o.at (q3 _ _ (q2.append (.cons dy .nil))) .non⟩
      · rw [if_neg hl] at o; exact o.elim
theorem RDs.eraseIdx {K : PySem.W.Frag} {G : Gst} : ∀ {ds : List D} {vs : List V} (i : Nat), RDs K T G ds vs → RDs K T G (ds.eraseIdx i) (vs.eraseIdx i)
  | _, _, _, .nil => .nil
  | _, _, 0, .cons _ t => t
  | _, _, i + 1, .cons h t => .cons h (RDs.eraseIdx i t)
theorem RDs.dropLast {K : PySem.W.Frag} {G : Gst} {ds : List D} {vs : List V} (h : RDs K T G ds vs) : RDs K T G ds.dropLast vs.dropLast := by
  rw [List.dropLast_eq_take, List.dropLast_eq_take, h.length]
  exact h.take _
/-- pop(0), pop(i) from the front -/
def popAtM : FM := fun x as h => match mutL h x, as with
  | some (n, ds), [.int (.ofNat i)] => if i < 4294967296 then match ds[i]? with
    | some y => .ok y (h.set n (.lst (ds.eraseIdx i)))
    | none => .stk else .stk
  | _, _ => .stk
theorem ms_popAt : MtS X T rPopAt popAtM := by
  intro W G h H σ x v as vs Q r d1 d2 o
  unfold popAtM at o
  cases e : mutL h x with
  | none => rw [e] at o; exact o.elim
  | some p =>
    obtain ⟨n, ds⟩ := p
    rw [e] at o
    match as, vs, d2 with
    | [], _, _ => exact o.elim
    | _ :: _ :: _, _, _ => exact (by split at o <;> first | exact o.elim | simp_all)
    | [y], [w], .cons dy .nil =>
      cases dy with
      | @int i =>
        cases i with
        | ofNat i =>
          dsimp only at o
          by_cases hl : i < 4294967296
          · rw [if_pos hl] at o
            cases ed : ds[i]? with
            | none => rw [ed] at o; exact o.elim
            | some y =>
              rw [ed] at o
              obtain ⟨a, us, rfl, q1, q2, q3⟩ := mutL_ok r d1 e
              obtain ⟨u, eu, du⟩ := q2.get ed
              have hil : i < us.length := (List.getElem?_eq_some_iff.mp eu).1
              refine ⟨a, us, (i : Nat), i, u, rfl, rfl, q1, by omega, by omega, ?_, eu, o.at (q3 _ _ (q2.eraseIdx i)) du⟩
              rw [PySem.seqIndex_of (by omega) (by simpa using hil)]; simp
          · rw [if_neg hl] at o; exact o.elim
        | negSucc i => exact o.elim
      | _ => exact o.elim
def popM : FM := fun x as h => match mutL h x, as with
  | some (n, ds), [] => match ds[ds.length - 1]? with
    | some y => .ok y (h.set n (.lst ds.dropLast))
    | none => .stk
  | _, _ => .stk
theorem ms_pop : MtS X T rPop popM := by
  intro W G h H σ x v as vs Q r d1 d2 o
  unfold popM at o
  cases e : mutL h x with
  | none => rw [e] at o; exact o.elim
  | some p =>
    obtain ⟨n, ds⟩ := p
    rw [e] at o
    match as, vs, d2 with
    | [], [], .nil =>
      dsimp only at o
      cases ed : ds[ds.length - 1]? with
      | none => rw [ed] at o; exact o.elim
      | some y =>
        rw [ed] at o
        obtain ⟨a, us, rfl, q1, q2, q3⟩ := mutL_ok r d1 e
        obtain ⟨u, eu, du⟩ := q2.get ed
        exact ⟨a, us, u, rfl, rfl, q1, by rw [← q2.length]; exact eu, o.at (q3 _ _ q2.dropLast) du⟩
    | _ :: _, _, _ => exact o.elim
/-! ### slices that will be changed -/
def sliceM (x : D) (lo hi : Option Int) (h : Hh) : R D := match asL h x with
  | some xs => .ok (.ref h.length) (h ++ [.lst (cutL xs lo hi)])
  | none => .stk
def eSliceM (f : FnE) (fl fh : FnO) : FnE := fun δ h => (f δ h).bind fun x h1 => (fl δ h1).bind fun l h2 => (fh δ h2).bind fun u h3 => sliceM x l u h3
theorem fe_sliceM {e : Expr} {lo hi : Option Expr} {p2 : Pos} {f : FnE} {fl fh : FnO} (he : FE X T W e f) (hl : FO X T W lo fl) (hh : FO X T W hi fh) : FE X T W (.Subscript e (.Slice lo hi none p2) pos) (eSliceM f fl fh) := by
  refine PE.imp (pe_slice (r := rSlL X.K) sl_list he hl hh) fun σ H Q => ?_
  rintro ⟨G, h0, δ, r, s, o⟩
  refine ⟨G, h0, δ, r, s, (okR.bind (rel := RD X.K T) o).mono ?_⟩
  rintro v H1 ⟨G1, x, h1, e1, r1, d1, o1⟩
  refine ⟨G1, h1, δ, r1, s.mono e1, (okR.bind (rel := fun _ a b => a = b) o1).mono ?_⟩
  rintro l H2 ⟨G2, l', h2, e2, r2, rfl, o2⟩
  refine ⟨G2, h2, δ, r2, s.mono (e1.trans e2), (okR.bind (rel := fun _ a b => a = b) o2).mono ?_⟩
  rintro u H3 ⟨G3, u', h3, e3, r3, rfl, o3⟩
  have d3 := d1.mono (e2.trans e3)
  unfold sliceM at o3
  cases ex : asL h3 x with
  | none => rw [ex] at o3; exact o3.elim
  | some xs =>
    rw [ex] at o3
    obtain ⟨a, vs, rfl, q1, q2⟩ := asL_ok r3 d3 ex
    exact ⟨a, vs, rfl, .inl (.inl q1), fun p hp => newLstM r3 (q2.cut l' u') hp o3⟩
/-! ### {k: v, ..} -/
def dPairs : List (FnE × FnE) → De → Hh → R (List D × List D)
  | [], _, h => .ok ([], []) h
  | (fk, fv) :: r, δ, h => (fk δ h).bind fun k h1 => (fv δ h1).bind fun v h2 => (dPairs r δ h2).bind fun p h3 => .ok (k :: p.1, v :: p.2) h3
abbrev FPs (X : Cx) (T : Tx) (W : WX) (pos : Pos) (keys : List (Option Expr)) (values : List Expr) (fs : List (FnE × FnE)) : Prop := PPs X pos keys values (fs.map fun p => (tE X.K T W p.1, tE X.K T W p.2))
theorem fps_nil : FPs X T W pos [] [] [] := pps_nil
theorem fps_cons {k v : Expr} {ks : List (Option Expr)} {vs : List Expr} {fk fv : FnE} {fs : List (FnE × FnE)} (hk : FE X T W k fk) (hv : FE X T W v fv) (hr : FPs X T W pos ks vs fs) : FPs X T W pos (some k :: ks) (v :: vs) ((fk, fv) :: fs) := pps_cons hk hv hr
def relP (K : PySem.W.Frag) (T : Tx) (G : Gst) (p : List D × List D) (ps : List (V × V)) : Prop := RDs K T G p.1 (ps.map (·.1)) ∧ RDs K T G p.2 (ps.map (·.2))
theorem dPairs_ok {K : PySem.W.Frag} {σ : L2.St} : ∀ (fs : List (FnE × FnE)) (G : Gst) (h : Hh) (δ : De) (H : Hp) (Q : List (V × V) → Hp → Prop), Rel K T G h H → RSl K T G δ σ → okR K T W G σ (relP K T) (dPairs fs δ h) Q → tPairs (fs.map fun p => (tE K T W p.1, tE K T W p.2)) σ H Q
  | [], G, h, δ, H, Q, r, s, o => o G H [] (Ext.refl G) r ⟨.nil, .nil⟩
  | (fk, fv) :: fs, G, h, δ, H, Q, r, s, o => by
    refine ⟨G, h, δ, r, s, (okR.bind (rel := RD K T) o).mono ?_⟩
    rintro v H1 ⟨G1, x, h1, e1, r1, d1, o1⟩
    refine ⟨G1, h1, δ, r1, s.mono e1, (okR.bind (rel := RD K T) o1).mono ?_⟩
    rintro w H2 ⟨G2, y, h2, e2, r2, d2, o2⟩
    refine dPairs_ok fs G2 h2 δ H2 _ r2 (s.mono (e1.trans e2)) ((okR.bind (rel := relP K T) o2).mono ?_)
    rintro ps H3 ⟨G3, p, h3, e3, r3, d3, o3⟩
    exact o3 G3 H3 ((v, w) :: ps) (Ext.refl G3) r3 ⟨.cons (d1.mono (e2.trans e3)) d3.1, .cons (d2.mono e3) d3.2⟩
def keysOk : List D → Bool
  | [] => true
  | k :: ks => isKey k && !hasK ks k && keysOk ks
theorem keys_of {K : PySem.W.Frag} {G : Gst} : ∀ {ks vs : List D} {ps : List (V × V)}, keysOk ks = true → RDs K T G ks (ps.map (·.1)) → RDs K T G vs (ps.map (·.2)) →
    ∃ kvs : List (Key × V), ps = kvs.map (fun kv => (kV kv.1, kv.2)) ∧ (kvs.map (·.1)).Nodup ∧ RDs K T G ks (kvs.map fun p => kV p.1) ∧ RDs K T G vs (kvs.map (·.2))
  | _, _, [], _, hk, hv => by cases hk; cases hv; exact ⟨[], rfl, by simp, .nil, .nil⟩
  | _, _, p :: ps, e, hk, hv => by
    rw [List.map_cons] at hk hv
    cases hk with
    | @cons k v ks _ k1 k2 => cases hv with
      | cons v1 v2 =>
        simp only [keysOk, Bool.and_eq_true, Bool.not_eq_true'] at e
        obtain ⟨⟨z1, z2⟩, z3⟩ := e
        obtain ⟨kvs, e1, e2, e3, e4⟩ := keys_of z3 k2 v2
        have ek := k1.key z1
        have nk : keyOf k ∉ kvs.map (·.1) := fun m => by
          rw [hasK_ok z1 e3] at z2
          obtain ⟨q, q1, q2⟩ := List.mem_map.mp m
          have : (kvs.any fun kv => decide (kv.1 = keyOf k)) = true := List.any_eq_true.mpr ⟨q, q1, decide_eq_true q2⟩
          rw [this] at z2; cases z2
        refine ⟨(keyOf k, p.2) :: kvs, ?_, ?_, ?_, .cons v1 e4⟩
        · rw [List.map_cons, ← e1, ← ek]
        · rw [List.map_cons]; exact List.nodup_cons.mpr ⟨nk, e2⟩
        · rw [List.map_cons]; show RDs K T G (k :: ks) (kV (keyOf k) :: _); rw [← ek]; exact .cons k1 e3
theorem merge_nil : ∀ (more kvs : List (Key × V)), ((kvs ++ more).map (·.1)).Nodup → mergeK kvs more = kvs ++ more
  | [], kvs, _ => by simp [mergeK]
  | p :: r, kvs, nd => by
    have hn : valV kvs p.1 = none := by
      unfold valV
      rw [Option.map_eq_none_iff, List.find?_eq_none]
      intro q hq
      have : q.1 ≠ p.1 := fun e => by
        rw [List.map_append, List.nodup_append] at nd
        exact nd.2.2 _ (List.mem_map.mpr ⟨q, hq, rfl⟩) _ (List.mem_map.mpr ⟨p, List.mem_cons_self, rfl⟩) e
      simpa using this
    show mergeK (putK kvs p.1 p.2) r = _
    rw [putK_new _ hn]
    have e : kvs ++ p :: r = (kvs ++ [(p.1, p.2)]) ++ r := by simp
    rw [e]
    exact merge_nil r _ (by rw [← e]; exact nd)
def kDic (mu : Bool) (p : List D × List D) (h1 : Hh) : R D := if keysOk p.1 = true ∧ p.1.length ≤ 15 then (if mu = true then .ok (.ref h1.length) (h1 ++ [.dic p.1 p.2]) else .ok (.dic p.1 p.2) h1) else .stk
/-- an exception inside is not told -/
def noXP {α : Type} (r : R α) : R α := match r with
  | .ok x h => .ok x h
  | _ => .stk
def eDic (mu : Bool) (fs : List (FnE × FnE)) : FnE := fun δ h => (noXP (dPairs fs δ h)).bind (kDic mu)
theorem fe_dict {mu : Bool} {keys : List (Option Expr)} {values : List Expr} {fs : List (FnE × FnE)} (h : FPs X T W0 pos keys values fs) (hall : keys.all (·.isSome) = true) (hl : keys.length = values.length) (h0 : keys ≠ []) (h15 : keys.length ≤ 15) :
    FE X T W (.Dict keys values pos) (eDic mu fs) := by
  refine PE.imp (pe_disp h hall hl h0 h15) fun σ H Q => ?_
  rintro ⟨G, hh, δ, r, s, o⟩
  intro p hp
  have rg := r.guard (o := .dK []) hp
  have sg : RSl X.K T (G.guard p (.dK [])) δ σ := RSl.ghost (G := G) (G' := G.guard p (.dK [])) rfl (fun _ _ z => z) s
  refine dPairs_ok fs (G.guard p (.dK [])) hh δ _ _ rg sg ?_
  unfold eDic at o
  cases ed : dPairs fs δ hh with
  | stk => rw [ed] at o; exact o.elim
  | exc c ds h' => rw [ed] at o; exact o.elim
  | ok q h1 =>
    rw [ed] at o
    obtain ⟨ks, vs⟩ := q
    have o1 : okR X.K T W G σ (RD X.K T) (kDic mu (ks, vs) h1) Q := o
    intro G2 H2 ps x2 r2 d2
    obtain ⟨d2k, d2v⟩ := d2
    have hpr : G2.pr p = some (.dK []) := by rw [x2.pr]; exact upd_same
    obtain ⟨z1, z2, z3⟩ := r2.pr p _ hpr
    refine ⟨z1, ?_⟩
    unfold kDic at o1
    by_cases hk : keysOk ks = true ∧ ks.length ≤ 15
    · rw [if_pos hk] at o1
      obtain ⟨kvs, e1, e2, e3, e4⟩ := keys_of hk.1 d2k d2v
      have hlen : kvs.length ≤ 15 := by
        have := e3.length
        rw [List.length_map] at this
        omega
      refine ⟨kvs, e1, hlen, ?_⟩
      rw [merge_nil kvs [] (by simpa using e2), List.nil_append]
      have r3 := r2.reguard (u := .dK kvs) hpr
      have pn : G.pr p = none := by
        cases z : G.pr p with
        | none => rfl
        | some u => have := (r.pr p u z).1; rw [hp] at this; cases this
      have hpr3 : ({ G2 with pr := upd G2.pr p (.dK kvs) } : Gst).pr p = some (.dK kvs) := upd_same
      have hpr0 : ∀ a u, G.pr a = some u → a ≠ p ∧ ({ G2 with pr := upd G2.pr p (.dK kvs) } : Gst).pr a = some u := fun a u z => by
        have na : a ≠ p := fun y => by rw [y, pn] at z; cases z
        refine ⟨na, ?_⟩
        show upd G2.pr p (.dK kvs) a = some u
        rw [upd_ne na, x2.pr]
        show upd G.pr p _ a = some u
        rw [upd_ne na]; exact z
      obtain ⟨tt, et⟩ := x2.ι
      cases mu with
      | false =>
        rw [if_neg Bool.false_ne_true] at o1
        have fzm : ∀ a u, G2.fz a = some u → upd G2.fz p (.dK kvs) a = some u := fun a u z => by
          have na : a ≠ p := fun y => by rw [y, z2] at z; cases z
          rw [upd_ne na]; exact z
        have x0 : Ext0 G2 { G2 with pr := G.pr, fz := upd G2.fz p (.dK kvs) } := ⟨⟨[], (List.append_nil _).symm⟩, fzm⟩
        exact o1 { G2 with pr := G.pr, fz := upd G2.fz p (.dK kvs) } _ (.ref p) ⟨⟨tt, et⟩, fun a u z => fzm a u (x2.fz a u z), rfl⟩ (r3.unguard hpr3 hpr0) (.dic upd_same (e3.mono0 x0) (e4.mono0 x0))
      | true =>
        rw [if_pos rfl] at o1
        obtain ⟨x5, r5⟩ := r3.unguardO (u := .dic ks vs) hpr3 hpr0 fun G' x hi ho _ => ⟨p, kvs, hi, ho, upd_same, RDs.mono0 (G := G2) ⟨x.ι, x.fz⟩ e3, RDs.mono0 (G := G2) ⟨x.ι, x.fz⟩ e4⟩
        refine o1 (Gst.give { G2 with pr := upd G2.pr p (.dK kvs) } p G.pr) _ (.ref p) ⟨⟨tt ++ [p], ?_⟩, fun a u z => x2.fz a u z, rfl⟩ r5 (.ref ?_)
        · show G2.ι ++ [p] = G.ι ++ (tt ++ [p])
          rw [et, List.append_assoc]; rfl
        · show (G2.ι ++ [p])[h1.length]? = some p
          rw [← r2.len]; simp
    · rw [if_neg hk] at o1; exact o1.elim
def eDic0 (mu : Bool) : FnE := fun _ h1 => if mu = true then .ok (.ref h1.length) (h1 ++ [.dic [] []]) else .ok (.dic [] []) h1
theorem fe_dict0 {mu : Bool} : FE X T W (.Dict [] [] pos) (eDic0 mu) := by
  refine PE.imp pe_dnewK fun σ H Q => ?_
  rintro ⟨G, hh, δ, r, s, o⟩
  intro p hp
  unfold eDic0 at o
  cases mu with
  | false =>
    rw [if_neg Bool.false_ne_true] at o
    obtain ⟨x, r'⟩ := r.newF (o := .dK []) hp
    exact o _ _ _ x r' (.dic upd_same .nil .nil)
  | true =>
    rw [if_pos rfl] at o
    obtain ⟨x, r'⟩ := r.newO (o := .dK []) (u := .dic [] []) hp fun G' x hi ho _ => ⟨p, [], hi, ho, upd_same, .nil, .nil⟩
    refine o _ _ _ x r' (.ref ?_)
    show (G.ι ++ [p])[hh.length]? = some p
    rw [← r.len]; simp
end
end L3
set_option autoImplicit false
set_option maxHeartbeats 4000000
/-! L3J: what is never reached; the head's facts; defs by facts; a law's end. -/
namespace L3
open PySem PySem.Spec L2
open PyProof.Rows (envOfC IntsAre AllBare)
section
variable {X : Cx} {T : Tx} {W : WX} {pos : Pos}
def sNever : FnS := fun _ _ => .stk
def eNever : FnE := fun _ _ => .stk
theorem fs_never {st : Stmt} : FS X T W st sNever := ⟨fun _ _ _ _ _ _ ⟨_, _, _, _, _, o⟩ => o.elim⟩
theorem fe_never {e : Expr} : FE X T W e eNever := ⟨fun _ _ _ _ _ _ ⟨_, _, _, _, _, o⟩ => o.elim⟩
theorem fss_never {st : List Stmt} : FSs X T W st sNever := ⟨fun _ _ _ _ _ _ ⟨_, _, _, _, _, o⟩ => o.elim⟩
end
/-! ### constants -/
mutual
def cstB (K : PySem.W.Frag) : D → Value → Bool
  | .non, .none => true
  | .bl b, .bool c => b == c
  | .int i, .int j _ => decide (i = j)
  | .str x, .str y _ => decide (y = ⟨x.toArray⟩)
  | .tup ds, .ref a => (match K.lookup a with
    | some ⟨.type c, _, .seq its _, _⟩ => decide (c = "tuple") && (decide (its.size ≤ sizeLine) && (cstsB K ds its.toList && !decide (ds.length = 2)))
    | _ => false)
  | _, _ => false
def cstsB (K : PySem.W.Frag) : List D → List Value → Bool
  | [], [] => true
  | d :: ds, v :: vs => cstB K d v && cstsB K ds vs
  | _, _ => false
end
theorem two {a b : Bool} (h : (a && b) = true) : a = true ∧ b = true := by simpa using h
mutual
theorem cstB_ok {K : PySem.W.Frag} : ∀ (d : D) (u : Value), cstB K d u = true → ∃ v, RelV v u ∧ ∀ T, Cst K T d v
  | .non, u, h => by
    cases u <;> first | (exact ⟨.non, rfl, fun _ _ => .non⟩) | (simp [cstB] at h)
  | .bl b, u, h => by
    cases u with
    | bool c =>
      have e : b = c := by simpa [cstB] using h
      subst e
      exact ⟨.bl b, rfl, fun _ _ => .bl⟩
    | _ => simp [cstB] at h
  | .int i, u, h => by
    cases u with
    | int j t =>
      have e : i = j := by simpa [cstB] using h
      subst e
      exact ⟨.int i, ⟨t, rfl⟩, fun _ _ => .int⟩
    | _ => simp [cstB] at h
  | .str x, u, h => by
    cases u with
    | str y t =>
      have e : y = ⟨x.toArray⟩ := by simpa [cstB] using h
      subst e
      exact ⟨.str ⟨x.toArray⟩, ⟨t, rfl⟩, fun _ _ => .str⟩
    | _ => simp [cstB] at h
  | .tup ds, u, h => by
    cases u with
    | ref a =>
      unfold cstB at h
      cases q : K.lookup a with
      | none => rw [q] at h; cases h
      | some o =>
        obtain ⟨oc, od, dt, osl⟩ := o
        rw [q] at h
        cases oc with
        | type c =>
          cases dt with
          | seq its n =>
            obtain ⟨h1, h2⟩ := two h
            obtain ⟨h3, h4⟩ := two h2
            obtain ⟨h5, h6⟩ := two h4
            obtain ⟨vs, r, rd⟩ := cstsB_ok ds its.toList h5
            exact ⟨.ref a, rfl, fun T G => .tup (.inr ⟨_, its, n, q, congrArg Value.type (of_decide_eq_true h1), rfl, of_decide_eq_true h3, r⟩) (rd T G) fun e => by rw [decide_eq_true e] at h6; cases h6⟩
          | _ => cases h
        | _ => cases dt <;> cases h
    | _ => simp [cstB] at h
  | .lst _, u, h => by simp [cstB] at h
  | .dic _ _, u, h => by simp [cstB] at h
  | .obj _ _, u, h => by simp [cstB] at h
  | .ref _, u, h => by simp [cstB] at h
  | .scr _, u, h => by simp [cstB] at h
theorem cstsB_ok {K : PySem.W.Frag} : ∀ (ds : List D) (us : List Value), cstsB K ds us = true → ∃ vs, Vals vs us ∧ ∀ T G, RDs K T G ds vs
  | [], us, h => by
    cases us with
    | nil => exact ⟨[], .nil, fun _ _ => .nil⟩
    | cons _ _ => simp [cstsB] at h
  | d :: ds, us, h => by
    cases us with
    | nil => simp [cstsB] at h
    | cons u us =>
      have h' : cstB K d u = true ∧ cstsB K ds us = true := by simpa [cstsB] using h
      obtain ⟨v, r, c⟩ := cstB_ok d u h'.1
      obtain ⟨vs, rs, cs⟩ := cstsB_ok ds us h'.2
      exact ⟨v :: vs, .cons r rs, fun T G => .cons (c T G) (cs T G)⟩
end
/-! ### facts -/
open He (ga ma fAd eqO eqO_ok FnW)
/-- a property's object, its getter -/
def pgA (K : PySem.W.Frag) (x f : Str) : Addr × Addr := match PySem.W.findIn K (.ref (ga K x)) f with
  | some (some (.ref p)) => (match PySem.W.recIn K p "property" with
    | some (.ref g :: _) => (p, g)
    | _ => (p, 0))
  | _ => (0, 0)
def prB (K : PySem.W.Frag) (x f : Str) (p g : Addr) : Bool := eqO (PySem.W.findIn K (.ref (ga K x)) f) (some (some (.ref p))) && (eqO (PySem.W.specialIn K (.ref p) "__get__") (some (some (.builtin "property.__get__"))) &&
  (decide (PySem.W.takesIn K (.ref p) = some true) && (match PySem.W.recIn K p "property" with
    | some (.ref g' :: _) => decide (g' = g)
    | _ => false)))
theorem prB_ok {K : PySem.W.Frag} {x f : Str} {p g : Addr} (h : prB K x f p g = true) : PropOf K (ga K x) f p g := by
  obtain ⟨h1, h2⟩ := two h
  obtain ⟨h3, h4⟩ := two h2
  obtain ⟨h5, h6⟩ := two h4
  refine ⟨eqO_ok h1, eqO_ok h3, of_decide_eq_true h5, ?_⟩
  cases q : PySem.W.recIn K p "property" with
  | none => rw [q] at h6; cases h6
  | some r =>
    rw [q] at h6
    match r, h6 with
    | .ref g' :: rest, h6 =>
      have e : g' = g := of_decide_eq_true h6
      subst e
      exact ⟨rest, rfl⟩
def isiB (K : PySem.W.Frag) (C : Addr) : Bool := eqO (PySem.W.findIn K (.ref C) "__class__") (some (some (.builtin "object.__class__"))) && (eqO (PySem.W.specialIn K (.builtin "object.__class__") "__get__") (some (some (.builtin "getset_descriptor.__get__"))) &&
  (decide (PySem.W.takesIn K (.builtin "object.__class__") = some true) && (decide (PySem.W.mroIn K C (.type "object") = some true) && (decide (PySem.W.kitOne K (.ref C) (.ref C) = some true) &&
  (decide (PySem.W.kitOne K (.type "NoneType") (.ref C) = some false) && (decide (PySem.W.kitOne K (.type "bool") (.ref C) = some false) && (decide (PySem.W.kitOne K (.type "int") (.ref C) = some false) && (decide (PySem.W.kitOne K (.type "str") (.ref C) = some false) &&
  (decide (PySem.W.kitOne K (.type "tuple") (.ref C) = some false) && (decide (PySem.W.kitOne K (.type "list") (.ref C) = some false) && decide (PySem.W.kitOne K (.type "dict") (.ref C) = some false)))))))))))
/-- what isinstance asks of a class of the text's own -/
structure IsiC (K : PySem.W.Frag) (C : Addr) : Prop where
  ha : PySem.W.findIn K (.ref C) "__class__" = some (some (.builtin "object.__class__"))
  hn : PySem.W.specialIn K (.builtin "object.__class__") "__get__" = some (some (.builtin "getset_descriptor.__get__"))
  ht : PySem.W.takesIn K (.builtin "object.__class__") = some true
  hm : PySem.W.mroIn K C (.type "object") = some true
  me : PySem.W.kitOne K (.ref C) (.ref C) = some true
  n0 : PySem.W.kitOne K (.type "NoneType") (.ref C) = some false
  n1 : PySem.W.kitOne K (.type "bool") (.ref C) = some false
  n2 : PySem.W.kitOne K (.type "int") (.ref C) = some false
  n3 : PySem.W.kitOne K (.type "str") (.ref C) = some false
  n4 : PySem.W.kitOne K (.type "tuple") (.ref C) = some false
  n5 : PySem.W.kitOne K (.type "list") (.ref C) = some false
  n6 : PySem.W.kitOne K (.type "dict") (.ref C) = some false
theorem isiB_ok {K : PySem.W.Frag} {C : Addr} (h : isiB K C = true) : IsiC K C := by
  obtain ⟨a1, h⟩ := two h
  obtain ⟨a2, h⟩ := two h
  obtain ⟨a3, h⟩ := two h
  obtain ⟨a4, h⟩ := two h
  obtain ⟨a5, h⟩ := two h
  obtain ⟨a6, h⟩ := two h
  obtain ⟨a7, h⟩ := two h
  obtain ⟨a8, h⟩ := two h
  obtain ⟨a9, h⟩ := two h
  obtain ⟨b1, h⟩ := two h
  obtain ⟨b2, b3⟩ := two h
  exact ⟨eqO_ok a1, eqO_ok a2, of_decide_eq_true a3, of_decide_eq_true a4, of_decide_eq_true a5, of_decide_eq_true a6, of_decide_eq_true a7, of_decide_eq_true a8, of_decide_eq_true a9, of_decide_eq_true b1, of_decide_eq_true b2, of_decide_eq_true b3⟩
/-! ### own errors -/
section
open PySem.W
abbrev sSelf : Str := "self"
abbrev veMro : List Value := [.type "ValueError", .type "Exception", .type "BaseException", .type "object"]
/-- the text of such an __init__ -/
structure ErrT (a f : Str) (params : Arguments) (body : List Stmt) (scope : Scope) : Prop where
  par : ∃ p1 p2, params = ⟨[], [⟨"self", none, p1⟩, ⟨a, none, p2⟩], none, [], [], none, []⟩
  ne : (a == sSelf) = false
  db : (a == ("__debug__" : Str)) = false
  body : ∃ txt j p0 p1 p2 p3 p4 p5 p6 p7 p8 p9, body = [.Expr (.Call (.Attribute (.Call (.Name "super" p0) [] [] p1) "__init__" p2) [.Constant (.str txt) j p3] [] p4) p5, .Assign [.Attribute (.Name "self" p6) f p7] (.Name a p8) p9] ∧ (p2.endLine == p4.line) = true
  su : scope.names.lookup ("super" : Str) = some .globalImplicit
  cl : scope.names.lookup ("__class__" : Str) = some .free
  se : scope.names.lookup sSelf = some .local
  aa : scope.names.lookup a = some .local
  ce : ∀ x ∈ scope.names, x.2 ≠ .cell
  co : scope.isCoroutine = false
  ge : scope.isGenerator = false
  ki : scope.kind = .function
/-- what the written part says of an own error -/
structure ErrC (K : PySem.W.Frag) (C fI : Addr) (a f file : Str) : Prop where
  T : OexC K C
  xi : excInitIn K C veMro "ValueError.__new__" = true
  iC : findIn K (.ref C) "__init__" = some (some (.ref fI))
  tI : typeIn K (.ref fI) = some (.type "function")
  fn : ∃ oc od osl name qual params body scope doc pm an cdA ct cc, K.lookup fI = some ⟨oc, od, .func (ksFn name qual params body scope .none .none doc pm an (.ref cdA) ct cc), osl⟩ ∧ codeIn K (.ref cdA) qual = true ∧
    (∃ ccl cdd vs ccs tf, K.lookup cdA = some ⟨ccl, cdd, .fields vs, ccs⟩ ∧ vs[2]? = some (.str file tf)) ∧ (∃ cl cld csl, K.lookup cc = some ⟨cl, cld, .cell (some (.ref C)), csl⟩) ∧ ErrT a f params body scope
  sf : mroIn K C (.ref C) = some true
  su : nsIn K mainGlobals "super" = some none
  tp : nsIn K cStatics "thirdparty.any" = some none
  sm : ks_superIn K C C "__init__" = some (some (.builtin "ValueError.__init__"))
  sv : subIn K (.ref C) (.type "ValueError") = some true
  nf : findIn K (.ref C) f = some none
end
def oexB (K : PySem.W.Frag) (C : Addr) : Bool := match K.lookup C with
  | some ⟨.type "type", _, .cls cd, sl⟩ => (match cd.mro, sl.toList with
    | .ref C' :: bm, [_, _, _, _, some (.builtin n), _] => C' == C && (n == "ValueError.__new__" && (!cd.hasDel && (cd.hasDict && (cd.qualname == cd.qualname && PySem.HandSPX.refsVE bm))))
    | _, _ => false)
  | _ => false
theorem oexB_ok {K : PySem.W.Frag} {C : Addr} (q : oexB K C = true) : ∃ nm q N bs bm sn sub ab col dd k0 k1 k2 k3 k5, K.lookup C = some (excClassObj nm q C N bs bm true sn sub ab col dd k0 k1 k2 k3 k5 "ValueError.__new__") ∧ PySem.HandSPX.refsVE bm = true := by
  unfold oexB at q
  split at q
  · rename_i dd cd sl ho
    split at q
    · rename_i C' bm k0 k1 k2 k3 n k5 hm hs
      simp only [Bool.and_eq_true, beq_iff_eq, Bool.not_eq_true'] at q
      obtain ⟨rfl, rfl, hdel, hd, _, hb⟩ := q
      obtain ⟨nm, bs, mro, ns, qn, hd', sn, sub, ab, col, del⟩ := cd
      dsimp only at hm hdel hd
      subst hm hdel hd
      have hsl : sl = #[k0, k1, k2, k3, some (.builtin "ValueError.__new__"), k5] := by
        obtain ⟨l⟩ := sl
        simp only at hs
        rw [hs]
      subst hsl
      exact ⟨nm, qn, ns, bs, bm, sn, sub, ab, col, dd, k0, k1, k2, k3, k5, ho, hb⟩
    · cases q
  · cases q
/-- the code object, the cell of an own __init__ -/
def initB (K : PySem.W.Frag) (C fI : Addr) (qual file : Str) : Bool := match K.lookup fI with
  | some ⟨_, _, .func g, _⟩ => PySem.W.codeIn K g.code qual && ((match g.defaults, g.kwdefaults with | .none, .none => true | _, _ => false) && ((match g.code with
    | .ref c => (match K.lookup c with
      | some ⟨_, _, .fields vs, _⟩ => (match (vs[2]? : Option Value) with | some (.str z _) => z == file | _ => false)
      | _ => false)
    | _ => false) && (match g.closure with
    | [(y, cc)] => y == ("__class__" : Str) && (match K.lookup cc with
      | some ⟨_, _, .cell (some (.ref D)), _⟩ => D == C
      | _ => false)
    | _ => false)))
  | _ => false
def errB (K : PySem.W.Frag) (C fI : Addr) (qual f file : Str) : Bool := oexB K C && (initB K C fI qual file && (PySem.W.excInitIn K C veMro "ValueError.__new__" && (eqO (PySem.W.findIn K (.ref C) "__setattr__") (some (some (.builtin "object.__setattr__"))) && (decide (PySem.W.subIn K (.ref C) (.type "BaseException") = some true) &&
  ((PySem.W.typeIn K (.ref C) == some (.type "type")) && (PySem.W.keepIn K (.ref C) && (eqO (PySem.W.findIn K (.ref C) "__init__") (some (some (.ref fI))) && ((PySem.W.typeIn K (.ref fI) == some (.type "function")) && (decide (PySem.W.mroIn K C (.ref C) = some true) &&
  (eqO (PySem.W.nsIn K mainGlobals "super") (some none) && (eqO (PySem.W.nsIn K cStatics "thirdparty.any") (some none) && (eqO (PySem.W.ks_superIn K C C "__init__") (some (some (.builtin "ValueError.__init__"))) && (decide (PySem.W.subIn K (.ref C) (.type "ValueError") = some true) && eqO (PySem.W.findIn K (.ref C) f) (some none))))))))))))))
def kwdB (K : PySem.W.Frag) (f : Addr) (ms : List (Str × D)) : Bool := match K.lookup f with
  | some ⟨_, _, .func g, _⟩ => (match g.kwdefaults with
    | .ref D => ms.all fun q => (match PySem.W.nsIn K D q.1 with
      | some (some u) => cstB K q.2 u
      | _ => false)
    | _ => false)
  | _ => false
inductive Fl where
  | kwd (p : Str × Option Str) (ms : List (Str × D))
  | ne (x : Str)
  | nty (x : Str) (t : String)
  | exm (x y : Str) (b : Bool)
  | isi (x : Str)
  | k (f : He.Fa)
  | gc (x : Str) (d : D)
  | pr (x f : Str)
def Fl.ok (K : PySem.W.Frag) : Fl → Bool
  | .isi x => isiB K (ga K x)
  | .kwd p ms => kwdB K (fAd K p) ms
  | .nty x t => decide (PySem.W.kitOne K (.ref (ga K x)) (.type t) = some false)
  | .ne x => eqO (PySem.W.findIn K (.ref (ga K x)) "__ne__") (some (some (.builtin "object.__ne__")))
  | .exm x y b => decide (PySem.W.exmOne K (.ref (ga K x)) (.ref (ga K y)) = some b)
  | .k f => f.ok K
  | .gc x d => (match PySem.W.nsIn K mainGlobals x with
    | some (some u) => cstB K d u
    | _ => false)
  | .pr x f => prB K x f (pgA K x f).1 (pgA K x f).2
theorem gc_ok {K : PySem.W.Frag} {h : Heap} {mg : Str → Option Value} {x : Str} {d : D} (X : K.In h) (G : h.Ns mainGlobals mg) (c : (Fl.gc x d).ok K = true) : ∃ u v, mg x = some u ∧ RelV v u ∧ ∀ T, Cst K T d v := by
  have c2 : (match PySem.W.nsIn K mainGlobals x with
    | some (some u) => cstB K d u
    | _ => false) = true := c
  cases e : PySem.W.nsIn K mainGlobals x with
  | none => rw [e] at c2; cases c2
  | some o =>
    cases o with
    | none => rw [e] at c2; cases c2
    | some u =>
      rw [e] at c2
      obtain ⟨v, r, k⟩ := cstB_ok d u c2
      exact ⟨u, v, PySem.W.mg_of X G e, r, k⟩
/-! ### defs -/
structure DefL where
  at_ : Str × Option Str
  pr : Bool
  name : Str
  qual : Str
  params : Arguments
  body : List Stmt
  scope : Scope
  dfl : List He.Dv := []
  err : Option (Str × Str) := none
def DefL.ad (K : PySem.W.Frag) (d : DefL) : Addr := match d.pr, d.at_ with
  | true, (x, some f) => (pgA K x f).2
  | _, p => fAd K p
def DefL.val (d : DefL) : FnW := some (d.name, d.qual, d.params, .stmts d.body, d.scope, mainGlobals, [], builtinsNs)
def fnL (K : PySem.W.Frag) (a : Addr) : FnW := match K.lookup a with
  | some ⟨_, _, .func g, _⟩ => some (g.name, g.qualname, g.params, g.body, g.scope, g.globals, g.closure, g.builtins)
  | _ => none
/-- an own error's __init__: what it closes over is left out -/
def fnE (K : PySem.W.Frag) (a : Addr) : FnW := match K.lookup a with
  | some ⟨_, _, .func g, _⟩ => some (g.name, g.qualname, g.params, g.body, g.scope, g.globals, [], g.builtins)
  | _ => none
def DefL.fw (K : PySem.W.Frag) (d : DefL) : FnW := match d.err with
  | none => fnL K (d.ad K)
  | some _ => fnE K (d.ad K)
def DefL.ok0 (K : PySem.W.Frag) (d : DefL) : Bool := PySem.W.keepIn K (.ref (d.ad K)) && (match K.lookup (d.ad K) with
  | some ⟨_, _, .func g, _⟩ => PySem.W.codeIn K g.code d.qual && He.dflB K g.defaults (d.dfl.map (He.Dv.v K))
  | _ => false)
def DefL.ok (K : PySem.W.Frag) (d : DefL) : Bool := match d.err with
  | none => d.ok0 K
  | some (f, file) => errB K (ga K d.at_.1) (d.ad K) d.qual f file
theorem DefL.funD {K : PySem.W.Frag} {d : DefL} (e : fnL K (d.ad K) = d.val) (c : d.ok0 K = true) : ∃ fd, FunD K d.name d.qual d.params d.body d.scope (d.dfl.map (He.Dv.v K)) [] (d.ad K) fd := by
  obtain ⟨kp, c2⟩ := two c
  unfold fnL at e
  cases q : K.lookup (d.ad K) with
  | none => rw [q] at c2; cases c2
  | some o =>
    obtain ⟨oc, od, dt, osl⟩ := o
    rw [q] at c2 e
    cases dt with
    | func g =>
      obtain ⟨a1, a2, a3, a4, a5, a6, a7, a8, a9, a10, a11, a12, a13, a14, a15⟩ := g
      have said : (some (a1, a2, a3, a4, a5, a6, a7, a15) : FnW) = some (d.name, d.qual, d.params, .stmts d.body, d.scope, mainGlobals, [], builtinsNs) := e
      simp only [Option.some.injEq, Prod.mk.injEq] at said
      obtain ⟨z1, z2, z3, z4, z5, z6, z7, z8⟩ := said
      subst z1 z2 z3 z4 z5 z6 z7 z8
      obtain ⟨k1, k2⟩ := two (show (PySem.W.codeIn K a13 d.qual && He.dflB K a8 (d.dfl.map (He.Dv.v K))) = true from c2)
      exact ⟨_, ⟨oc, od, a8, a9, a10, a11, a12, a13, a14, osl, rfl, q, k1, He.dflB_ok k2, .inl rfl⟩, kp⟩
    | _ => cases c2
/-! ### the Hook -/
abbrev AlL : Type := Bool × List FnW
def obsL (fl : List Fl) (fn : List DefL) (K : PySem.W.Frag) : AlL := ((fl.all fun f => f.ok K) && fn.all fun d => d.ok K, fn.map fun d => d.fw K)
def valL (fn : List DefL) : AlL := (true, fn.map DefL.val)
def SaysL (fl : List Fl) (fn : List DefL) (K : PySem.W.Frag) : Prop := obsL fl fn K = valL fn
def obsLG (n : Nat) (fl : List Fl) (fn : List DefL) (g : Addr → Option Obj) : AlL := obsL fl fn (He.frG g (He.asD g n ++ [cStatics]))
def hookL (n : Nat) (fl : List Fl) (fn : List DefL) : PySem.W.Hook where
  α := AlL
  obs := fun s => obsLG n fl fn s.heap.get?
  val := fun _ => valL fn
  says := fun _ h => ∃ K : PySem.W.Frag, K.In h ∧ SaysL fl fn K
  of := fun _ _ e => ⟨_, He.frG_in, e⟩
  keeps := fun _ _ _ ⟨K, hK, c⟩ k => ⟨K, PySem.W.Frag.In.keeps hK k, c⟩
theorem obsLG_eq {n : Nat} {fl : List Fl} {fn : List DefL} {g : Addr → Option Obj} {s : Shared} (h : ∀ a, g a = s.heap.get? a) : obsLG n fl fn g = (hookL n fl fn).obs s := by
  have e : g = s.heap.get? := funext h
  rw [e] <;> rfl
theorem SaysL.fact {fl : List Fl} {fn : List DefL} {K : PySem.W.Frag} (c : SaysL fl fn K) (i : Nat) {f : Fl} (h : fl[i]? = some f := by rfl) : f.ok K = true := by
  have c1 := (two (show ((fl.all fun f => f.ok K) && fn.all fun d => d.ok K) = true from congrArg (fun z : AlL => z.1) c)).1
  exact List.all_eq_true.mp c1 f (List.mem_of_getElem? h)
theorem SaysL.def0 {fl : List Fl} {fn : List DefL} {K : PySem.W.Frag} (c : SaysL fl fn K) (i : Nat) {d : DefL} (h : fn[i]? = some d) : d.fw K = d.val ∧ d.ok K = true := by
  have c2 := (two (show ((fl.all fun f => f.ok K) && fn.all fun d => d.ok K) = true from congrArg (fun z : AlL => z.1) c)).2
  have e : fn.map (fun d => d.fw K) = fn.map DefL.val := congrArg (fun z : AlL => z.2) c
  have e2 : (fn.map fun d => d.fw K)[i]? = (fn.map DefL.val)[i]? := by rw [e]
  rw [List.getElem?_map, List.getElem?_map, h] at e2
  exact ⟨Option.some.inj e2, List.all_eq_true.mp c2 d (List.mem_of_getElem? h)⟩
theorem SaysL.def_ {fl : List Fl} {fn : List DefL} {K : PySem.W.Frag} (c : SaysL fl fn K) (i : Nat) {d : DefL} (h : fn[i]? = some d := by rfl) (he : d.err = none := by rfl) : ∃ fd, FunD K d.name d.qual d.params d.body d.scope (d.dfl.map (He.Dv.v K)) [] (d.ad K) fd := by
  obtain ⟨e, k⟩ := c.def0 i h
  unfold DefL.fw at e
  unfold DefL.ok at k
  rw [he] at e k
  exact DefL.funD e k
theorem errB_ok {K : PySem.W.Frag} {C fI : Addr} {name qual f file a : Str} {params : Arguments} {body : List Stmt} {scope : Scope} (e : fnE K fI = some (name, qual, params, .stmts body, scope, mainGlobals, [], builtinsNs)) (c : errB K C fI qual f file = true) (ET : ErrT a f params body scope) : ErrC K C fI a f file := by
  obtain ⟨c1, c⟩ := two c
  obtain ⟨c2, c⟩ := two c
  obtain ⟨c3, c⟩ := two c
  obtain ⟨c4, c⟩ := two c
  obtain ⟨c5, c⟩ := two c
  obtain ⟨c6, c⟩ := two c
  obtain ⟨c7, c⟩ := two c
  obtain ⟨c8, c⟩ := two c
  obtain ⟨c9, c⟩ := two c
  obtain ⟨c10, c⟩ := two c
  obtain ⟨c11, c⟩ := two c
  obtain ⟨c12, c⟩ := two c
  obtain ⟨c13, c⟩ := two c
  obtain ⟨c14, c15⟩ := two c
  refine ⟨⟨oexB_ok c1, eqO_ok c4, of_decide_eq_true c5, beq_iff_eq.mp c6, c7⟩, c3, eqO_ok c8, beq_iff_eq.mp c9, ?_, of_decide_eq_true c10, eqO_ok c11, eqO_ok c12, eqO_ok c13, of_decide_eq_true c14, eqO_ok c15⟩
  unfold fnE at e
  unfold initB at c2
  cases q : K.lookup fI with
  | none => rw [q] at e; cases e
  | some o =>
    obtain ⟨oc, od, dt, osl⟩ := o
    rw [q] at c2 e
    cases dt with
    | func g =>
      obtain ⟨a1, a2, a3, a4, a5, a6, a7, a8, a9, a10, a11, a12, a13, a14, a15⟩ := g
      have said : (some (a1, a2, a3, a4, a5, a6, ([] : List (Str × Addr)), a15) : FnW) = some (name, qual, params, .stmts body, scope, mainGlobals, [], builtinsNs) := e
      simp only [Option.some.injEq, Prod.mk.injEq] at said
      obtain ⟨z1, z2, z3, z4, z5, z6, z7, z8⟩ := said
      subst z1 z2 z3 z4 z5 z6 z8
      obtain ⟨k1, k⟩ := two c2
      obtain ⟨k2, k⟩ := two k
      obtain ⟨k3, k4⟩ := two k
      dsimp only at k1 k2 k3 k4
      split at k2
      · split at k3
        · skip
          split at k3
          · rename_i ccl cdd vs ccs hco
            split at k3
            · rename_i z tf hz
              split at k4
              · rename_i y cc
                obtain ⟨k5, k6⟩ := two k4
                split at k6
                · rename_i cl cld D csl hcc
                  have e1 := beq_iff_eq.mp k5
                  have e2 := beq_iff_eq.mp k6
                  have e3 := beq_iff_eq.mp k3
                  subst e1 e2 e3
                  exact ⟨oc, od, osl, a1, a2, a3, body, a5, _, _, _, _, _, _, rfl, k1, ⟨_, _, _, _, _, hco, hz⟩, ⟨_, _, _, hcc⟩, ET⟩
                · cases k6
              · cases k4
            · cases k3
          · cases k3
        · cases k3
      · cases k2
    | _ => cases e
theorem SaysL.err_ {fl : List Fl} {fn : List DefL} {K : PySem.W.Frag} (c : SaysL fl fn K) (i : Nat) {d : DefL} {a f file : Str} (h : fn[i]? = some d) (he : d.err = some (f, file)) (ET : ErrT a f d.params d.body d.scope) : ErrC K (ga K d.at_.1) (d.ad K) a f file := by
  obtain ⟨e, k⟩ := c.def0 i h
  unfold DefL.fw at e
  unfold DefL.ok at k
  rw [he] at e k
  exact errB_ok e k ET
/-- what is known of the text's names -/
structure Bs (fl : List Fl) (fn : List DefL) (K : PySem.W.Frag) (mg : Str → Option Value) : Prop where
  c : SaysL fl fn K
  h : ∃ h : Heap, K.In h ∧ h.Ns mainGlobals mg
section
variable {fl : List Fl} {fn : List DefL} {K : PySem.W.Frag} {mg : Str → Option Value}
theorem Bs.glo (B : Bs fl fn K mg) (i : Nat) {x : Str} (h : fl[i]? = some (.k (.glo x)) := by rfl) : mg x = some (.ref (ga K x)) := by
  obtain ⟨hp, X, G⟩ := B.h
  exact He.glo_ok X G (B.c.fact i h)
theorem Bs.free (B : Bs fl fn K mg) (i : Nat) {x : Str} (h : fl[i]? = some (.k (.free x)) := by rfl) : mg x = none := by
  obtain ⟨hp, X, G⟩ := B.h
  exact He.free_ok X G (B.c.fact i h)
theorem Bs.gc (B : Bs fl fn K mg) (i : Nat) {x : Str} {d : D} (h : fl[i]? = some (.gc x d) := by rfl) : ∃ u v, mg x = some u ∧ RelV v u ∧ ∀ T, Cst K T d v := by
  obtain ⟨hp, X, G⟩ := B.h
  exact gc_ok X G (B.c.fact i h)
theorem Bs.cls (B : Bs fl fn K mg) (i : Nat) {x : Str} (h : fl[i]? = some (.k (.cls x)) := by rfl) : Cls K (ga K x) := He.cls_ok (B.c.fact i h)
theorem Bs.exm (B : Bs fl fn K mg) (i : Nat) {x y : Str} {b : Bool} (h : fl[i]? = some (.exm x y b) := by rfl) : PySem.W.exmOne K (.ref (ga K x)) (.ref (ga K y)) = some b := of_decide_eq_true (B.c.fact i h)
theorem Bs.nty (B : Bs fl fn K mg) (i : Nat) {x : Str} {t : String} (h : fl[i]? = some (.nty x t) := by rfl) : PySem.W.kitOne K (.ref (ga K x)) (.type t) = some false := of_decide_eq_true (B.c.fact i h)
theorem Bs.ne (B : Bs fl fn K mg) (i : Nat) {x : Str} (h : fl[i]? = some (.ne x) := by rfl) : PySem.W.findIn K (.ref (ga K x)) "__ne__" = some (some (.builtin "object.__ne__")) := eqO_ok (B.c.fact i h)
theorem Bs.isi (B : Bs fl fn K mg) (i : Nat) {x : Str} (h : fl[i]? = some (.isi x) := by rfl) : IsiC K (ga K x) := isiB_ok (B.c.fact i h)
theorem Bs.noat (B : Bs fl fn K mg) (i : Nat) {x f : Str} (h : fl[i]? = some (.k (.noat x f)) := by rfl) : NoAttr K (ga K x) f := He.noat_ok (B.c.fact i h)
theorem Bs.meth (B : Bs fl fn K mg) (i : Nat) {x m : Str} (h : fl[i]? = some (.k (.meth x m)) := by rfl) : Meth K (ga K x) m (ma K (ga K x) m) := He.meth_ok (B.c.fact i h)
theorem Bs.mkr (B : Bs fl fn K mg) (i : Nat) {x : Str} (h : fl[i]? = some (.k (.mkr x)) := by rfl) : Mk K (ga K x) (ma K (ga K x) "__init__") := He.mkr_ok (B.c.fact i h)
theorem Bs.pr (B : Bs fl fn K mg) (i : Nat) {x f : Str} (h : fl[i]? = some (.pr x f) := by rfl) : PropOf K (ga K x) f (pgA K x f).1 (pgA K x f).2 := prB_ok (B.c.fact i h)
end
theorem fe_gc {X : Cx} {T : Tx} {W : WX} {pos : Pos} {x : Str} {d : D} (hg : Gl X x) (h : ∃ u v, X.mg x = some u ∧ RelV v u ∧ ∀ T, Cst X.K T d v) (hd : (x == ("__debug__" : Str)) = false := by decide) : FE X T W (.Name x pos) (eC d) := by
  obtain ⟨u, v, h1, h2, h3⟩ := h
  exact fe_glob hg h1 h2 (h3 T) hd
/-- a def by its facts -/
theorem def_okD {P : Program} {w : World} {K : PySem.W.Frag} {mg : Str → Option Value} {base : Heap} {T : Tx} {x qual : Str} {params : Arguments} {body : List Stmt} {scope : Scope} {dvs : List V} {kws : List (Str × V)} {f : Addr} {fd : FuncData} {N ps : List Str} {k : Nat} {u : FnS} (F : FunD K x qual params body scope dvs kws f fd) (S : FnScope N ps scope)
    (hb : ∀ (cdv : Value) (A : Around) (outer : List Env) (s : Shared) (H : Hp) (E : XK) (W : WX), RoomG k (A.deeper (envOfC qual scope s.heap.objs.size f cdv)) →
      Takes (cxOf (L2.CX P w) P w K mg base N qual scope f cdv A outer s H E) W → FSs (cxOf (L2.CX P w) P w K mg base N qual scope f cdv A outer s H E) T W body u) :
    FnL P w K mg base T (k + 1) f fd ps (runD N.length u) :=
  fnQ_of F S (fun vs H Q E h => h.1) fun cdv A outer s H vs Q E hr h => ⟨_, hb cdv A outer s H E _ hr (takes_of rfl rfl rfl rfl), def_read h⟩
/-! ### a law's end -/
def noH : Hp := fun _ => none
theorem law_sp {K : PySem.W.Frag} {T : Tx} {sem : Sem3} {H : Hp} {a : Addr} {ns : List Int} (hS : SqL K H a (ns.map V.int)) (hp : ∃ h', sem [.scr (ns.map D.int)] [] = .ok (.bl true) h') : sp3 K T 1 sem [.ref a] H (fun v _ => v = .bl true) fun _ _ _ => False := by
  obtain ⟨h', e⟩ := hp
  refine ⟨rfl, ⟨[], fun _ => none, H, noH⟩, [], [.scr (ns.map D.int)], ⟨rfl, fun a o h => h, fun a n h => absurd h (by simp), fun a o h => absurd h (by simp [noH]), fun n o h => absurd h (by simp)⟩, .cons (.scr hS ?_) .nil, ?_⟩
  · have : ∀ ns : List Int, RDs K T ⟨[], fun _ => none, H, noH⟩ (ns.map D.int) (ns.map V.int) := fun ns => by
      induction ns with
      | nil => exact .nil
      | cons n ns ih => exact .cons .int ih
    exact this ns
  · rw [e]
    intro G' H' v x r d
    cases d
    rfl
/-- the law's def, called on the script behind the top -/
theorem law_callQ {P : Program} {w : World} {K : PySem.W.Frag} {mg mb : Str → Option Value} {CX : CXT} {k : Nat} {fa a : Addr} {fd : FuncData} {x : Str} {sp : Sp} {s : Shared} {vs : List Value} {ns : List Int}
    (KX : K.In s.heap) (hns : s.heap.Ns mainGlobals mg) (hb : s.heap.Ns builtinsNs mb) (hbb : ∀ x : Str, x ≠ "__name__" → mb x = bootBuiltins x) (hlim : s.heap.NoLimit) (hg : s.gens = #[])
    (ha : s.heap.get? a = some { cls := .type "list", data := .seq vs.toArray }) (hi : IntsAre vs ns) (hl : ns.length ≤ sizeLine) (hr : Room k callerA)
    (F : ∀ base : Heap, FnQ P w K mg base CX k fa fd [x] sp) (bd : ∀ (s : Shared) (u : Value), BindsTo s fd ⟨[u], []⟩ [(x, u)])
    (hsp : ∀ H : Hp, SqL K H a (ns.map V.int) → sp [.ref a] H (fun v _ => v = .bl true) fun _ _ _ => False)
    (noex : ∀ H e s', CX [] H s (fun _ _ _ => False) e s' → False) :
    codeAny (model P w) callerA (.call (.ref fa) ⟨[.ref a], []⟩) (fun r s' => r = .ok (.ret (.bool true)) ∧ OldK s.heap s'.heap ∧ s'.os = s.os ∧ AllBare s'.gens) s := by
  have valsI := vals_ints hi
  have many := hi.length
  -- the heap that is told: nothing but the script, if it is no object of the module
  have main : ∀ H : Hp, (∀ b, H b = none ∨ (b = a ∧ K.lookup a = none ∧ ∃ o xs, H b = some (.frz o (.lst xs)))) → SqL K H a (ns.map V.int) → HOk P w H s.heap →
      codeAny (model P w) callerA (.call (.ref fa) ⟨[.ref a], []⟩) (fun r s' => r = .ok (.ret (.bool true)) ∧ OldK s.heap s'.heap ∧ s'.os = s.os ∧ AllBare s'.gens) s := by
    intro H told hS hok
    have notold : ∀ {b : Addr} {o : Obj}, s.heap.get? b = some o → (b = a → K.lookup a = none → False) → H b = none := fun {b o} e n => (told b).elim id fun q => (n q.1 q.2.1).elim
    have dicts : ∀ {b : Addr} {m : Str → Option Value}, s.heap.Ns b m → (hidT s.heap H).Ns b m := fun {b m} ⟨o, es, ep, e, d, r⟩ => ⟨o, es, ep, hidT_get e (notold e fun q _ => by
      subst q
      rw [ha] at e; cases e
      exact absurd (show Data.seq vs.toArray _ = Data.dict es ep from d) (by simp)), d, r⟩
    have kin : K.In (hidT s.heap H) := fun b o e => hidT_get (KX b o e) (notold (KX b o e) fun q n => by subst q; rw [n] at e; cases e)
    have md : Mod K mg (hidT s.heap H) := ⟨kin, dicts hns, ⟨mb, dicts hb, hbb⟩, let ⟨mc, h1, h2⟩ := hlim; ⟨mc, dicts h1, h2⟩⟩
    have e0 : Env0 P w K mg (hidT s.heap H) callerA [] s H := ⟨rfl, md, fun b o e => of_hidT e, Nat.le_of_eq (hidT_size _ _), trivial, fun b hb => absurd (show b ∈ ([] : List Addr) from hb) (by simp), hok, .of_eq hg⟩
    refine codeAny_mono ((F (hidT s.heap H)).go callerA [] s H ⟨[.ref a], []⟩ [.ref a] [.ref a] _ _ ⟨hr, rfl⟩ e0 (bd s (.ref a)) (.cons rfl .nil) (hsp H hS)) fun r s' h => ?_
    match r, h with
    | .error e, h => exact (noex H e s' h).elim
    | .ok .next, h => exact h.elim
    | .ok .brk, h => exact h.elim
    | .ok .cont, h => exact h.elim
    | .ok (.ret u), ⟨v, H', os, bare, un, hok', r', q⟩ =>
      have eq : v = .bl true := q
      subst eq
      cases (show u = Value.bool true from r')
      refine ⟨rfl, OldK.of_keep fun b o e => ?_, os, bare⟩
      rcases told b with q | ⟨_, _, ob, xs, q⟩
      · exact un.keep b o e q (by intro z; exact absurd (show b ∈ ([] : List Addr) from z) (by simp)) (by simp)
      · obtain ⟨e1, _⟩ := hok b _ q
        obtain ⟨e2, _⟩ := hok' b _ (un.frzs b ob _ q)
        rw [e] at e1; cases e1
        exact e2
  cases hk : K.lookup a with
  | some o =>
    have e := KX a o hk
    rw [ha] at e
    cases e
    exact main (fun _ => none) (fun _ => .inl rfl) (.inr ⟨_, vs.toArray, _, hk, rfl, rfl, rfl, by rw [List.size_toArray, many]; exact hl, by simpa using valsI⟩) fun b u z => absurd (show (none : Option HO) = some u from z) (by simp)
  | none =>
    refine main (fun b => if b = a then some (.frz { cls := .type "list", data := .seq vs.toArray } (.lst (ns.map V.int))) else none) (fun b => ?_) (.inl (.inr ⟨{ cls := .type "list", data := .seq vs.toArray }, if_pos rfl⟩)) fun b u z => ?_
    · by_cases q : b = a
      · exact .inr ⟨q, hk, _, _, if_pos q⟩
      · exact .inl (if_neg q)
    · by_cases q : b = a
      · have z' := (if_pos q).symm.trans z
        cases z'
        subst q
        exact ⟨ha, by rw [List.length_map]; exact hl, vs, _, valsI, ha⟩
      · have z' := (if_neg q).symm.trans z
        cases z'
theorem law_end {l : PySem.W.OpenLaw} {n k : Nat} {q : Program} {loose : List Str} {XP : (Str → Option Value) → Heap → Prop} {d : DefRec} {x : Str} {fl : List Fl} {fn : List DefL} {m : Nat} {sem : Sem3} {TX : PySem.W.Frag → Tx} {params : Arguments} {body : List Stmt} {scope : Scope} (hn : l.most = some n) (hn2 : n ≤ sizeLine) (hdf : d.params.defaults = []) (hr : Room k callerA)
    (hnm : d.name = x) (i : Nat) (hi : fl[i]? = some (.k (.glo x)))
    (F : ∀ (w : World) (mg : Str → Option Value) (K : PySem.W.Frag), Bs fl fn K mg → ∃ fd, (∀ base, FnL l.prog w K mg base (TX K) k (ga K x) fd ["_law_script"] sem) ∧ ∀ (s : Shared) (u : Value), BindsTo s fd ⟨[u], []⟩ [("_law_script", u)])
    (hp : ∀ ns : List Int, ns.length ≤ n → ∃ h', sem [.scr (ns.map D.int)] [] = .ok (.bl true) h') :
    PySem.W.WalkO q loose XP (hookL m fl fn).says l.row.toRowW d [] (fun f vs => PySem.call f vs) := by
  refine Att.attach_call hn hdf fun w s0 s1 mg mb fa o pm cd doc a vs ns G Y ho hd hcd hmg hobj hints hlen hg => ?_
  obtain ⟨K, KX, c⟩ := Y
  have B : Bs fl fn K mg := ⟨c, _, KX, G.T.g⟩
  obtain ⟨fd, hF, hb⟩ := F w mg K B
  have e := (hnm ▸ hmg : mg x = some (.ref fa)).symm.trans (B.glo i hi)
  cases e
  exact law_callQ KX G.T.g G.T.b G.T.builtins G.T.nolimit hg hobj hints (Nat.le_trans hlen hn2) hr hF hb (fun H hS => law_sp hS (hp ns hlen)) fun H e s' z => by
    obtain ⟨_, _, _, _, _, _, _, _, _, _, _, _, f⟩ := z
    exact f
end L3
set_option autoImplicit false
set_option maxHeartbeats 4000000
/-! L3K: rows for plain reckoning. -/
namespace L3
open PySem PySem.Spec L2
theorem addI (i j : Int) (h : Hh) : addD (.int i) (.int j) h = .ok (.int (i + j)) h := rfl
theorem subI (i j : Int) (h : Hh) : subD (.int i) (.int j) h = .ok (.int (i - j)) h := rfl
theorem negI (i : Int) (h : Hh) : negD (.int i) h = .ok (.int (-i)) h := rfl
theorem mulL {i j : Int} (h : Hh) (h1 : -18446744073709551616 < i) (h2 : i < 18446744073709551616) : mulD (.int i) (.int j) h = .ok (.int (i * j)) h := by
  have e : mulOk i j = true := by
    unfold mulOk
    simp only [Bool.or_eq_true, Bool.and_eq_true, decide_eq_true_eq]
    exact .inl (.inl ⟨by omega, by omega⟩)
  show (if mulOk i j = true then R.ok (D.int (i * j)) h else .stk) = _
  rw [if_pos e]
theorem mulR {i j : Int} (h : Hh) (h1 : -18446744073709551616 < j) (h2 : j < 18446744073709551616) : mulD (.int i) (.int j) h = .ok (.int (i * j)) h := by
  have e : mulOk i j = true := by
    unfold mulOk
    simp only [Bool.or_eq_true, Bool.and_eq_true, decide_eq_true_eq]
    exact .inl (.inr ⟨by omega, by omega⟩)
  show (if mulOk i j = true then R.ok (D.int (i * j)) h else .stk) = _
  rw [if_pos e]
theorem divI {i j : Int} (h : Hh) (h1 : 0 < j) (h2 : j < 18446744073709551616) : divD (.int i) (.int j) h = .ok (.int (i / j)) h := by
  show (if 0 < j ∧ j.natAbs.log2 < 9000 then R.ok (D.int (i / j)) h else .stk) = _
  rw [if_pos ⟨h1, (wide_div (i := i) (b := 64) h1 (by omega) (by decide) (by decide)).2⟩]
theorem divW {i j : Int} {b : Nat} (h : Hh) (h1 : 0 < j) (h2 : j.natAbs < 2 ^ b) (h0 : 0 < b) (h9 : b ≤ 9000) : divD (.int i) (.int j) h = .ok (.int (i / j)) h := by
  show (if 0 < j ∧ j.natAbs.log2 < 9000 then R.ok (D.int (i / j)) h else .stk) = _
  rw [if_pos ⟨h1, (wide_div (i := i) h1 h2 h0 h9).2⟩]
theorem mulW {i j : Int} {a b : Nat} (h : Hh) (ha : i.natAbs < 2 ^ a) (hb : j.natAbs < 2 ^ b) (h0 : 0 < a) (h1 : 0 < b) (hs : a + b ≤ 1000000) : mulD (.int i) (.int j) h = .ok (.int (i * j)) h := by
  have w : i.natAbs.log2 + j.natAbs.log2 < 1000000 := wide_mul ha hb h0 h1 hs
  have e : mulOk i j = true := by
    unfold mulOk
    simp only [Bool.or_eq_true, Bool.and_eq_true, decide_eq_true_eq]
    exact .inr w
  show (if mulOk i j = true then R.ok (D.int (i * j)) h else .stk) = _
  rw [if_pos e]
theorem absI (i : Int) (h : Hh) : absD (.int i) h = .ok (.int (if i < 0 then -i else i)) h := rfl
theorem max2I (i j : Int) (h : Hh) : max2B [.int i, .int j] h = .ok (.int (if j > i then j else i)) h := rfl
theorem min2I (i j : Int) (h : Hh) : min2B [.int i, .int j] h = .ok (.int (if j < i then j else i)) h := rfl
theorem modI {i j : Int} (h : Hh) (h1 : 0 < j) : modD (.int i) (.int j) h = .ok (.int (i % j)) h := by
  show (if 0 < j then R.ok (D.int (i % j)) h else .stk) = _
  rw [if_pos h1]
theorem ltI (i j : Int) (h : Hh) : ltD (.int i) (.int j) h = .ok (.bl (decide (i < j))) h := rfl
theorem leI (i j : Int) (h : Hh) : leD (.int i) (.int j) h = .ok (.bl (decide (i ≤ j))) h := rfl
theorem gtI (i j : Int) (h : Hh) : gtD (.int i) (.int j) h = .ok (.bl (decide (j < i))) h := rfl
theorem geI (i j : Int) (h : Hh) : geD (.int i) (.int j) h = .ok (.bl (decide (j ≤ i))) h := rfl
theorem eqvI (i j : Int) : eqv (.int i) (.int j) = decide (i = j) := by simp [eqv, pd, PyData.eqv]; rfl
theorem eqvB (i j : Bool) : eqv (.bl i) (.bl j) = decide (i = j) := by cases i <;> cases j <;> simp [eqv, pd, PyData.eqv]
theorem eqI (i j : Int) (h : Hh) : eqD (.int i) (.int j) h = .ok (.bl (decide (i = j))) h := by
  simp [eqD, deref, flat, eqvI]
theorem neI (i j : Int) (h : Hh) : neD (.int i) (.int j) h = .ok (.bl (!decide (i = j))) h := by
  simp [neD, deref, flat, eqvI]
theorem flats_ints (k : Nat) : ∀ xs : List Int, flats k (xs.map D.int) = true
  | [] => by simp [flats]
  | x :: xs => by simp [flats, flat, flats_ints k xs]
theorem flats_bls (k : Nat) : ∀ xs : List Bool, flats k (xs.map D.bl) = true
  | [] => by simp [flats]
  | x :: xs => by simp [flats, flat, flats_bls k xs]
theorem eqv_nil (ds : List D) : eqv (.lst ds) (.lst []) = ds.isEmpty := by
  cases ds <;> simp [eqv, pd, pds, PyData.eqv, PyData.eqvAll]
/-- list of ints != [] -/
theorem neNil {h : Hh} {n : Nat} {xs : List Int} (e : h[n]? = some (.lst (xs.map D.int))) : neD (.ref n) (.lst []) h = .ok (.bl (!xs.isEmpty)) h := by
  have d : deref h (.ref n) = .lst (xs.map D.int) := by unfold deref; dsimp only; rw [e]
  have f : flat 60 (D.lst (xs.map D.int)) = true := by simp only [flat]; exact flats_ints 59 xs
  have f0 : flat 60 (D.lst []) = true := by simp [flat, flats]
  have d0 : deref h (.lst []) = .lst [] := rfl
  unfold neD
  rw [d, d0, if_pos ⟨f, f0⟩, eqv_nil]
  cases xs <;> rfl
theorem ixDic {h : Hh} {n : Nat} {ks vs : List D} {x : D} (e : h[n]? = some (.dic ks vs)) (hx : isKey x = true) : ixA (.ref n) x h = optR (lookD ks vs x) h := by
  have a : asDic h (.ref n) = some (ks, vs) := by unfold asDic; dsimp only; rw [e]
  unfold ixA
  rw [a]
  simp only [hx, if_true]
theorem ixLstR {h : Hh} {n : Nat} {ds : List D} {x : D} (e : h[n]? = some (.lst ds)) : ixA (.ref n) x h = ixD (.lst ds) x h := by
  have a : asDic h (.ref n) = none := by unfold asDic; dsimp only; rw [e]
  have l : asL h (.ref n) = some ds := by unfold asL; dsimp only; rw [e]
  unfold ixA
  rw [a]
  have l2 : asL h (.lst ds) = some ds := rfl
  cases x <;> simp only [ixD, l, l2]
theorem ixTup {ds : List D} {x : D} {h : Hh} : ixA (.tup ds) x h = ixD (.tup ds) x h := rfl
theorem ixLst {ds : List D} {x : D} {h : Hh} : ixA (.lst ds) x h = ixD (.lst ds) x h := rfl
theorem atI_some {α : Type} {xs : List α} {i : Int} {d : α} (h0 : 0 ≤ i) (e : xs[i.toNat]? = some d) : atI xs i = some d := by
  have hl := (List.getElem?_eq_some_iff.mp e).1
  unfold atI ixN
  rw [if_pos h0, if_pos (by omega)]
  exact e
theorem ixTupAt {ds : List D} {i : Int} {d : D} {h : Hh} (h0 : 0 ≤ i) (e : ds[i.toNat]? = some d) : ixA (.tup ds) (.int i) h = .ok d h := by
  rw [ixTup]; unfold ixD; dsimp only; rw [atI_some h0 e]
theorem ixLstAt {ds : List D} {i : Int} {d : D} {h : Hh} (h0 : 0 ≤ i) (e : ds[i.toNat]? = some d) : ixA (.lst ds) (.int i) h = .ok d h := by
  rw [ixLst]
  have a : asL h (.lst ds) = some ds := rfl
  unfold ixD
  simp only [a, atI_some h0 e]
theorem ixRefAt {h : Hh} {n : Nat} {ds : List D} {i : Int} {d : D} (e : h[n]? = some (.lst ds)) (h0 : 0 ≤ i) (e2 : ds[i.toNat]? = some d) : ixA (.ref n) (.int i) h = .ok d h := by
  rw [ixLstR e, ← ixLst]
  exact ixLstAt h0 e2
theorem tup0 {a0 : D} {r : List D} {h : Hh} : ixA (.tup (a0 :: r)) (.int 0) h = .ok a0 h := ixTupAt (by omega) rfl
theorem tup1 {a0 a1 : D} {r : List D} {h : Hh} : ixA (.tup (a0 :: a1 :: r)) (.int 1) h = .ok a1 h := ixTupAt (by omega) rfl
theorem tup2 {a0 a1 a2 : D} {r : List D} {h : Hh} : ixA (.tup (a0 :: a1 :: a2 :: r)) (.int 2) h = .ok a2 h := ixTupAt (by omega) rfl
theorem tup3 {a0 a1 a2 a3 : D} {r : List D} {h : Hh} : ixA (.tup (a0 :: a1 :: a2 :: a3 :: r)) (.int 3) h = .ok a3 h := ixTupAt (by omega) rfl
theorem tup4 {a0 a1 a2 a3 a4 : D} {r : List D} {h : Hh} : ixA (.tup (a0 :: a1 :: a2 :: a3 :: a4 :: r)) (.int 4) h = .ok a4 h := ixTupAt (by omega) rfl
theorem tup5 {a0 a1 a2 a3 a4 a5 : D} {r : List D} {h : Hh} : ixA (.tup (a0 :: a1 :: a2 :: a3 :: a4 :: a5 :: r)) (.int 5) h = .ok a5 h := ixTupAt (by omega) rfl
theorem tup6 {a0 a1 a2 a3 a4 a5 a6 : D} {r : List D} {h : Hh} : ixA (.tup (a0 :: a1 :: a2 :: a3 :: a4 :: a5 :: a6 :: r)) (.int 6) h = .ok a6 h := ixTupAt (by omega) rfl
theorem tup7 {a0 a1 a2 a3 a4 a5 a6 a7 : D} {r : List D} {h : Hh} : ixA (.tup (a0 :: a1 :: a2 :: a3 :: a4 :: a5 :: a6 :: a7 :: r)) (.int 7) h = .ok a7 h := ixTupAt (by omega) rfl
theorem lst0 {a0 : D} {r : List D} {h : Hh} : ixA (.lst (a0 :: r)) (.int 0) h = .ok a0 h := ixLstAt (by omega) rfl
theorem lst1 {a0 a1 : D} {r : List D} {h : Hh} : ixA (.lst (a0 :: a1 :: r)) (.int 1) h = .ok a1 h := ixLstAt (by omega) rfl
theorem lst2 {a0 a1 a2 : D} {r : List D} {h : Hh} : ixA (.lst (a0 :: a1 :: a2 :: r)) (.int 2) h = .ok a2 h := ixLstAt (by omega) rfl
theorem lst3 {a0 a1 a2 a3 : D} {r : List D} {h : Hh} : ixA (.lst (a0 :: a1 :: a2 :: a3 :: r)) (.int 3) h = .ok a3 h := ixLstAt (by omega) rfl
theorem lst4 {a0 a1 a2 a3 a4 : D} {r : List D} {h : Hh} : ixA (.lst (a0 :: a1 :: a2 :: a3 :: a4 :: r)) (.int 4) h = .ok a4 h := ixLstAt (by omega) rfl
theorem lst5 {a0 a1 a2 a3 a4 a5 : D} {r : List D} {h : Hh} : ixA (.lst (a0 :: a1 :: a2 :: a3 :: a4 :: a5 :: r)) (.int 5) h = .ok a5 h := ixLstAt (by omega) rfl
theorem lst6 {a0 a1 a2 a3 a4 a5 a6 : D} {r : List D} {h : Hh} : ixA (.lst (a0 :: a1 :: a2 :: a3 :: a4 :: a5 :: a6 :: r)) (.int 6) h = .ok a6 h := ixLstAt (by omega) rfl
theorem lst7 {a0 a1 a2 a3 a4 a5 a6 a7 : D} {r : List D} {h : Hh} : ixA (.lst (a0 :: a1 :: a2 :: a3 :: a4 :: a5 :: a6 :: a7 :: r)) (.int 7) h = .ok a7 h := ixLstAt (by omega) rfl
theorem keyTest : ∀ (a b : List Nat), keyEq (.str a) (.str b) = decide (a = b) := fun _ _ => rfl
theorem intB1 (i : Int) (h : Hh) : intB [.int i] h = .ok (.int i) h := rfl
theorem intB2 (b : Bool) (h : Hh) : intB [.bl b] h = .ok (.int (if b then 1 else 0)) h := rfl
theorem lenTup (ds : List D) (h : Hh) : lenB [.tup ds] h = .ok (.int ds.length) h := rfl
theorem lenLst (ds : List D) (h : Hh) : lenB [.lst ds] h = .ok (.int ds.length) h := rfl
theorem lenScr (ds : List D) (h : Hh) : lenB [.scr ds] h = .ok (.int ds.length) h := rfl
theorem lenRef {h : Hh} {n : Nat} {ds : List D} (e : h[n]? = some (.lst ds)) : lenB [.ref n] h = .ok (.int ds.length) h := by
  show lenD (.ref n) h = _
  have l : asL h (.ref n) = some ds := by unfold asL; dsimp only; rw [e]
  unfold lenD
  simp only [l]
theorem setRef {h : Hh} {n : Nat} {ds : List D} {i : Int} {y : D} (e : h[n]? = some (.lst ds)) (h0 : 0 ≤ i) (h1 : i < ds.length) : setOne (.ref n) (.int i) y h = some (h.set n (.lst (ds.set i.toNat y))) := by
  unfold setOne ixN
  dsimp only
  rw [e]
  dsimp only
  rw [if_pos h0, if_pos h1]
theorem setDic {h : Hh} {n : Nat} {ks vs : List D} {i y : D} (e : h[n]? = some (.dic ks vs)) (h0 : isKey i = true) (h1 : ks.length < 1000000) : setOne (.ref n) i y h = some (h.set n (.dic (putKs ks i) (putVs ks vs i y))) := by
  unfold setOne
  dsimp only
  rw [e]
  dsimp only
  rw [if_pos ⟨h0, h1⟩]
/-- h' has all of h -/
def Keep (h h' : Hh) : Prop := h.length ≤ h'.length ∧ ∀ j, j < h.length → h'[j]? = h[j]?
theorem Keep.refl (h : Hh) : Keep h h := ⟨Nat.le_refl _, fun _ _ => rfl⟩
theorem Keep.trans {h h1 h2 : Hh} (a : Keep h h1) (b : Keep h1 h2) : Keep h h2 := ⟨Nat.le_trans a.1 b.1, fun j hj => (b.2 j (Nat.lt_of_lt_of_le hj a.1)).trans (a.2 j hj)⟩
theorem Keep.app (h t : Hh) : Keep h (h ++ t) := ⟨by simp, fun j hj => List.getElem?_append_left hj⟩
/-! step by step -/
theorem bindOk {α β : Type} (x : α) (h : Hh) (k : α → Hh → R β) : (R.ok x h).bind k = k x h := rfl
theorem bindExc {α β : Type} (c : Nat) (ds : List D) (h : Hh) (k : α → Hh → R β) : (R.exc (α := α) c ds h).bind k = .exc c ds h := rfl
theorem bindStk {α β : Type} (k : α → Hh → R β) : (R.stk (α := α)).bind k = .stk := rfl
theorem toSOk {α : Type} (x : α) (h : Hh) (δ : De) (k : α → Hh → RS) : (R.ok x h).toS δ k = k x h := rfl
theorem toSExc {α : Type} (c : Nat) (ds : List D) (h : Hh) (δ : De) (k : α → Hh → RS) : (R.exc (α := α) c ds h).toS δ k = .exc c ds δ h := rfl
def seqK (r : RS) (v : FnS) : RS := match r with
  | .nx δ' h' => v δ' h'
  | r => r
theorem seqE (u v : FnS) (δ : De) (h : Hh) : sSeq u v δ h = seqK (u δ h) v := by
  unfold sSeq seqK; cases u δ h <;> rfl
theorem seqNx (δ : De) (h : Hh) (v : FnS) : seqK (.nx δ h) v = v δ h := rfl
theorem seqRt (d : D) (h : Hh) (v : FnS) : seqK (.rt d h) v = .rt d h := rfl
theorem seqExc (c : Nat) (ds : List D) (δ : De) (h : Hh) (v : FnS) : seqK (.exc c ds δ h) v = .exc c ds δ h := rfl
theorem endRt (d : D) (h : Hh) : endD (.rt d h) = .ok d h := rfl
theorem endNx (δ : De) (h : Hh) : endD (.nx δ h) = .ok .non h := rfl
theorem endExc (c : Nat) (ds : List D) (δ : De) (h : Hh) : endD (.exc c ds δ h) = .exc c ds h := rfl
def lcC (r : R D) (k : Hh → R (List D)) : R (List D) := match r with
  | .ok y h2 => (k h2).bind fun ys h3 => .ok (y :: ys) h3
  | _ => .stk
def lcB (r : R Bool) (e : Hh → R D) (k : Hh → R (List D)) : R (List D) := match r with
  | .ok b h1 => if b = true then lcC (e h1) k else k h1
  | _ => .stk
def lcA (o : Option De) (t : FnT) (e : FnE) (k : Hh → R (List D)) (h : Hh) : R (List D) := match o with
  | none => .stk
  | some δ1 => lcB (t δ1 h) (e δ1) k
theorem lcNil (g : FnG) (t : FnT) (e : FnE) (δ : De) (h : Hh) : lcs g t e δ [] h = .ok [] h := rfl
theorem lcCons (g : FnG) (t : FnT) (e : FnE) (δ : De) (d : D) (ds : List D) (h : Hh) : lcs g t e δ (d :: ds) h = lcA (g d δ) t e (fun h => lcs g t e δ ds h) h := by
  show (match g d δ with
    | none => R.stk
    | some δ1 => match t δ1 h with
      | .ok b h1 => if b = true then
          match e δ1 h1 with
          | .ok y h2 => (lcs g t e δ ds h2).bind fun ys h3 => .ok (y :: ys) h3
          | _ => .stk
        else lcs g t e δ ds h1
      | _ => .stk) = _
  unfold lcA lcB lcC
  cases g d δ with
  | none => rfl
  | some δ1 => rfl
theorem lcAS (δ1 : De) (t : FnT) (e : FnE) (k : Hh → R (List D)) (h : Hh) : lcA (some δ1) t e k h = lcB (t δ1 h) (e δ1) k := rfl
theorem lcBT (h1 : Hh) (e : Hh → R D) (k : Hh → R (List D)) : lcB (.ok true h1) e k = lcC (e h1) k := rfl
theorem lcBF (h1 : Hh) (e : Hh → R D) (k : Hh → R (List D)) : lcB (.ok false h1) e k = k h1 := rfl
theorem lcCO (y : D) (h2 : Hh) (k : Hh → R (List D)) : lcC (.ok y h2) k = (k h2).bind fun ys h3 => .ok (y :: ys) h3 := rfl
def loK (r : RS) (k : De → Hh → RS) : RS := match r with
  | .nx δ2 h2 => k δ2 h2
  | .ct δ2 h2 => k δ2 h2
  | .bk δ2 h2 => .nx δ2 h2
  | r => r
def loA (o : Option De) (u : FnS) (k : De → Hh → RS) (h : Hh) : RS := match o with
  | none => .stk
  | some δ1 => loK (u δ1 h) k
theorem loNil (g : FnG) (u : FnS) (δ : De) (h : Hh) : loop3 g u [] δ h = .nx δ h := rfl
theorem loCons (g : FnG) (u : FnS) (d : D) (ds : List D) (δ : De) (h : Hh) : loop3 g u (d :: ds) δ h = loA (g d δ) u (fun δ h => loop3 g u ds δ h) h := by
  show (match g d δ with
    | none => RS.stk
    | some δ1 => match u δ1 h with
      | .nx δ2 h2 => loop3 g u ds δ2 h2
      | .ct δ2 h2 => loop3 g u ds δ2 h2
      | .bk δ2 h2 => .nx δ2 h2
      | r => r) = _
  unfold loA loK
  cases g d δ with
  | none => rfl
  | some δ1 => rfl
theorem loAS (δ1 : De) (u : FnS) (k : De → Hh → RS) (h : Hh) : loA (some δ1) u k h = loK (u δ1 h) k := rfl
theorem loNx (δ : De) (h : Hh) (k : De → Hh → RS) : loK (.nx δ h) k = k δ h := rfl
theorem loCt (δ : De) (h : Hh) (k : De → Hh → RS) : loK (.ct δ h) k = k δ h := rfl
theorem loBk (δ : De) (h : Hh) (k : De → Hh → RS) : loK (.bk δ h) k = .nx δ h := rfl
theorem loRt (d : D) (h : Hh) (k : De → Hh → RS) : loK (.rt d h) k = .rt d h := rfl
/-- a loop by an invariant -/
theorem loop_ok {g : FnG} {u : FnS} (I : Nat → De → Hh → Prop) : ∀ (items : List D) (n : Nat) (δ : De) (h : Hh), I n δ h →
    (∀ i d, items[i]? = some d → ∀ δ h, I (n + i) δ h → ∃ δ1 δ2 h2, g d δ = some δ1 ∧ (u δ1 h = .nx δ2 h2 ∨ u δ1 h = .ct δ2 h2) ∧ I (n + i + 1) δ2 h2) → ∃ δ' h', loop3 g u items δ h = .nx δ' h' ∧ I (n + items.length) δ' h'
  | [], n, δ, h, z, _ => ⟨δ, h, rfl, z⟩
  | d :: ds, n, δ, h, z, st => by
    obtain ⟨δ1, δ2, h2, e1, e2, z2⟩ := st 0 d rfl δ h z
    obtain ⟨δ', h', e3, z3⟩ := loop_ok I ds (n + 1) δ2 h2 z2 fun i d' e δ h zz => by
      have := st (i + 1) d' (by simpa using e) δ h (by rw [show n + (i + 1) = n + 1 + i by omega]; exact zz)
      rw [show n + (i + 1) + 1 = n + 1 + i + 1 by omega] at this
      exact this
    refine ⟨δ', h', ?_, by rw [List.length_cons, show n + (ds.length + 1) = n + 1 + ds.length by omega]; exact z3⟩
    rw [loCons, e1, loAS]
    rcases e2 with e2 | e2
    · rw [e2, loNx]; exact e3
    · rw [e2, loCt]; exact e3
theorem rg_get {lo : Int} {n i : Nat} {d : D} (e : (rgD lo n)[i]? = some d) : i < n ∧ d = .int (lo + i) := by
  unfold rgD at e
  rw [List.getElem?_map] at e
  obtain ⟨j, ej, rfl⟩ := Option.map_eq_some_iff.mp e
  obtain ⟨hj, e2⟩ := List.getElem?_eq_some_iff.mp ej
  simp at e2 hj
  subst e2
  exact ⟨hj, rfl⟩
theorem rg_len (lo : Int) (n : Nat) : (rgD lo n).length = n := by simp [rgD]
theorem clsObj (c : Nat) (ds : List D) (h : Hh) : clsOf h (.obj c ds) = some c := rfl
theorem set_last (h : Hh) (o u : O) : (h ++ [o]).set h.length u = h ++ [u] := by simp
theorem get_last (h : Hh) (o : O) : (h ++ [o])[h.length]? = some o := by simp
theorem mut_last (h : Hh) (ds : List D) : mutL (h ++ [.lst ds]) (.ref h.length) = some (h.length, ds) := by
  unfold mutL; dsimp only; rw [get_last]
theorem optS (d : D) (h : Hh) : optR (some d) h = .ok d h := rfl
theorem rg1 : rgD 0 1 = [.int 0] := rfl
theorem rg2 : rgD 0 2 = [.int 0, .int 1] := rfl
theorem rg3 : rgD 0 3 = [.int 0, .int 1, .int 2] := rfl
theorem rg4 : rgD 0 4 = [.int 0, .int 1, .int 2, .int 3] := rfl
theorem rg5 : rgD 0 5 = [.int 0, .int 1, .int 2, .int 3, .int 4] := rfl
theorem rg6 : rgD 0 6 = [.int 0, .int 1, .int 2, .int 3, .int 4, .int 5] := rfl
theorem rg7 : rgD 0 7 = [.int 0, .int 1, .int 2, .int 3, .int 4, .int 5, .int 6] := rfl
theorem rg8 : rgD 0 8 = [.int 0, .int 1, .int 2, .int 3, .int 4, .int 5, .int 6, .int 7] := rfl
end L3
set_option autoImplicit false
set_option maxHeartbeats 4000000
/-! L3L: repr of plain data. -/
namespace L3
open PySem PySem.Spec L2
mutual
def smallD : D → Bool
  | .int i => decide (i.natAbs < 10 ^ 40)
  | .str x => x.all fun c => decide (c < 16 ^ 8)
  | .tup ds => smallDs ds
  | .lst ds => smallDs ds
  | _ => true
def smallDs : List D → Bool
  | [] => true
  | d :: ds => smallD d && smallDs ds
end
mutual
def wtD : D → Nat
  | .int _ => 140
  | .str x => x.length
  | .tup ds => wtDs ds
  | .lst ds => wtDs ds
  | _ => 0
def wtDs : List D → Nat
  | [] => 0
  | d :: ds => wtD d + 1 + wtDs ds
end
mutual
theorem small_ok : ∀ (d : D) (k : Nat), flat k d = true → smallD d = true → (pd d).showable = true ∧ (pd d).leavesShort 41 = true ∧ (pd d).weight ≤ wtD d ∧ (pd d).hasDict = false
  | .non, _, _, _ => ⟨rfl, rfl, Nat.zero_le _, rfl⟩
  | .bl _, _, _, _ => by simp [pd, PyData.showable, PyData.leavesShort, PyData.weight, PyData.hasDict]
  | .int i, _, _, s => by
    have s' : i.natAbs < 10 ^ 40 := by simpa [smallD] using s
    have e := int_text_length_le10 (k := 40) (by decide) s'
    have e2 : (PyData.shown (.int i)).length ≤ 41 := by
      show (Str.ofString (toString i)).length ≤ 41
      rw [ofString_length]; exact e
    have big : (10 : Nat) ^ 40 < 2 ^ 139 := by decide
    have lg : i.natAbs = 0 ∨ i.natAbs.log2 < 139 := by
      by_cases z : i.natAbs = 0
      · exact .inl z
      · exact .inr ((Nat.log2_lt z).mpr (by omega))
    have lg2 : i.natAbs.log2 < 139 := by
      rcases lg with z | z
      · rw [z]; decide
      · exact z
    refine ⟨?_, ?_, ?_, ?_⟩
    · simp only [pd, PyData.showable, decide_eq_true_eq]; omega
    · simp only [pd, PyData.leavesShort, decide_eq_true_eq]; exact e2
    · simp only [pd, PyData.weight, wtD]; split <;> omega
    · simp only [pd, PyData.hasDict]
  | .str x, _, _, s => by
    refine ⟨?_, ?_, ?_, ?_⟩
    · simp only [pd, PyData.showable]
    · simp only [pd, PyData.leavesShort]; simpa [smallD] using s
    · simp [pd, PyData.weight, wtD]
    · simp only [pd, PyData.hasDict]
  | .tup ds, 0, h, _ => nomatch (show false = true by simpa [flat] using h)
  | .tup ds, k + 1, h, s => by
    obtain ⟨a, b, c, e⟩ := smalls_ok ds k (by simpa [flat] using h) (by simpa [smallD] using s)
    refine ⟨?_, ?_, ?_, ?_⟩
    · simp only [pd, PyData.showable]; exact a
    · simp only [pd, PyData.leavesShort]; exact b
    · simp only [pd, PyData.weight, wtD]; exact c
    · simp only [pd, PyData.hasDict]; exact e
  | .lst ds, 0, h, _ => nomatch (show false = true by simpa [flat] using h)
  | .lst ds, k + 1, h, s => by
    obtain ⟨a, b, c, e⟩ := smalls_ok ds k (by simpa [flat] using h) (by simpa [smallD] using s)
    refine ⟨?_, ?_, ?_, ?_⟩
    · simp only [pd, PyData.showable]; exact a
    · simp only [pd, PyData.leavesShort]; exact b
    · simp only [pd, PyData.weight, wtD]; exact c
    · simp only [pd, PyData.hasDict]; exact e
  | .dic _ _, k, h, _ => by cases k <;> exact nomatch (show false = true by simpa [flat] using h)
  | .obj _ _, k, h, _ => by cases k <;> exact nomatch (show false = true by simpa [flat] using h)
  | .ref _, k, h, _ => by cases k <;> exact nomatch (show false = true by simpa [flat] using h)
  | .scr _, k, h, _ => by cases k <;> exact nomatch (show false = true by simpa [flat] using h)
theorem smalls_ok : ∀ (ds : List D) (k : Nat), flats k ds = true → smallDs ds = true → PyData.showableAll (pds ds) = true ∧ PyData.leavesShortAll 41 (pds ds) = true ∧ PyData.weightAll (pds ds) ≤ wtDs ds ∧ PyData.hasDictAll (pds ds) = false
  | [], _, _, _ => ⟨rfl, rfl, Nat.le_refl _, rfl⟩
  | d :: ds, k, h, s => by
    have h' : flat k d = true ∧ flats k ds = true := by simpa [flats] using h
    have s' : smallD d = true ∧ smallDs ds = true := by simpa [smallDs] using s
    obtain ⟨a, b, c, e⟩ := small_ok d k h'.1 s'.1
    obtain ⟨a', b', c', e'⟩ := smalls_ok ds k h'.2 s'.2
    refine ⟨?_, ?_, ?_, ?_⟩
    · simp only [pds, PyData.showableAll, a, a', Bool.and_self]
    · simp only [pds, PyData.leavesShortAll, b, b', Bool.and_self]
    · simp only [pds, PyData.weightAll, wtDs]; omega
    · simp only [pds, PyData.hasDictAll, e, e', Bool.or_self]
end
/-- the text of a value -/
def showL (d : D) : List Nat := (pd d).shown.cps.toList
def reprD (x : D) (h : Hh) : R D := if (flat 60 (deref h x) && (smallD (deref h x) && decide (wtD (deref h x) ≤ 300000))) = true then .ok (.str (showL (deref h x))) h else .stk
abbrev reprB : FB := one reprD
section
variable {X : Cx} {T : Tx} {W : WX} {pos : Pos}
def rRepr (K : PySem.W.Frag) : List V → Hp → VK → Prop := fun xs H Q => ∃ x d, xs = [x] ∧ Dp K H x d ∧ d.showable = true ∧ d.hasDict = false ∧ d.depth ≤ 60 ∧ d.shown.length ≤ sizeLine ∧ Q (.str d.shown) H
theorem call_reprP (hu : X.A.units + 64 < cLine) (hg : X.A.guards = some []) : CallR X (.builtin "repr") (rRepr X.K) := by
  intro pins s σ H xs us Q I r h
  obtain ⟨x, d, rfl, dp, hs, hd, hn, hz, q⟩ := h
  obtain ⟨u, rfl, ru⟩ := vals1 r
  obtain ⟨as, rd⟩ := Dp.reads I d x u dp ru
  cases rd with
  | none => exact PySem.P.repr_of_none ⟨.str "None", H, I.tok _, ⟨_, rfl⟩, q⟩
  | bool b => exact PySem.P.repr_of_bool ⟨.str _, H, I.tok _, ⟨_, rfl⟩, q⟩
  | int i t => exact PySem.P.repr_of_int (by simpa [PyData.showable] using hs) ⟨.str _, H, I.tok _, ⟨_, rfl⟩, q⟩
  | str y t => exact PySem.P.repr_of_str ⟨.str _, H, I.tok _, ⟨_, rfl⟩, q⟩ (by simpa only [PyData.shown] using hz)
  | list h1 h2 h3 h4 => exact repr_of_reads' (.list h1 h2 h3 h4) hs (PyData.noDict_hsm hd) hg (by omega) (fun _ _ e => e) (fun h' v tk hk => ⟨.str _, H, I.kept hk, ⟨_, rfl⟩, q⟩) hz
  | tuple h1 h2 h3 h4 => exact repr_of_reads' (.tuple h1 h2 h3 h4) hs (PyData.noDict_hsm hd) hg (by omega) (fun _ _ e => e) (fun h' v tk hk => ⟨.str _, H, I.kept hk, ⟨_, rfl⟩, q⟩) hz
  | dict => exact absurd hd (by simp [PyData.hasDict])
theorem cs_repr : CallS X T (rRepr X.K) reprB := by
  intro W G h H σ ds vs Q r d o
  match ds, vs, d with
  | [], _, _ => exact o.elim
  | _ :: _ :: _, _, _ => exact o.elim
  | [x], [v], .cons d1 .nil =>
    have o : okR X.K T W G σ (RD X.K T) (reprD x h) Q := o
    unfold reprD at o
    by_cases c : (flat 60 (deref h x) && (smallD (deref h x) && decide (wtD (deref h x) ≤ 300000))) = true
    · rw [if_pos c] at o
      simp only [Bool.and_eq_true, decide_eq_true_eq] at c
      obtain ⟨p1, n1⟩ := flat_pd _ _ c.1
      obtain ⟨z1, z2, z3, z4⟩ := small_ok _ _ c.1 c.2.1
      have len := PyData.shown_le 41 (by decide) _ z2
      refine ⟨v, pd (deref h x), rfl, deref_dp r d1 c.1, z1, z4, n1, ?_, ?_⟩
      · rw [sizeLine_eq]; omega
      · have e : (pd (deref h x)).shown = ⟨(showL (deref h x)).toArray⟩ := by simp [showL]
        rw [e]
        exact o.at r .str
    · rw [if_neg c] at o; exact o.elim
end
theorem eqStr (a b : List Nat) (h : Hh) : eqD (.str a) (.str b) h = .ok (.bl (decide (a = b))) h := by
  have e : eqv (.str a) (.str b) = decide (a = b) := by
    simp only [eqv, pd, PyData.eqv]
    by_cases c : a = b
    · subst c; simp
    · have : ¬ (⟨a.toArray⟩ : Str) = ⟨b.toArray⟩ := fun z => c (by simpa using congrArg (fun y : Str => y.cps.toList) z)
      simp [c]
  simp [eqD, deref, flat, e]
theorem neStr (a b : List Nat) (h : Hh) : neD (.str a) (.str b) h = .ok (.bl (!decide (a = b))) h := by
  have e : eqv (.str a) (.str b) = decide (a = b) := by
    simp only [eqv, pd, PyData.eqv]
    by_cases c : a = b
    · subst c; simp
    · have : ¬ (⟨a.toArray⟩ : Str) = ⟨b.toArray⟩ := fun z => c (by simpa using congrArg (fun y : Str => y.cps.toList) z)
      simp [c]
  simp [neD, deref, flat, e]
end L3
set_option autoImplicit false
set_option maxHeartbeats 4000000
/-! L3M: a list turned around. -/
namespace L3
open PySem PySem.Spec L2 PyProof.Rows
section
variable {X : Cx} {T : Tx} {W : WX} {pos p2 : Pos} {e st : Expr} {te : TE} {ts : TO}
def rRev (K : PySem.W.Frag) : V → Option Int → Hp → VK → Prop := fun x k H Q => k = some (-1) ∧ ∃ a xs, x = .ref a ∧ SqL K H a xs ∧ ∀ p, H p = none → Q (.ref p) (upd H p (.lst xs.reverse))
theorem pe_rev (he : PE X e te) (hs : PO X (some st) ts) : PE X (.Subscript e (.Slice none none (some st) p2) pos) (fun σ H Q => te σ H fun x H1 => ts σ H1 fun k H2 => rRev X.K x k H2 Q) := by
  refine ⟨fun pins s σ H Q I h => ?_⟩
  refine Subscript_ (thn (he.run pins s σ H _ I h) fun v s1 ⟨x, H1, I1, r1, q1⟩ => ?_)
  refine wpAny_Slice ?_
  rw [evalPart_none]
  refine wpAny_pure ?_
  refine wpAny_pure ?_
  refine thn (hs.run pins s1 σ H1 _ I1 q1) fun vk s3 ⟨k, H3, I3, pk, q3⟩ => ?_
  obtain ⟨rfl, a, xs, rfl, hx, q⟩ := q3
  have I4 : Inv X pins σ H3 { s3 with heap := s3.heap.push { cls := .type "slice", data := .fields #[.none, .none, vk] } } := I3.kept (t' := s3.toks) fun b ob q => Heap.get?_push_of_some _ q
  cases r1
  obtain ⟨its, r, ht, hz⟩ := I4.list hx
  have hlen := r.length
  have g : wpAny (model X.prog X.w) X.A (getItem (.ref a) (.ref s3.heap.objs.size)) (EP X pins σ Q) X.xe { s3 with heap := s3.heap.push { cls := .type "slice", data := .fields #[.none, .none, vk] } } := by
    refine wpAny_getItem_list_slice ht.isList (Heap.IsSliceOf.new ..) .none .none pk (by decide) ?_ (by rw [List.size_toArray] <;> omega)
    rw [PySem.W.krv_pick]
    refine ⟨.ref _, _, I4.laid (t' := s3.toks) (o := .lst xs.reverse) (fun b ob q => Heap.get?_push_of_some _ q) (Nat.le_refl _) ?_, rfl, q _ (I4.hok.fresh (Nat.le_refl _))⟩
    exact ⟨by rw [List.length_reverse]; exact hz, _, 0, r.reverse, Heap.get?_push_size _ rfl⟩
  exact tail_any (ops := [.ref a, .ref s3.heap.objs.size]) ht.isList.typeIs slot_list_getitem.lookup g (by with_unfolding_all rfl)
def revD (x : D) (k : Option Int) (h : Hh) : R D := if k = some (-1) then match asL h x with
    | some xs => .ok (.lst xs.reverse) h
    | none => .stk
  else .stk
def eRev (f : FnE) (fk : FnO) : FnE := fun δ h => (f δ h).bind fun x h1 => (fk δ h1).bind fun k h2 => revD x k h2
theorem RDs.rev {K : PySem.W.Frag} {G : Gst} : ∀ {ds : List D} {vs : List V}, RDs K T G ds vs → RDs K T G ds.reverse vs.reverse
  | _, _, .nil => .nil
  | _, _, .cons d r => by
    rw [List.reverse_cons, List.reverse_cons]
    exact (RDs.rev r).append (.cons d .nil)
theorem fe_rev {f : FnE} {fk : FnO} (he : FE X T W e f) (hk : FO X T W (some st) fk) : FE X T W (.Subscript e (.Slice none none (some st) p2) pos) (eRev f fk) := by
  refine PE.imp (pe_rev he hk) fun σ H Q => ?_
  rintro ⟨G, h0, δ, r, s, o⟩
  refine ⟨G, h0, δ, r, s, (okR.bind (rel := RD X.K T) o).mono ?_⟩
  rintro v H1 ⟨G1, x, h1, e1, r1, d1, o1⟩
  refine ⟨G1, h1, δ, r1, s.mono e1, (okR.bind (rel := fun _ a b => a = b) o1).mono ?_⟩
  rintro k H2 ⟨G2, k', h2, e2, r2, rfl, o2⟩
  have d2 := d1.mono e2
  unfold revD at o2
  by_cases hk1 : k' = some (-1)
  · rw [if_pos hk1] at o2
    cases ex : asL h2 x with
    | none => rw [ex] at o2; exact o2.elim
    | some xs =>
      rw [ex] at o2
      obtain ⟨a, vs, rfl, q1, q2⟩ := asL_ok r2 d2 ex
      exact ⟨hk1, a, vs, rfl, .inl (.inl q1), fun p hp => newLst r2 q2.rev hp o2⟩
  · rw [if_neg hk1] at o2
    exact o2.elim
end
end L3
set_option autoImplicit false
set_option maxHeartbeats 4000000
/-! L3N: walks over values and over lists on the own heap. -/
namespace L3
open PySem PySem.Spec L2
section
variable {X : Cx} {T : Tx} {W : WX} {pos : Pos}
inductive Wk where
  | im (ds : List D)
  | hp (n : Nat)
  | zp (x y : D)
def seqS (h : Hh) : D → Option (List D)
  | .ref n => match h[n]? with
    | some (.lst ds) => some ds
    | _ => none
  | d => (immS d).map (·.2)
def look (w : Wk) (h : Hh) : Option (List D) := match w with
  | .im ds => some ds
  | .hp n => match h[n]? with
    | some (.lst ds) => some ds
    | _ => none
  | .zp x y => match seqS h x, seqS h y with
    | some xs, some ys => some (zipL xs ys)
    | _, _ => none
def Walk4 (K : PySem.W.Frag) (T : Tx) (J : It) (G : Gst) (w : Wk) : Prop := ∀ (i : Nat) G2 h2 H2 ds, Ext0 G G2 → Rel K T G2 h2 H2 → look w h2 = some ds →
  (∀ d, ds[i]? = some d → J.go i H2 ∧ ∀ x H3, J.yld i H2 x H3 → ∃ G3, Ext G2 G3 ∧ Rel K T G3 h2 H3 ∧ RD K T G3 d x) ∧ (i = ds.length → J.stop i H2)
abbrev FnW := De → Hh → R Wk
def tW4 (K : PySem.W.Frag) (T : Tx) (W : WX) (f : FnW) : TI := fun σ H Q => ∃ G h δ, Rel K T G h H ∧ RSl K T G δ σ ∧ okR K T W G σ (fun G w J => Walk4 K T J G w) (f δ h) Q
abbrev FWk (X : Cx) (T : Tx) (W : WX) (tg e : Expr) (f : FnW) : Prop := PI X tg e (tW4 X.K T W f)
def wSeq (f : FnE) : FnW := fun δ h => (f δ h).bind fun x h1 => match x with
  | .tup ds => .ok (.im ds) h1
  | .lst ds => .ok (.im ds) h1
  | .scr ds => .ok (.im ds) h1
  | .ref n => match h1[n]? with
    | some (.lst _) => .ok (.hp n) h1
    | _ => .stk
  | _ => .stk
theorem walk_tup4 {K : PySem.W.Frag} {G : Gst} {a : Addr} {ds : List D} {vs : List V} (q1 : SqT K G.fz a vs) (q2 : RDs K T G ds vs) : Walk4 K T (Itt K a) G (.im ds) := fun i G2 h2 H2 es x r e => by
  cases e
  have z : SqT K H2 a vs := SqT.sub r.sub (SqT.sub x.fz q1)
  refine ⟨fun d e => ?_, fun hl => ⟨vs, z, by rw [← q2.length]; omega⟩⟩
  obtain ⟨v, ev, dv⟩ := q2.get e
  exact ⟨⟨vs, v, z, ev⟩, fun y H3 ⟨e1, e2⟩ => by
    subst e1
    have := e2 vs z
    rw [ev] at this; cases this
    exact ⟨G2, Ext.refl G2, r, dv.mono0 x⟩⟩
theorem walk_lst4 {K : PySem.W.Frag} {G : Gst} {a : Addr} {ds : List D} {vs : List V} (q1 : SqL K G.fz a vs) (q2 : RDs K T G ds vs) : Walk4 K T (Itl K a) G (.im ds) := fun i G2 h2 H2 es x r e => by
  cases e
  have z : SqL K H2 a vs := SqL.sub r.sub (SqL.sub x.fz q1)
  refine ⟨fun d e => ?_, fun hl => ⟨vs, z, by rw [← q2.length]; omega⟩⟩
  obtain ⟨v, ev, dv⟩ := q2.get e
  exact ⟨⟨vs, v, z, ev⟩, fun y H3 ⟨e1, e2⟩ => by
    subst e1
    have := e2 vs z
    rw [ev] at this; cases this
    exact ⟨G2, Ext.refl G2, r, dv.mono0 x⟩⟩
theorem walk_ref4 {K : PySem.W.Frag} {G : Gst} {a : Addr} {n : Nat} (q : G.ι[n]? = some a) : Walk4 K T (Itl K a) G (.hp n) := fun i G2 h2 H2 es x r e => by
  have d : RD K T G2 (.ref n) (.ref a) := (RD.ref q).mono0 x
  have el : asL h2 (.ref n) = some es := by
    unfold look at e; unfold asL; dsimp only at e ⊢
    cases z : h2[n]? with
    | none => rw [z] at e; cases e
    | some o =>
      rw [z] at e
      cases o with
      | lst ds => exact e
      | _ => cases e
  obtain ⟨a', vs, e1, e2, q2⟩ := asL_ok r d el
  cases e1
  have z : SqL K H2 a vs := .inl (.inl e2)
  refine ⟨fun d e => ?_, fun hl => ⟨vs, z, by rw [← q2.length]; omega⟩⟩
  obtain ⟨v, ev, dv⟩ := q2.get e
  exact ⟨⟨vs, v, z, ev⟩, fun y H3 ⟨e1, e2⟩ => by
    subst e1
    have := e2 vs z
    rw [ev] at this; cases this
    exact ⟨G2, Ext.refl G2, r, dv⟩⟩
theorem fw_seq {tg e : Expr} {f : FnE} (he : FE X T W e f) : FWk X T W tg e (wSeq f) := by
  refine PI.imp (PI.or (pi_tup he) (pi_list he)) fun σ H Q => ?_
  rintro ⟨G, h0, δ, r, s, o⟩
  cases ef : f δ h0 with
  | stk => unfold wSeq at o; rw [ef] at o; exact o.elim
  | exc c ds h' =>
    unfold wSeq at o; rw [ef] at o
    refine .inl ⟨G, h0, δ, r, s, ?_⟩
    rw [ef]; exact o
  | ok x h' =>
    unfold wSeq at o
    rw [ef] at o
    cases x with
    | tup ds =>
      refine .inl ⟨G, h0, δ, r, s, ?_⟩
      rw [ef]
      intro G' H' v x r' d
      cases d with
      | @tup _ a vs q1 q2 => exact ⟨a, rfl, ⟨vs, SqT.sub r'.sub q1⟩, o G' H' _ x r' (walk_tup4 q1 q2)⟩
    | lst ds =>
      refine .inr ⟨G, h0, δ, r, s, ?_⟩
      rw [ef]
      intro G' H' v x r' d
      cases d with
      | @lst _ a vs q1 q2 => exact ⟨a, rfl, ⟨vs, .inl (.inl (r'.sub _ _ q1))⟩, o G' H' _ x r' (walk_lst4 (.inl (.inl q1)) q2)⟩
    | scr ds =>
      refine .inr ⟨G, h0, δ, r, s, ?_⟩
      rw [ef]
      intro G' H' v x r' d
      cases d with
      | @scr _ a vs q1 q2 => exact ⟨a, rfl, ⟨vs, SqL.sub r'.sub q1⟩, o G' H' _ x r' (walk_lst4 q1 q2)⟩
    | ref n =>
      refine .inr ⟨G, h0, δ, r, s, ?_⟩
      rw [ef]
      intro G' H' v x r' d
      cases z : h'[n]? with
      | none =>
        have o' : okR X.K T W G σ (fun G w J => Walk4 X.K T J G w) (match h'[n]? with | some (.lst _) => R.ok (Wk.hp n) h' | _ => .stk) Q := o
        rw [z] at o'; exact o'.elim
      | some ob =>
        have o' : okR X.K T W G σ (fun G w J => Walk4 X.K T J G w) (match h'[n]? with | some (.lst _) => R.ok (Wk.hp n) h' | _ => .stk) Q := o
        rw [z] at o'
        cases ob with
        | lst ds =>
          have el : asL h' (.ref n) = some ds := by unfold asL; dsimp only; rw [z]
          obtain ⟨a', vs, e1, e2, q2⟩ := asL_ok r' d el
          subst e1
          cases d with
          | @ref _ _ q => exact ⟨_, rfl, ⟨vs, .inl (.inl e2)⟩, o' G' H' _ x r' (walk_ref4 q)⟩
        | _ => exact o'.elim
    | _ => exact o.elim
/-! ### for over a list on the own heap -/
def loopR (g : FnG) (u : FnS) (wk : Wk) : Nat → Nat → De → Hh → RS
  | 0, _, _, _ => .stk
  | k + 1, i, δ, h => match look wk h with
    | none => .stk
    | some ds => match ds[i]? with
      | none => if i = ds.length then .nx δ h else .stk
      | some d => match g d δ with
        | none => .stk
        | some δ1 => match u δ1 h with
          | .nx δ2 h2 => loopR g u wk k (i + 1) δ2 h2
          | .ct δ2 h2 => loopR g u wk k (i + 1) δ2 h2
          | .bk δ2 h2 => .nx δ2 h2
          | r => r
def loopW (g : FnG) (u : FnS) : Wk → De → Hh → RS
  | .im ds, δ, h => loop3 g u ds δ h
  | .hp n, δ, h => loopR g u (.hp n) 4611686018427387904 0 δ h
  | .zp x y, δ, h => loopR g u (.zp x y) 4611686018427387904 0 δ h
def sForW (f : FnW) (g : FnG) (u : FnS) : FnS := fun δ h => (f δ h).toS δ fun w h1 => loopW g u w δ h1
theorem fs_forW {tg iter : Expr} {body : List Stmt} {f : FnW} {is : List Nat} {g : FnG} {u : FnS} (hp : PassesOwn (model X.prog X.w) X.A X.env X.xe) (hc : X.calm = true) (hi : FWk X T W tg iter f) (hg : FG X T tg is g) (hb : FSs X T W body u)
    (hs : ∀ x, foldedSetIterable iter X.env x = pure x := by intro _; rfl) : FS X T W (.For tg iter body [] pos) (sForW f g u) := by
  refine PS.imp (ps_for hp hc hi hg hb hs) fun D σ H => ?_
  rintro ⟨G, h0, δ, r, s, o⟩
  refine ⟨G, h0, δ, r, s, (okS.toS (rel := fun G w J => Walk4 X.K T J G w) s o).mono ?_⟩
  rintro J H1 ⟨G1, wk, h1, e1, r1, w, o1⟩
  cases wk with
  | im items =>
    change okS X.K T W G1 (loop3 g u items δ h1) D at o1
    refine ⟨fun i m σ' H' => i ≤ items.length ∧ m = items.length - i ∧ ∃ G2 h2 δ2, Ext G1 G2 ∧ Rel X.K T G2 h2 H' ∧ RSl X.K T G2 δ2 σ' ∧ okS X.K T W G2 (loop3 g u (items.drop i) δ2 h2) D,
      ⟨_, Nat.zero_le _, rfl, G1, h1, δ, Ext.refl G1, r1, s.mono e1, o1⟩, ?_⟩
    rintro i m σ' H' ⟨hi', rfl, G2, h2, δ2, e2, r2, s2, o2⟩
    by_cases hlt : i < items.length
    · refine .inr ?_
      have ed : items[i]? = some items[i] := by simp [hlt]
      obtain ⟨go, yl⟩ := (w i G2 h2 H' items e2.e0 r2 rfl).1 _ ed
      rw [List.drop_eq_getElem_cons hlt] at o2
      unfold loop3 at o2
      refine ⟨go, fun σ3 H3 => ∃ m', m' < items.length - i ∧ i + 1 ≤ items.length ∧ m' = items.length - (i + 1) ∧ ∃ G2 h2 δ2, Ext G1 G2 ∧ Rel X.K T G2 h2 H3 ∧ RSl X.K T G2 δ2 σ3 ∧ okS X.K T W G2 (loop3 g u (items.drop (i + 1)) δ2 h2) D,
        fun σ3 H3 ⟨m', a, b, c, d⟩ => ⟨m', a, b, c, d⟩, fun x H3 y => ?_⟩
      obtain ⟨G3, e3, r3, d3⟩ := yl x H3 y
      cases eg : g items[i] δ2 with
      | none => rw [eg] at o2; exact o2.elim
      | some δ3 =>
        rw [eg] at o2
        dsimp only at o2
        refine ⟨G3, h2, δ2, items[i], δ3, r3, s2.mono e3, d3, eg, fun σ4 s4 _ => ⟨G3, h2, δ3, r3, s4, ?_⟩⟩
        have again : ∀ {δ5 : De} {h5 : Hh}, okS X.K T W G2 (loop3 g u (items.drop (i + 1)) δ5 h5) D → ∀ G' H' σ', Ext G3 G' → Rel X.K T G' h5 H' → RSl X.K T G' δ5 σ' →
            ∃ m', m' < items.length - i ∧ i + 1 ≤ items.length ∧ m' = items.length - (i + 1) ∧ ∃ G2 h2 δ2, Ext G1 G2 ∧ Rel X.K T G2 h2 H' ∧ RSl X.K T G2 δ2 σ' ∧ okS X.K T W G2 (loop3 g u (items.drop (i + 1)) δ2 h2) D :=
          fun {δ5 h5} o5 G' H' σ' e r' s' => ⟨_, by omega, hlt, rfl, G', h5, δ5, e2.trans (e3.trans e), r', s', okS.ext (e3.trans e) o5⟩
        cases eu : u δ3 h2 with
        | nx δ5 h5 => rw [eu] at o2; exact again o2
        | ct δ5 h5 => rw [eu] at o2; exact again o2
        | bk δ5 h5 => rw [eu] at o2; exact okS.ext e3 o2
        | rt d h5 => rw [eu] at o2; exact okS.ext e3 o2
        | exc c ds δ5 h5 => rw [eu] at o2; exact okS.ext e3 o2
        | stk => rw [eu] at o2; exact o2
    · refine .inl ⟨(w i G2 h2 H' items e2.e0 r2 rfl).2 (by omega), ?_⟩
      rw [List.drop_eq_nil_of_le (by omega)] at o2
      exact o2 G2 H' σ' (Ext.refl G2) r2 s2
  | hp n =>
    change okS X.K T W G1 (loopR g u (.hp n) 4611686018427387904 0 δ h1) D at o1
    refine ⟨fun i m σ' H' => ∃ G2 h2 δ2, Ext G1 G2 ∧ Rel X.K T G2 h2 H' ∧ RSl X.K T G2 δ2 σ' ∧ okS X.K T W G2 (loopR g u (.hp n) m i δ2 h2) D,
      ⟨4611686018427387904, G1, h1, δ, Ext.refl G1, r1, s.mono e1, o1⟩, ?_⟩
    rintro i m σ' H' ⟨G2, h2, δ2, e2, r2, s2, o2⟩
    cases m with
    | zero => exact o2.elim
    | succ k =>
      unfold loopR at o2
      cases el : look (.hp n) h2 with
      | none => rw [el] at o2; exact o2.elim
      | some items =>
        rw [el] at o2
        dsimp only at o2
        cases ed : items[i]? with
        | none =>
          rw [ed] at o2
          dsimp only at o2
          by_cases hend : i = items.length
          · rw [if_pos hend] at o2
            refine .inl ⟨(w i G2 h2 H' items e2.e0 r2 el).2 hend, ?_⟩
            exact o2 G2 H' σ' (Ext.refl G2) r2 s2
          · rw [if_neg hend] at o2
            exact o2.elim
        | some d0 =>
          rw [ed] at o2
          dsimp only at o2
          refine .inr ?_
          obtain ⟨go, yl⟩ := (w i G2 h2 H' items e2.e0 r2 el).1 _ ed
          refine ⟨go, fun σ3 H3 => ∃ m', m' < k + 1 ∧ ∃ G2 h2 δ2, Ext G1 G2 ∧ Rel X.K T G2 h2 H3 ∧ RSl X.K T G2 δ2 σ3 ∧ okS X.K T W G2 (loopR g u (.hp n) m' (i + 1) δ2 h2) D,
            fun σ3 H3 ⟨m', a, b⟩ => ⟨m', a, b⟩, fun x H3 y => ?_⟩
          obtain ⟨G3, e3, r3, d3⟩ := yl x H3 y
          cases eg : g d0 δ2 with
          | none => rw [eg] at o2; exact o2.elim
          | some δ3 =>
            rw [eg] at o2
            dsimp only at o2
            refine ⟨G3, h2, δ2, d0, δ3, r3, s2.mono e3, d3, eg, fun σ4 s4 _ => ⟨G3, h2, δ3, r3, s4, ?_⟩⟩
            have again : ∀ {δ5 : De} {h5 : Hh}, okS X.K T W G2 (loopR g u (.hp n) k (i + 1) δ5 h5) D → ∀ G' H' σ', Ext G3 G' → Rel X.K T G' h5 H' → RSl X.K T G' δ5 σ' →
                ∃ m', m' < k + 1 ∧ ∃ G2 h2 δ2, Ext G1 G2 ∧ Rel X.K T G2 h2 H' ∧ RSl X.K T G2 δ2 σ' ∧ okS X.K T W G2 (loopR g u (.hp n) m' (i + 1) δ2 h2) D :=
              fun {δ5 h5} o5 G' H' σ' e r' s' => ⟨k, by omega, G', h5, δ5, e2.trans (e3.trans e), r', s', okS.ext (e3.trans e) o5⟩
            cases eu : u δ3 h2 with
            | nx δ5 h5 => rw [eu] at o2; exact again o2
            | ct δ5 h5 => rw [eu] at o2; exact again o2
            | bk δ5 h5 => rw [eu] at o2; exact okS.ext e3 o2
            | rt d h5 => rw [eu] at o2; exact okS.ext e3 o2
            | exc c ds δ5 h5 => rw [eu] at o2; exact okS.ext e3 o2
            | stk => rw [eu] at o2; exact o2
  | zp x0 y0 =>
    change okS X.K T W G1 (loopR g u (.zp x0 y0) 4611686018427387904 0 δ h1) D at o1
    refine ⟨fun i m σ' H' => ∃ G2 h2 δ2, Ext G1 G2 ∧ Rel X.K T G2 h2 H' ∧ RSl X.K T G2 δ2 σ' ∧ okS X.K T W G2 (loopR g u (.zp x0 y0) m i δ2 h2) D,
      ⟨4611686018427387904, G1, h1, δ, Ext.refl G1, r1, s.mono e1, o1⟩, ?_⟩
    rintro i m σ' H' ⟨G2, h2, δ2, e2, r2, s2, o2⟩
    cases m with
    | zero => exact o2.elim
    | succ k =>
      unfold loopR at o2
      cases el : look (.zp x0 y0) h2 with
      | none => rw [el] at o2; exact o2.elim
      | some items =>
        rw [el] at o2
        dsimp only at o2
        cases ed : items[i]? with
        | none =>
          rw [ed] at o2
          dsimp only at o2
          by_cases hend : i = items.length
          · rw [if_pos hend] at o2
            refine .inl ⟨(w i G2 h2 H' items e2.e0 r2 el).2 hend, ?_⟩
            exact o2 G2 H' σ' (Ext.refl G2) r2 s2
          · rw [if_neg hend] at o2
            exact o2.elim
        | some d0 =>
          rw [ed] at o2
          dsimp only at o2
          refine .inr ?_
          obtain ⟨go, yl⟩ := (w i G2 h2 H' items e2.e0 r2 el).1 _ ed
          refine ⟨go, fun σ3 H3 => ∃ m', m' < k + 1 ∧ ∃ G2 h2 δ2, Ext G1 G2 ∧ Rel X.K T G2 h2 H3 ∧ RSl X.K T G2 δ2 σ3 ∧ okS X.K T W G2 (loopR g u (.zp x0 y0) m' (i + 1) δ2 h2) D,
            fun σ3 H3 ⟨m', a, b⟩ => ⟨m', a, b⟩, fun x H3 y => ?_⟩
          obtain ⟨G3, e3, r3, d3⟩ := yl x H3 y
          cases eg : g d0 δ2 with
          | none => rw [eg] at o2; exact o2.elim
          | some δ3 =>
            rw [eg] at o2
            dsimp only at o2
            refine ⟨G3, h2, δ2, d0, δ3, r3, s2.mono e3, d3, eg, fun σ4 s4 _ => ⟨G3, h2, δ3, r3, s4, ?_⟩⟩
            have again : ∀ {δ5 : De} {h5 : Hh}, okS X.K T W G2 (loopR g u (.zp x0 y0) k (i + 1) δ5 h5) D → ∀ G' H' σ', Ext G3 G' → Rel X.K T G' h5 H' → RSl X.K T G' δ5 σ' →
                ∃ m', m' < k + 1 ∧ ∃ G2 h2 δ2, Ext G1 G2 ∧ Rel X.K T G2 h2 H' ∧ RSl X.K T G2 δ2 σ' ∧ okS X.K T W G2 (loopR g u (.zp x0 y0) m' (i + 1) δ2 h2) D :=
              fun {δ5 h5} o5 G' H' σ' e r' s' => ⟨k, by omega, G', h5, δ5, e2.trans (e3.trans e), r', s', okS.ext (e3.trans e) o5⟩
            cases eu : u δ3 h2 with
            | nx δ5 h5 => rw [eu] at o2; exact again o2
            | ct δ5 h5 => rw [eu] at o2; exact again o2
            | bk δ5 h5 => rw [eu] at o2; exact okS.ext e3 o2
            | rt d h5 => rw [eu] at o2; exact okS.ext e3 o2
            | exc c ds δ5 h5 => rw [eu] at o2; exact okS.ext e3 o2
            | stk => rw [eu] at o2; exact o2
/-! ### zip, also of lists on the own heap -/
theorem seqS_ok {K : PySem.W.Frag} {G : Gst} {h : Hh} {H : Hp} {d : D} {v : V} {ds : List D} (r : Rel K T G h H) (d1 : RD K T G d v) (e : seqS h d = some ds) : ∃ b a vs, v = .ref a ∧ SqX K b H a vs ∧ RDs K T G ds vs ∧ ∀ G2 h2 H2 es, Ext0 G G2 → Rel K T G2 h2 H2 → seqS h2 d = some es → ∃ ws, SqX K b H2 a ws ∧ RDs K T G2 es ws := by
  cases d1 with
  | @ref n a q =>
    have el : ∀ {h : Hh} {es : List D}, seqS h (.ref n) = some es → asL h (.ref n) = some es := fun {h es} e => by
      unfold seqS at e; unfold asL; dsimp only at e ⊢
      cases z : h[n]? with
      | none => rw [z] at e; cases e
      | some o =>
        rw [z] at e
        cases o with
        | lst ds => exact e
        | _ => cases e
    obtain ⟨a', vs, e1, e2, q2⟩ := asL_ok r (RD.ref q) (el e)
    cases e1
    refine ⟨false, a, vs, rfl, .inl (.inl e2), q2, fun G2 h2 H2 es x r2 e' => ?_⟩
    obtain ⟨a', ws, e1, e2, q2⟩ := asL_ok r2 ((RD.ref q).mono0 x) (el e')
    cases e1
    exact ⟨ws, .inl (.inl e2), q2⟩
  | tup z1 z2 => cases e; exact ⟨true, _, _, rfl, SqX.sub (b := true) r.sub z1, z2, fun G2 h2 H2 es x r2 e' => by cases e'; exact ⟨_, SqX.sub (b := true) r2.sub (SqX.sub (b := true) x.fz z1), z2.mono0 x⟩⟩
  | lst z1 z2 => cases e; exact ⟨false, _, _, rfl, SqX.sub (b := false) r.sub (.inl (.inl z1)), z2, fun G2 h2 H2 es x r2 e' => by cases e'; exact ⟨_, SqX.sub (b := false) r2.sub (SqX.sub (b := false) x.fz (.inl (.inl z1))), z2.mono0 x⟩⟩
  | scr z1 z2 => cases e; exact ⟨false, _, _, rfl, SqX.sub (b := false) r.sub z1, z2, fun G2 h2 H2 es x r2 e' => by cases e'; exact ⟨_, SqX.sub (b := false) r2.sub (SqX.sub (b := false) x.fz z1), z2.mono0 x⟩⟩
  | _ => cases e
def kZipW (ds : List D) (h : Hh) : R Wk := match ds with
  | [x, y] => match immS x, immS y with
    | some (_, xs), some (_, ys) => .ok (.im (zipL xs ys)) h
    | _, _ => match seqS h x, seqS h y with
      | some _, some _ => .ok (.zp x y) h
      | _, _ => .stk
  | _ => .stk
def wZip (fa : FnA) : FnW := fun δ h => (fa δ h).bind kZipW
theorem walk_zipW {K : PySem.W.Frag} {G : Gst} {b1 b2 : Bool} {a b : Addr} {x0 y0 : D} (f1 : ∀ G2 h2 H2 es, Ext0 G G2 → Rel K T G2 h2 H2 → seqS h2 x0 = some es → ∃ ws, SqX K b1 H2 a ws ∧ RDs K T G2 es ws) (f2 : ∀ G2 h2 H2 es, Ext0 G G2 → Rel K T G2 h2 H2 → seqS h2 y0 = some es → ∃ ws, SqX K b2 H2 b ws ∧ RDs K T G2 es ws) : Walk4 K T (ItzX K b1 b2 a b) G (.zp x0 y0) := fun i G2 h2 H2 zs x r el => by
  unfold look at el
  dsimp only at el
  cases ex : seqS h2 x0 with
  | none => rw [ex] at el; cases el
  | some ds =>
    cases ey : seqS h2 y0 with
    | none => rw [ex, ey] at el; cases el
    | some es =>
      rw [ex, ey] at el
      cases el
      obtain ⟨vs, z1, q2⟩ := f1 G2 h2 H2 ds x r ex
      obtain ⟨ws, z2, q4⟩ := f2 G2 h2 H2 es x r ey
      have l1 := q2.length
      have l2 := q4.length
      refine ⟨fun d e => ?_, fun hl => ⟨vs, ws, z1, z2, ?_⟩⟩
      · obtain ⟨d1, d2, e1, e2, rfl⟩ := zipL_get ds es i d e
        obtain ⟨v, ev, dv⟩ := q2.get e1
        obtain ⟨w, ew, dw⟩ := q4.get e2
        refine ⟨⟨vs, ws, v, w, z1, z2, ev, ew⟩, ?_⟩
        rintro y H3 ⟨p, v', w', rfl, hp, rfl, f1, f2⟩
        have g1 := f1 vs z1
        have g2 := f2 ws z2
        rw [ev] at g1; cases g1
        rw [ew] at g2; cases g2
        obtain ⟨x', r'⟩ := r.newF (o := .tup [v, w]) hp
        exact ⟨_, x', r', .tup (.inl (.inl upd_same)) (.cons (dv.mono x') (.cons (dw.mono x') .nil)) fun _ => upd_same⟩
      · rw [zipL_len] at hl
        omega
theorem walk_im {K : PySem.W.Frag} {J : It} {G : Gst} {ds : List D} (w : Walk3 K T J G ds) : Walk4 K T J G (.im ds) := fun i G2 h2 H2 es x r e => by
  cases e
  exact w i G2 h2 H2 x r
theorem fw_zip {e e2 : Expr} {fa : FnA} {p tpos : Pos} {elts : List Expr} {kk : Nat} (hg : Gl X "zip") (hm : X.mg "zip" = none) (ha : FA X T W [e, e2] fa)
    (hs : starEach [e, e2] X.env = (false, eval e X.env) :: starEach [e2] X.env := by rfl) (hpl : (backTo pos (starEach [e2] X.env)).any (·.1) = false := by rfl) :
    FWk X T W (.Tuple elts kk tpos) (.Call (.Name "zip" p) [e, e2] [] pos) (wZip fa) := by
  refine PI.imp (pi_zipX hg hm ha hs hpl) fun σ H Q => ?_
  rintro ⟨G, h0, δ, r, s, o⟩
  refine ⟨G, h0, δ, r, s, (okR.bind (rel := RDs X.K T) o).mono ?_⟩
  rintro vs H1 ⟨G1, ds, h1, e1, r1, d1, o1⟩
  match ds, vs, d1 with
  | [], _, _ => exact o1.elim
  | [_], _, _ => exact o1.elim
  | _ :: _ :: _ :: _, _, _ => exact o1.elim
  | [x, y], [v, w], .cons d1 (.cons d2 .nil) =>
    unfold kZipW at o1
    dsimp only at o1
    have slow : okR X.K T W G1 σ (fun G w J => Walk4 X.K T J G w) (match seqS h1 x, seqS h1 y with
      | some _, some _ => R.ok (Wk.zp x y) h1
      | _, _ => .stk) Q → ∃ b1 b2 a b xs ys, [v, w] = [V.ref a, V.ref b] ∧ SqX X.K b1 H1 a xs ∧ SqX X.K b2 H1 b ys ∧ Q (ItzX X.K b1 b2 a b) H1 := fun o2 => by
      cases ex : seqS h1 x with
      | none => rw [ex] at o2; exact o2.elim
      | some xs =>
        cases ey : seqS h1 y with
        | none => rw [ex, ey] at o2; exact o2.elim
        | some ys =>
          rw [ex, ey] at o2
          obtain ⟨b1, a, us, rfl, z1, _, f1⟩ := seqS_ok r1 d1 ex
          obtain ⟨b2, b, ws, rfl, z3, _, f2⟩ := seqS_ok r1 d2 ey
          exact ⟨b1, b2, a, b, us, ws, rfl, z1, z3, o2 G1 H1 _ (Ext.refl G1) r1 (walk_zipW f1 f2)⟩
    cases ex : immS x with
    | none => rw [ex] at o1; exact slow o1
    | some p =>
      cases ey : immS y with
      | none => rw [ex, ey] at o1; exact slow o1
      | some q =>
        rw [ex, ey] at o1
        obtain ⟨b1, xs⟩ := p
        obtain ⟨b2, ys⟩ := q
        obtain ⟨a, us, rfl, z1, z2⟩ := immS_ok d1 ex
        obtain ⟨b, ws, rfl, z3, z4⟩ := immS_ok d2 ey
        exact ⟨b1, b2, a, b, us, ws, rfl, SqX.sub r1.sub z1, SqX.sub r1.sub z3, o1 G1 H1 _ (Ext.refl G1) r1 (walk_im (walk_zip z1 z2 z3 z4))⟩
end
end L3
set_option autoImplicit false
set_option maxHeartbeats 4000000
/-! L3O: comprehensions over values and over lists on the own heap. -/
namespace L3
open PySem PySem.Spec L2
section
variable {X : Cx} {T : Tx} {W : WX} {pos : Pos}
def lcsN (g : FnG) (t : FnT) (e : FnE) (δ : De) (w : Wk) : Nat → Nat → Hh → R (List D)
  | 0, _, _ => .stk
  | k + 1, i, h => match look w h with
    | none => .stk
    | some ds => match ds[i]? with
      | none => if i = ds.length then .ok [] h else .stk
      | some d => match g d δ with
        | none => .stk
        | some δ1 => match t δ1 h with
          | .ok b h1 => if b = true then
              match e δ1 h1 with
              | .ok y h2 => (lcsN g t e δ w k (i + 1) h2).bind fun ys h3 => .ok (y :: ys) h3
              | _ => .stk
            else lcsN g t e δ w k (i + 1) h1
          | _ => .stk
theorem lcsN_exc (g : FnG) (t : FnT) (e : FnE) (δ : De) (w : Wk) : ∀ (k i : Nat) (h : Hh) c es h', lcsN g t e δ w k i h ≠ .exc c es h'
  | 0, _, _, _, _, _ => fun z => by cases z
  | k + 1, i, h, c, es, h' => fun z => by
    unfold lcsN at z
    split at z
    · cases z
    · split at z
      · split at z <;> cases z
      · split at z
        · cases z
        · split at z
          · split at z
            · split at z
              · rename_i yy hh _
                cases zz : lcsN g t e δ w k (i + 1) hh with
                | ok a b => rw [zz] at z; cases z
                | exc a b cc => exact lcsN_exc g t e δ w k (i + 1) _ _ _ _ zz
                | stk => rw [zz] at z; cases z
              · cases z
            · exact lcsN_exc g t e δ w k (i + 1) _ _ _ _ z
          · cases z
theorem lcs_is (g : FnG) (t : FnT) (e : FnE) (δ : De) (ds : List D) : ∀ (k i : Nat) (h : Hh), i ≤ ds.length → ds.length < k + i → lcs g t e δ (ds.drop i) h = lcsN g t e δ (.im ds) k i h
  | 0, i, h, hi, hk => by omega
  | k + 1, i, h, hi, hk => by
    unfold lcsN
    have el : look (.im ds) h = some ds := rfl
    rw [el]
    dsimp only
    cases ed : ds[i]? with
    | none =>
      have hl := List.getElem?_eq_none_iff.mp ed
      rw [List.drop_eq_nil_of_le hl]
      dsimp only
      rw [if_pos (by omega)]
      rfl
    | some d =>
      obtain ⟨hl, e2⟩ := List.getElem?_eq_some_iff.mp ed
      subst e2
      rw [List.drop_eq_getElem_cons hl]
      have ih := fun h => lcs_is g t e δ ds k (i + 1) h (by omega) (by omega)
      unfold lcs
      simp only [ih]
      all_goals rfl
def lcW (g : FnG) (t : FnT) (e : FnE) (δ : De) : Wk → Hh → R (List D)
  | .im ds, h => lcs g t e δ ds h
  | .hp n, h => lcsN g t e δ (.hp n) 4611686018427387904 0 h
  | .zp x y, h => lcsN g t e δ (.zp x y) 4611686018427387904 0 h
theorem lcW_is (g : FnG) (t : FnT) (e : FnE) (δ : De) (w : Wk) (h : Hh) : ∃ k, lcW g t e δ w h = lcsN g t e δ w k 0 h := by
  cases w with
  | im ds => exact ⟨ds.length + 1, lcs_is g t e δ ds (ds.length + 1) 0 h (by omega) (by omega)⟩
  | hp n => exact ⟨_, rfl⟩
  | zp x y => exact ⟨_, rfl⟩
def eLcW (mu : Bool) (f : FnW) (g : FnG) (t : FnT) (e : FnE) (own : List Nat) : FnE := fun δ h => (f δ h).bind fun w h1 => (lcW g t e (wipeD δ own) w h1).bind (kLst mu)
theorem tE_lcW {mu : Bool} {f : FnW} {is : List Nat} {g : FnG} {t : FnT} {e : FnE} {own : List (Str × Nat)} (hin : ∀ i ∈ is, i ∈ own.map (·.2)) {σ : L2.St} {H : Hp} {Q : VK} (hh : tE X.K T W (eLcW mu f g t e (own.map (·.2))) σ H Q) :
    tLc (tW4 X.K T W f) (tG X.K T is g) (tT X.K T W0 t) (tE X.K T W0 e) (own.map (·.2)) σ H Q := by
  revert hh
  rintro ⟨G, h0, δ, r, s, o⟩
  refine ⟨G, h0, δ, r, s, (okR.bind (rel := fun G w J => Walk4 X.K T J G w) o).mono ?_⟩
  rintro J H1 ⟨G1, wk, h1, e1, r1, w, o1⟩
  obtain ⟨k0, ek0⟩ := lcW_is g t e (wipeD δ (own.map (·.2))) wk h1
  rw [ek0] at o1
  intro Dn hD
  have s1 := (s.mono e1).wipe (own.map (·.2))
  refine ⟨fun i m H' => ∃ G2 h2 acc, LcAt X.K T G1 Dn G2 acc h2 H' ∧ okR X.K T W G1 σ (RD X.K T) ((lcsN g t e (wipeD δ (own.map (·.2))) wk m i h2).bind fun ys h3 => kLst mu (acc ++ ys) h3) Q,
    ⟨k0, G1.guard Dn (.lst []), h1, [], ⟨⟨[], by simp [Gst.guard]⟩, fun _ _ q => q, ⟨[], rfl, .nil⟩, r1.guard hD⟩, o1⟩, ?_⟩
  rintro i m H' ⟨G2, h2, acc, l, o2⟩
  have x02 : Ext0 G1 G2 := ⟨l.ι, l.fz⟩
  cases m with
  | zero => exact o2.elim
  | succ k =>
  unfold lcsN at o2
  cases ek : look wk h2 with
  | none => rw [ek] at o2; exact o2.elim
  | some items =>
  rw [ek] at o2
  dsimp only at o2
  cases ed : items[i]? with
  | some d0 =>
    rw [ed] at o2
    dsimp only at o2
    refine .inr ?_
    obtain ⟨go, yl⟩ := (w i G2 h2 H' items x02 l.rel ek).1 _ ed
    refine ⟨go, fun H3 => ∃ m', m' < k + 1 ∧ ∃ G2 h2 acc, LcAt X.K T G1 Dn G2 acc h2 H3 ∧ okR X.K T W G1 σ (RD X.K T) ((lcsN g t e (wipeD δ (own.map (·.2))) wk m' (i + 1) h2).bind fun ys h3 => kLst mu (acc ++ ys) h3) Q,
      fun H3 ⟨m', a, b⟩ => ⟨m', a, b⟩, fun x H3 y => ?_⟩
    obtain ⟨G3, e3, r3, d3⟩ := yl x H3 y
    have l3 := l.step e3 r3
    have s3 : RSl X.K T G3 (wipeD δ (own.map (·.2))) (L2.wipe σ (own.map (·.2))) := ⟨s1.len, fun j d q => let ⟨v, a, b⟩ := s1.at_ j d q; ⟨v, a, b.mono0 ⟨l3.ι, l3.fz⟩⟩⟩
    cases eg : g d0 (wipeD δ (own.map (·.2))) with
    | none => rw [eg] at o2; exact o2.elim
    | some δ3 =>
      rw [eg] at o2
      dsimp only at o2
      refine ⟨G3, h2, _, d0, δ3, r3, s3, d3, eg, fun σ4 s4 so => ⟨wipe_same so hin, G3, h2, δ3, r3, s4, ?_⟩⟩
      cases et : t δ3 h2 with
      | stk => rw [et] at o2; exact o2.elim
      | exc c ds h' => rw [et] at o2; exact o2.elim
      | ok b h3 =>
        rw [et] at o2
        dsimp only at o2
        intro G4 H4 b' x4 r4 eb
        have eb' : b = b' := eb
        subst eb'
        have l4 := l3.step x4 r4
        cases b with
        | false =>
          rw [if_neg Bool.false_ne_true] at o2 ⊢
          exact ⟨k, by omega, G4, h3, acc, l4, o2⟩
        | true =>
          rw [if_pos rfl] at o2 ⊢
          refine ⟨G4, h3, δ3, r4, s4.mono x4, ?_⟩
          cases ee : e δ3 h3 with
          | stk => rw [ee] at o2; exact o2.elim
          | exc c ds h' => rw [ee] at o2; exact o2.elim
          | ok y h4 =>
            rw [ee] at o2
            dsimp only at o2
            intro G5 H5 v x5 r5 d5
            have l5 := l4.step x5 r5
            obtain ⟨avs, ep, dacc⟩ := l5.pr
            have hpr : G5.pr Dn = some (.lst avs) := by rw [ep, upd_same]
            obtain ⟨q1, q2, q3⟩ := r5.pr Dn _ hpr
            refine ⟨avs, q1, ?_, k, by omega, { G5 with pr := upd G5.pr Dn (.lst (avs ++ [v])) }, h4, acc ++ [y], ⟨l5.ι, l5.fz, ⟨avs ++ [v], ?_, ?_⟩, r5.reguard hpr⟩, ?_⟩
            · -- the size
              have sz : avs.length < 16777216 := by
                rw [← dacc.length]
                cases el : lcsN g t e (wipeD δ (own.map (·.2))) wk k (i + 1) h4 with
                | stk => rw [el] at o2; exact o2.elim
                | exc c ds h' => rw [el] at o2; exact absurd el (lcsN_exc _ _ _ _ _ _ _ _ _ _ _)
                | ok ys h5 =>
                  rw [el] at o2
                  have o3 : okR X.K T W G1 σ (RD X.K T) (kLst mu (acc ++ y :: ys) h5) Q := o2
                  unfold kLst at o3
                  by_cases hl : lineOk (acc ++ y :: ys).length = true
                  · have := of_decide_eq_true hl
                    rw [List.length_append, List.length_cons] at this
                    omega
                  · rw [if_neg hl] at o3; exact o3.elim
              rw [sizeLine_eq]; exact sz
            · show upd G5.pr Dn (.lst (avs ++ [v])) = upd G1.pr Dn (.lst (avs ++ [v]))
              rw [ep, upd_upd]
            · exact RDs.mono0 (G := G5) (G' := { G5 with pr := upd G5.pr Dn (.lst (avs ++ [v])) }) ⟨⟨[], (List.append_nil _).symm⟩, fun _ _ z => z⟩ (dacc.append (.cons d5 .nil))
            · have ea : ∀ (rr : R (List D)), ((rr.bind fun ys h3 => R.ok (y :: ys) h3).bind fun ys h3 => kLst mu (acc ++ ys) h3) = rr.bind fun ys h3 => kLst mu (acc ++ [y] ++ ys) h3 := fun rr => by
                cases rr with
                | ok a b => show kLst mu (acc ++ y :: a) b = kLst mu (acc ++ [y] ++ a) b; rw [List.append_assoc]; rfl
                | exc _ _ _ => rfl
                | stk => rfl
              rw [ea] at o2
              exact o2
  | none =>
    rw [ed] at o2
    dsimp only at o2
    by_cases hend : i = items.length
    case neg => rw [if_neg hend] at o2; exact o2.elim
    rw [if_pos hend] at o2
    refine .inl ⟨(w i G2 h2 H' items x02 l.rel ek).2 hend, ?_⟩
    have o3 : okR X.K T W G1 σ (RD X.K T) (kLst mu (acc ++ []) h2) Q := o2
    rw [List.append_nil] at o3
    unfold kLst at o3
    by_cases hl : lineOk acc.length = true
    · rw [if_pos hl] at o3
      obtain ⟨avs, ep, dacc⟩ := l.pr
      have hpr : G2.pr Dn = some (.lst avs) := by rw [ep, upd_same]
      have pn : G1.pr Dn = none := by
        cases z : G1.pr Dn with
        | none => rfl
        | some u => have := (r1.pr Dn u z).1; rw [hD] at this; cases this
      obtain ⟨q1, q2, q3⟩ := l.rel.pr Dn _ hpr
      have fzm : ∀ a u, G2.fz a = some u → upd G2.fz Dn (.lst avs) a = some u := fun a u z => by
        have na : a ≠ Dn := fun y => by rw [y, q2] at z; cases z
        rw [upd_ne na]; exact z
      have hpr0 : ∀ a u, G1.pr a = some u → a ≠ Dn ∧ G2.pr a = some u := fun a u z => by
        have na : a ≠ Dn := fun y => by rw [y, pn] at z; cases z
        exact ⟨na, by rw [ep, upd_ne na]; exact z⟩
      cases mu with
      | false =>
        rw [if_neg Bool.false_ne_true] at o3
        exact o3 { G2 with pr := G1.pr, fz := upd G2.fz Dn (.lst avs) } H' (.ref Dn) ⟨l.ι, fun a u z => fzm a u (l.fz a u z), rfl⟩ (l.rel.unguard hpr hpr0) (.lst upd_same (RDs.mono0 (G := G2) (G' := { G2 with pr := G1.pr, fz := upd G2.fz Dn (.lst avs) }) ⟨⟨[], (List.append_nil _).symm⟩, fzm⟩ dacc))
      | true =>
        rw [if_pos rfl] at o3
        obtain ⟨x5, r5⟩ := l.rel.unguardO (u := .lst acc) hpr hpr0 fun G' x hi ho _ => ⟨Dn, avs, hi, ho, q1, dacc.mono0 x⟩
        obtain ⟨tt, et⟩ := l.ι
        refine o3 (G2.give Dn G1.pr) H' (.ref Dn) ⟨⟨tt ++ [Dn], ?_⟩, fun a u z => l.fz a u z, rfl⟩ r5 (.ref ?_)
        · show G2.ι ++ [Dn] = G1.ι ++ (tt ++ [Dn])
          rw [et, List.append_assoc]
        · show (G2.ι ++ [Dn])[h2.length]? = some Dn
          rw [← l.rel.len]; simp
    · rw [if_neg hl] at o3; exact o3.elim
theorem fe_lcW {mu : Bool} {elt tg iter : Expr} {ifs : List Expr} {scope : Scope} {own : List (Str × Nat)} {f : FnW} {is : List Nat} {g : FnG} {t : FnT} {e : FnE} (hc : X.calm = true) (hN : X.N.Nodup) (hi : FWk X T W tg iter f) (ok : BlkOk X.N X.env.scope scope own)
    (hg : ∀ (s : Shared) (H : Hp) (C : Addr) (cl : List (Str × Addr)) (fp : List Addr), FG (X.blk s H scope (compEnvC scope cl C X.env) fp) T tg is g) (ht : ∀ (s : Shared) (H : Hp) (C : Addr) (cl : List (Str × Addr)) (fp : List Addr), FTs (X.blk s H scope (compEnvC scope cl C X.env) fp) T W0 ifs t)
    (he : ∀ (s : Shared) (H : Hp) (C : Addr) (cl : List (Str × Addr)) (fp : List Addr), FE (X.blk s H scope (compEnvC scope cl C X.env) fp) T W0 elt e) (hin : ∀ i ∈ is, i ∈ own.map (·.2)) (hs : ∀ x, foldedSetIterable iter X.env x = pure x := by intro _; rfl) :
    FE X T W (.ListComp elt [⟨tg, iter, ifs, 0⟩] scope pos) (eLcW mu f g t e (own.map (·.2))) :=
  PE.imp (pe_lc (wi := tW4 X.K T W f) (g := tG X.K T is g) (tt := tT X.K T W0 t) (te := tE X.K T W0 e) hc hN hi ok hg ht he hs) fun _ _ _ hh => tE_lcW hin hh
/-- name = [..] on one line, a local -/
theorem fs_setLcW {mu : Bool} {i : Nat} {y : Str} {py spos : Pos} {elt tg iter : Expr} {ifs : List Expr} {scope : Scope} {own : List (Str × Nat)} {f : FnW} {is : List Nat} {g : FnG} {t : FnT} {e : FnE} (hc : X.calm = true) (hN : X.N.Nodup) (hy : X.N[i]? = some y) (hyl : X.env.scope.names.lookup y = some .local)
    (hsw : swapsWith (.ListComp elt [⟨tg, iter, ifs, 0⟩] scope pos) (some (.Name y py)) spos.line X.env = pure true) (hi : FWk X T W tg iter f) (ok : BlkOk X.N X.env.scope scope own)
    (hg : ∀ (s : Shared) (H : Hp) (C : Addr) (cl : List (Str × Addr)) (fp : List Addr), FG (X.blk s H scope (compEnvC scope cl C X.env) fp) T tg is g) (ht : ∀ (s : Shared) (H : Hp) (C : Addr) (cl : List (Str × Addr)) (fp : List Addr), FTs (X.blk s H scope (compEnvC scope cl C X.env) fp) T W0 ifs t)
    (he : ∀ (s : Shared) (H : Hp) (C : Addr) (cl : List (Str × Addr)) (fp : List Addr), FE (X.blk s H scope (compEnvC scope cl C X.env) fp) T W0 elt e) (hin : ∀ i ∈ is, i ∈ own.map (·.2)) (hs : ∀ x, foldedSetIterable iter X.env x = pure x := by intro _; rfl) :
    FS X T W (.Assign [.Name y py] (.ListComp elt [⟨tg, iter, ifs, 0⟩] scope pos) spos) (sSet i (eLcW mu f g t e (own.map (·.2)))) := by
  refine PS.imp (ps_setLc (wi := tW4 X.K T W f) (g := tG X.K T is g) (tt := tT X.K T W0 t) (te := tE X.K T W0 e) hc hN hy hyl hsw hi ok hg ht he hs) fun D σ H h => ?_
  refine tE_lcW (mu := mu) hin ?_
  exact tS.bind (k := fun δ x h1 => .nx (δ.set i (some x)) h1) h fun G δ x w h1 H1 r1 s1 d1 o1 => o1 G H1 _ (Ext.refl G) r1 (s1.set d1 i)
end
end L3
set_option autoImplicit false
set_option maxHeartbeats 4000000
/-! L3P: max and min of one list or tuple of whole numbers, and of three or four numbers. -/
namespace PySem
open Sem (wp)
theorem F.l3_args_max4 (a b c d : Value) : argsOk "max" ⟨[a, b, c, d], []⟩ := by unfold argsOk; kernel_rfl
section
variable {prog : Program} {w : World} {A : Around} {E : Value → Shared → Prop} {s : Shared}
theorem l3_max_four {a b c d : Value} {Q : Value → Shared → Prop}
    (h : wpAny (model prog w) A.in1 (pyIter (.ref s.heap.objs.size)) (fun it s₂ => ∃ I fp wr n P St bt, it = .ref I ∧ Walks prog w A.in1 I fp wr n P St ∧ St 0 s₂.heap ∧ (∀ b ∈ fp, b < s₂.heap.objs.size) ∧ 0 < n ∧ CmpOf prog w A.in1 .Gt P bt ∧
      ∀ v h' tk, P (argBest bt (n - 1)) v → (∀ b o, b ∉ wr → s₂.heap.get? b = some o → h'.get? b = some o) → Q v { s₂ with heap := h', toks := tk }) E
      { s with heap := s.heap.push { cls := .type "tuple", data := .seq #[a, b, c, d] } }) :
    wpAny (model prog w) A (call (.builtin "max") [a, b, c, d]) Q E s := by
  have hname : (toString "max" ++ toString ".loop" : String) = "max.loop" := by decide
  refine call_function_tree F.kind_max F.plain_max F.entry_max (F.l3_args_max4 _ _ _ _) ?_
  show wpAny _ A.in1 (Builtin.Builtins.bindParams "max" ["key", "default"] 0 ⟨[], []⟩ >>= _) _ _ s
  refine wpAny_bind (wpAny_of_eq (show Builtin.Builtins.bindParams "max" ["key", "default"] 0 ⟨[], []⟩ = pure [none, none] from rfl) ?_)
  show wpAny _ A.in1 (newTuple [a, b, c, d] >>= _) _ _ s
  refine wpAny_bind (wpAny_newObj_type ?_)
  refine wpAny_bind (wpAny_mono h (fun it s₂ h₂ => ?_) fun _ _ e => e)
  obtain ⟨I, fp, wr, n, P, St, bt, rfl, W, hst, hfp, hn, hcmp, hQ⟩ := h₂
  refine wpAny_bind (wpAny_newObj_type ?_)
  have hSf : s₂.heap.objs.size ∉ fp := fun hm => Nat.lt_irrefl _ (hfp _ hm)
  rw [hname]
  refine wpAny_pure ⟨plainId_quiet F.plain_max_loop _, codeAny_max_loop_first W bt hcmp s₂.heap.objs.size hSf hn (W.frame _ _ _ hst fun b _ o e => Heap.get?_push_of_some _ e) (Heap.get?_push_size _ rfl) fun v h' tk hP hk => ?_⟩
  exact hQ v h' tk hP fun b o hbw e => hk b o hbw (Nat.ne_of_lt (Heap.lt_size e)) (Heap.get?_push_of_some _ e)
theorem l3_max_tup {xs : Array (Int × Tok)} {l : Addr} {Q : Value → Shared → Prop} (hh : A.handled = none) (hl : s.heap.IsTuple l (intItems xs)) (hne : 0 < xs.size)
    (h : ∀ v h' tk, (intItems xs)[argBest (fun i j => decide (numAt xs i > numAt xs j)) (xs.size - 1)]? = some v → (∀ b o, s.heap.get? b = some o → h'.get? b = some o) → Q v { s with heap := h', toks := tk }) :
    wpAny (model prog w) A (call (.builtin "max") [.ref l]) Q E s := by
  have hlt : l < s.heap.objs.size := by obtain ⟨_, e, _⟩ := hl; exact Heap.lt_size e
  refine call_max_walk (wpAny_pyIter_tuple hl ?_)
  refine ⟨_, [_, l], [_], _, _, _, _, rfl, Walks.tuple (A := A.in1) hh _ l (Nat.ne_of_lt hlt) (intItems xs), ⟨⟨_, Heap.get?_push_size _ rfl, rfl, rfl⟩, hl.push _⟩, fun d hd => ?_, by simpa [intItems] using hne, CmpOf.ints_gt (numAt xs) (fun _ _ => intItems_at), fun v h' tk hP hk => ?_⟩
  · show d < (s.heap.push _).objs.size
    rw [Heap.size_push]
    rcases List.mem_cons.mp hd with rfl | hd
    · exact Nat.lt_succ_self _
    · rcases List.mem_cons.mp hd with rfl | hd
      · exact Nat.lt_succ_of_lt hlt
      · cases hd
  · refine h v h' tk (by simpa [intItems] using hP) fun d o e => hk d o (fun hm => ?_) (Heap.get?_push_of_some _ e)
    rcases List.mem_cons.mp hm with e1 | hm
    · have := Heap.lt_size e; rw [e1] at this; exact Nat.lt_irrefl _ this
    · cases hm
theorem l3_max_4 {xs : Array (Int × Tok)} {a b c d : Value} {Q : Value → Shared → Prop} (hh : A.handled = none) (e4 : intItems xs = #[a, b, c, d]) (hne : 0 < xs.size)
    (h : ∀ v h' tk, (intItems xs)[argBest (fun i j => decide (numAt xs i > numAt xs j)) (xs.size - 1)]? = some v → (∀ b o, s.heap.get? b = some o → h'.get? b = some o) → Q v { s with heap := h', toks := tk }) :
    wpAny (model prog w) A (call (.builtin "max") [a, b, c, d]) Q E s := by
  have hT : (s.heap.push { cls := .type "tuple", data := .seq #[a, b, c, d] }).IsTuple s.heap.objs.size (intItems xs) := ⟨_, Heap.get?_push_size _ rfl, rfl, 0, by rw [e4]⟩
  have hsz : (s.heap.push { cls := .type "tuple", data := .seq #[a, b, c, d] }).objs.size = s.heap.objs.size + 1 := Heap.size_push ..
  refine l3_max_four (wpAny_pyIter_tuple hT ?_)
  refine ⟨_, [_, s.heap.objs.size], [_], _, _, _, _, rfl, Walks.tuple (A := A.in1) hh _ s.heap.objs.size (by rw [hsz]; exact Nat.ne_of_lt (Nat.lt_succ_self _)) (intItems xs), ⟨⟨_, Heap.get?_push_size _ rfl, rfl, rfl⟩, hT.push _⟩, fun d hd => ?_, by simpa [intItems] using hne, CmpOf.ints_gt (numAt xs) (fun _ _ => intItems_at), fun v h' tk hP hk => ?_⟩
  · show d < ((s.heap.push _).push _).objs.size
    rw [Heap.size_push, hsz]
    rcases List.mem_cons.mp hd with rfl | hd
    · rw [hsz]; exact Nat.lt_succ_self _
    · rcases List.mem_cons.mp hd with rfl | hd
      · exact Nat.lt_succ_of_lt (Nat.lt_succ_self _)
      · cases hd
  · refine h v h' tk (by simpa [intItems] using hP) fun d o e => hk d o (fun hm => ?_) (Heap.get?_push_of_some _ (Heap.get?_push_of_some _ e))
    rcases List.mem_cons.mp hm with e1 | hm
    · have := Heap.lt_size e; rw [e1, hsz] at this; exact Nat.lt_irrefl _ (Nat.lt_of_succ_lt this)
    · cases hm
end
theorem F.l3_args_min4 (a b c d : Value) : argsOk "min" ⟨[a, b, c, d], []⟩ := by unfold argsOk; kernel_rfl
section
variable {prog : Program} {w : World} {A : Around} {E : Value → Shared → Prop} {s : Shared}
theorem l3_min_four {a b c d : Value} {Q : Value → Shared → Prop}
    (h : wpAny (model prog w) A.in1 (pyIter (.ref s.heap.objs.size)) (fun it s₂ => ∃ I fp wr n P St bt, it = .ref I ∧ Walks prog w A.in1 I fp wr n P St ∧ St 0 s₂.heap ∧ (∀ b ∈ fp, b < s₂.heap.objs.size) ∧ 0 < n ∧ CmpOf prog w A.in1 .Lt P bt ∧
      ∀ v h' tk, P (argBest bt (n - 1)) v → (∀ b o, b ∉ wr → s₂.heap.get? b = some o → h'.get? b = some o) → Q v { s₂ with heap := h', toks := tk }) E
      { s with heap := s.heap.push { cls := .type "tuple", data := .seq #[a, b, c, d] } }) :
    wpAny (model prog w) A (call (.builtin "min") [a, b, c, d]) Q E s := by
  have hname : (toString "min" ++ toString ".loop" : String) = "min.loop" := by decide
  refine call_function_tree F.kind_min F.plain_min F.entry_min (F.l3_args_min4 _ _ _ _) ?_
  show wpAny _ A.in1 (Builtin.Builtins.bindParams "min" ["key", "default"] 0 ⟨[], []⟩ >>= _) _ _ s
  refine wpAny_bind (wpAny_of_eq (show Builtin.Builtins.bindParams "min" ["key", "default"] 0 ⟨[], []⟩ = pure [none, none] from rfl) ?_)
  show wpAny _ A.in1 (newTuple [a, b, c, d] >>= _) _ _ s
  refine wpAny_bind (wpAny_newObj_type ?_)
  refine wpAny_bind (wpAny_mono h (fun it s₂ h₂ => ?_) fun _ _ e => e)
  obtain ⟨I, fp, wr, n, P, St, bt, rfl, W, hst, hfp, hn, hcmp, hQ⟩ := h₂
  refine wpAny_bind (wpAny_newObj_type ?_)
  have hSf : s₂.heap.objs.size ∉ fp := fun hm => Nat.lt_irrefl _ (hfp _ hm)
  rw [hname]
  refine wpAny_pure ⟨plainId_quiet F.plain_min_loop _, codeAny_min_loop_first W bt hcmp s₂.heap.objs.size hSf hn (W.frame _ _ _ hst fun b _ o e => Heap.get?_push_of_some _ e) (Heap.get?_push_size _ rfl) fun v h' tk hP hk => ?_⟩
  exact hQ v h' tk hP fun b o hbw e => hk b o hbw (Nat.ne_of_lt (Heap.lt_size e)) (Heap.get?_push_of_some _ e)
theorem l3_min_tup {xs : Array (Int × Tok)} {l : Addr} {Q : Value → Shared → Prop} (hh : A.handled = none) (hl : s.heap.IsTuple l (intItems xs)) (hne : 0 < xs.size)
    (h : ∀ v h' tk, (intItems xs)[argBest (fun i j => decide (numAt xs i < numAt xs j)) (xs.size - 1)]? = some v → (∀ b o, s.heap.get? b = some o → h'.get? b = some o) → Q v { s with heap := h', toks := tk }) :
    wpAny (model prog w) A (call (.builtin "min") [.ref l]) Q E s := by
  have hlt : l < s.heap.objs.size := by obtain ⟨_, e, _⟩ := hl; exact Heap.lt_size e
  refine call_min_walk (wpAny_pyIter_tuple hl ?_)
  refine ⟨_, [_, l], [_], _, _, _, _, rfl, Walks.tuple (A := A.in1) hh _ l (Nat.ne_of_lt hlt) (intItems xs), ⟨⟨_, Heap.get?_push_size _ rfl, rfl, rfl⟩, hl.push _⟩, fun d hd => ?_, by simpa [intItems] using hne, CmpOf.ints_lt (numAt xs) (fun _ _ => intItems_at), fun v h' tk hP hk => ?_⟩
  · show d < (s.heap.push _).objs.size
    rw [Heap.size_push]
    rcases List.mem_cons.mp hd with rfl | hd
    · exact Nat.lt_succ_self _
    · rcases List.mem_cons.mp hd with rfl | hd
      · exact Nat.lt_succ_of_lt hlt
      · cases hd
  · refine h v h' tk (by simpa [intItems] using hP) fun d o e => hk d o (fun hm => ?_) (Heap.get?_push_of_some _ e)
    rcases List.mem_cons.mp hm with e1 | hm
    · have := Heap.lt_size e; rw [e1] at this; exact Nat.lt_irrefl _ this
    · cases hm
theorem l3_min_4 {xs : Array (Int × Tok)} {a b c d : Value} {Q : Value → Shared → Prop} (hh : A.handled = none) (e4 : intItems xs = #[a, b, c, d]) (hne : 0 < xs.size)
    (h : ∀ v h' tk, (intItems xs)[argBest (fun i j => decide (numAt xs i < numAt xs j)) (xs.size - 1)]? = some v → (∀ b o, s.heap.get? b = some o → h'.get? b = some o) → Q v { s with heap := h', toks := tk }) :
    wpAny (model prog w) A (call (.builtin "min") [a, b, c, d]) Q E s := by
  have hT : (s.heap.push { cls := .type "tuple", data := .seq #[a, b, c, d] }).IsTuple s.heap.objs.size (intItems xs) := ⟨_, Heap.get?_push_size _ rfl, rfl, 0, by rw [e4]⟩
  have hsz : (s.heap.push { cls := .type "tuple", data := .seq #[a, b, c, d] }).objs.size = s.heap.objs.size + 1 := Heap.size_push ..
  refine l3_min_four (wpAny_pyIter_tuple hT ?_)
  refine ⟨_, [_, s.heap.objs.size], [_], _, _, _, _, rfl, Walks.tuple (A := A.in1) hh _ s.heap.objs.size (by rw [hsz]; exact Nat.ne_of_lt (Nat.lt_succ_self _)) (intItems xs), ⟨⟨_, Heap.get?_push_size _ rfl, rfl, rfl⟩, hT.push _⟩, fun d hd => ?_, by simpa [intItems] using hne, CmpOf.ints_lt (numAt xs) (fun _ _ => intItems_at), fun v h' tk hP hk => ?_⟩
  · show d < ((s.heap.push _).push _).objs.size
    rw [Heap.size_push, hsz]
    rcases List.mem_cons.mp hd with rfl | hd
    · rw [hsz]; exact Nat.lt_succ_self _
    · rcases List.mem_cons.mp hd with rfl | hd
      · exact Nat.lt_succ_of_lt (Nat.lt_succ_self _)
      · cases hd
  · refine h v h' tk (by simpa [intItems] using hP) fun d o e => hk d o (fun hm => ?_) (Heap.get?_push_of_some _ (Heap.get?_push_of_some _ e))
    rcases List.mem_cons.mp hm with e1 | hm
    · have := Heap.lt_size e; rw [e1, hsz] at this; exact Nat.lt_irrefl _ (Nat.lt_of_succ_lt this)
    · cases hm
end
end PySem
namespace L3
open PySem PySem.Spec L2 PyProof.Rows
def mxF (a y : Int) : Int := if y > a then y else a
def mnF (a y : Int) : Int := if y < a then y else a
def mxI : List Int → Int
  | [] => 0
  | x :: xs => xs.foldl mxF x
def mnI : List Int → Int
  | [] => 0
  | x :: xs => xs.foldl mnF x
theorem mxL : ∀ (xs : List Int) (x : Int), (xs.foldl mxF x = x ∨ xs.foldl mxF x ∈ xs) ∧ (x ≤ xs.foldl mxF x) ∧ ∀ a, a ∈ xs → a ≤ xs.foldl mxF x
  | [], x => ⟨.inl rfl, Int.le_refl _, fun a h => by cases h⟩
  | y :: xs, x => by
    obtain ⟨h1, h2, h3⟩ := mxL xs (mxF x y)
    have g : (mxF x y = x ∨ mxF x y = y) ∧ (x ≤ mxF x y) ∧ (y ≤ mxF x y) := by unfold mxF; split <;> omega
    obtain ⟨g1, g2, g3⟩ := g
    rw [List.foldl_cons]
    refine ⟨?_, by omega, fun a ha => ?_⟩
    · rcases h1 with h1 | h1
      · rcases g1 with g1 | g1
        · exact .inl (h1.trans g1)
        · refine .inr ?_
          rw [h1.trans g1]
          exact List.mem_cons_self
      · exact .inr (List.mem_cons_of_mem _ h1)
    · rcases List.mem_cons.mp ha with rfl | ha
      · omega
      · exact h3 a ha
theorem mxU {ns : List Int} {M : Int} (h1 : M ∈ ns) (h2 : ∀ a, a ∈ ns → a ≤ M) : M = mxI ns := by
  cases ns with
  | nil => cases h1
  | cons x xs =>
    obtain ⟨k1, k2, k3⟩ := mxL xs x
    have a : M ≤ xs.foldl mxF x := by
      rcases List.mem_cons.mp h1 with rfl | h1
      · exact k2
      · exact k3 _ h1
    have b : xs.foldl mxF x ≤ M := by
      rcases k1 with e | e
      · rw [e]; exact h2 _ List.mem_cons_self
      · exact h2 _ (List.mem_cons_of_mem _ e)
    show M = xs.foldl mxF x
    omega
theorem mnL : ∀ (xs : List Int) (x : Int), (xs.foldl mnF x = x ∨ xs.foldl mnF x ∈ xs) ∧ (xs.foldl mnF x ≤ x) ∧ ∀ a, a ∈ xs → xs.foldl mnF x ≤ a
  | [], x => ⟨.inl rfl, Int.le_refl _, fun a h => by cases h⟩
  | y :: xs, x => by
    obtain ⟨h1, h2, h3⟩ := mnL xs (mnF x y)
    have g : (mnF x y = x ∨ mnF x y = y) ∧ (mnF x y ≤ x) ∧ (mnF x y ≤ y) := by unfold mnF; split <;> omega
    obtain ⟨g1, g2, g3⟩ := g
    rw [List.foldl_cons]
    refine ⟨?_, by omega, fun a ha => ?_⟩
    · rcases h1 with h1 | h1
      · rcases g1 with g1 | g1
        · exact .inl (h1.trans g1)
        · refine .inr ?_
          rw [h1.trans g1]
          exact List.mem_cons_self
      · exact .inr (List.mem_cons_of_mem _ h1)
    · rcases List.mem_cons.mp ha with rfl | ha
      · omega
      · exact h3 a ha
theorem mnU {ns : List Int} {M : Int} (h1 : M ∈ ns) (h2 : ∀ a, a ∈ ns → M ≤ a) : M = mnI ns := by
  cases ns with
  | nil => cases h1
  | cons x xs =>
    obtain ⟨k1, k2, k3⟩ := mnL xs x
    have a : xs.foldl mnF x ≤ M := by
      rcases List.mem_cons.mp h1 with rfl | h1
      · exact k2
      · exact k3 _ h1
    have b : M ≤ xs.foldl mnF x := by
      rcases k1 with e | e
      · rw [e]; exact h2 _ List.mem_cons_self
      · exact h2 _ (List.mem_cons_of_mem _ e)
    show M = xs.foldl mnF x
    omega
section
variable {X : Cx} {T : Tx}
def rMaxS (K : PySem.W.Frag) : List V → Hp → VK → Prop := fun vs H Q => ∃ (a : Addr) (ns : List Int), vs = [V.ref a] ∧ (SqL K H a (ns.map V.int) ∨ SqT K H a (ns.map V.int)) ∧ 0 < ns.length ∧ Q (.int (mxI ns)) H
theorem cr_maxS (hc : X.calm = true) : CallR X (.builtin "max") (rMaxS X.K) := by
  intro pins s σ H vs us Q I r h
  obtain ⟨a, ns, rfl, hs | hs, hne, q⟩ := h
  · obtain ⟨its, rv, hl, _⟩ := I.list hs
    rw [Vals.ref1 r]
    exact max_raw (I.ok.hd hc) hl.isList rv.ints hne fun h' tk m t' hk h1 h2 => ⟨.int (mxI ns), H, I.kept hk, ⟨t', congrArg (fun z => Value.int z t') (mxU h1 h2)⟩, q⟩
  · obtain ⟨its, rv, hl, _⟩ := I.tuple hs
    rw [Vals.ref1 r]
    have hi := rv.ints
    obtain ⟨xs, e⟩ := hi.allInts.items
    have hn : numsOf (intItems xs).toList = ns := by rw [← e]; exact hi.numsOf
    rw [nums_intItems] at hn
    subst hn
    rw [e] at hl
    have hsz : 0 < xs.size := by simpa using hne
    refine l3_max_tup (I.ok.hd hc) hl hsz fun v h' tk hv hk => ?_
    obtain ⟨t, rfl⟩ := intItems_at hv
    obtain ⟨h1, h2⟩ := argBest_gt (numAt xs) (xs.size - 1)
    refine ⟨.int _, H, I.kept hk, ⟨t, congrArg (fun z => Value.int z t) (mxU (ns := xs.toList.map (·.1)) ?_ fun a ha => ?_)⟩, q⟩
    · rw [numAt_eq]; exact PySem.getD_mem (by rw [List.length_map, Array.length_toList]; omega)
    · obtain ⟨j, hj, rfl⟩ := mem_getD ha
      rw [List.length_map, Array.length_toList] at hj
      rw [← numAt_eq]; exact h2 j (by omega)
def rMax4 : List V → Hp → VK → Prop := fun vs H Q => ∃ (a b c d : Int), vs = [.int a, .int b, .int c, .int d] ∧ Q (.int (mxI [a, b, c, d])) H
theorem cr_max4 (hc : X.calm = true) : CallR X (.builtin "max") rMax4 := by
  intro pins s σ H vs us Q I r h
  obtain ⟨a, b, c, d, rfl, q⟩ := h
  obtain ⟨u1, us2, rfl, ⟨t1, rfl⟩, r9⟩ : ∃ u us', us = u :: us' ∧ RelV (.int a) u ∧ Vals [.int b, .int c, .int d] us' := by cases r with | cons r1 r2 => exact ⟨_, _, rfl, r1, r2⟩
  obtain ⟨u2, u3, u4, rfl, ⟨t2, rfl⟩, ⟨t3, rfl⟩, ⟨t4, rfl⟩⟩ := vals3 r9
  refine l3_max_4 (xs := #[(a, t1), (b, t2), (c, t3), (d, t4)]) (I.ok.hd hc) (by simp [intItems]) (by simp) fun v h' tk hv hk => ?_
  obtain ⟨t, rfl⟩ := intItems_at hv
  obtain ⟨h1, h2⟩ := argBest_gt (numAt #[(a, t1), (b, t2), (c, t3), (d, t4)]) 3
  have e : ∀ j, numAt #[(a, t1), (b, t2), (c, t3), (d, t4)] j = [a, b, c, d].getD j 0 := fun j => by rw [numAt_eq]; rfl
  refine ⟨.int _, H, I.kept hk, ⟨t, congrArg (fun z => Value.int z t) (mxU (ns := [a, b, c, d]) ?_ fun x hx => ?_)⟩, q⟩
  · rw [e]; exact PySem.getD_mem (by show _ < 4; show argBest _ 3 < 4; omega)
  · obtain ⟨j, hj, rfl⟩ := mem_getD hx
    rw [← e]; exact h2 j (by simp at hj; omega)
def maxSB : FB := fun ds h => match ds with
  | [x] => match (asSeq h x).bind intsOf with
    | some (n :: ns) => .ok (.int (mxI (n :: ns))) h
    | _ => .stk
  | _ => .stk
theorem cs_maxS : CallS X T (rMaxS X.K) maxSB := by
  intro W G h H σ ds vs Q r d o
  match ds, vs, d with
  | [], _, _ => exact o.elim
  | _ :: _ :: _, _, _ => exact o.elim
  | [x], [v], .cons d1 .nil =>
    unfold maxSB at o
    dsimp only at o
    cases e : (asSeq h x).bind intsOf with
    | none => rw [e] at o; exact o.elim
    | some ns =>
      rw [e] at o
      obtain ⟨es, e1, e2⟩ := Option.bind_eq_some_iff.mp e
      obtain ⟨a, ws, ev, h1, q⟩ := asSeq_ok r d1 e1
      have := intsOf_ok q e2
      subst this
      cases ns with
      | nil => exact o.elim
      | cons n ns => exact ⟨a, n :: ns, by rw [ev], h1, by simp, o.at r .int⟩
def max4B : FB := fun ds h => match ds with
  | [.int a, .int b, .int c, .int d] => .ok (.int (mxI [a, b, c, d])) h
  | _ => .stk
theorem cs_max4 : CallS X T rMax4 max4B := by
  intro W G h H σ ds vs Q r d o
  match ds, vs, d with
  | [.int a, .int b, .int c, .int e], [_, _, _, _], .cons .int (.cons .int (.cons .int (.cons .int .nil))) => exact ⟨a, b, c, e, rfl, o.at r .int⟩
  | ds, vs, d =>
    unfold max4B at o
    split at o
    · cases d with | cons a d => cases d with | cons b d => cases d with | cons c d => cases d with | cons e d => cases d; cases a; cases b; cases c; cases e; exact ⟨_, _, _, _, rfl, o.at r .int⟩
    · exact o.elim
def rMinS (K : PySem.W.Frag) : List V → Hp → VK → Prop := fun vs H Q => ∃ (a : Addr) (ns : List Int), vs = [V.ref a] ∧ (SqL K H a (ns.map V.int) ∨ SqT K H a (ns.map V.int)) ∧ 0 < ns.length ∧ Q (.int (mnI ns)) H
theorem cr_minS (hc : X.calm = true) : CallR X (.builtin "min") (rMinS X.K) := by
  intro pins s σ H vs us Q I r h
  obtain ⟨a, ns, rfl, hs | hs, hne, q⟩ := h
  · obtain ⟨its, rv, hl, _⟩ := I.list hs
    rw [Vals.ref1 r]
    exact min_raw (I.ok.hd hc) hl.isList rv.ints hne fun h' tk m t' hk h1 h2 => ⟨.int (mnI ns), H, I.kept hk, ⟨t', congrArg (fun z => Value.int z t') (mnU h1 h2)⟩, q⟩
  · obtain ⟨its, rv, hl, _⟩ := I.tuple hs
    rw [Vals.ref1 r]
    have hi := rv.ints
    obtain ⟨xs, e⟩ := hi.allInts.items
    have hn : numsOf (intItems xs).toList = ns := by rw [← e]; exact hi.numsOf
    rw [nums_intItems] at hn
    subst hn
    rw [e] at hl
    have hsz : 0 < xs.size := by simpa using hne
    refine l3_min_tup (I.ok.hd hc) hl hsz fun v h' tk hv hk => ?_
    obtain ⟨t, rfl⟩ := intItems_at hv
    obtain ⟨h1, h2⟩ := argBest_lt (numAt xs) (xs.size - 1)
    refine ⟨.int _, H, I.kept hk, ⟨t, congrArg (fun z => Value.int z t) (mnU (ns := xs.toList.map (·.1)) ?_ fun a ha => ?_)⟩, q⟩
    · rw [numAt_eq]; exact PySem.getD_mem (by rw [List.length_map, Array.length_toList]; omega)
    · obtain ⟨j, hj, rfl⟩ := mem_getD ha
      rw [List.length_map, Array.length_toList] at hj
      rw [← numAt_eq]; exact h2 j (by omega)
def rMin4 : List V → Hp → VK → Prop := fun vs H Q => ∃ (a b c d : Int), vs = [.int a, .int b, .int c, .int d] ∧ Q (.int (mnI [a, b, c, d])) H
theorem cr_min4 (hc : X.calm = true) : CallR X (.builtin "min") rMin4 := by
  intro pins s σ H vs us Q I r h
  obtain ⟨a, b, c, d, rfl, q⟩ := h
  obtain ⟨u1, us2, rfl, ⟨t1, rfl⟩, r9⟩ : ∃ u us', us = u :: us' ∧ RelV (.int a) u ∧ Vals [.int b, .int c, .int d] us' := by cases r with | cons r1 r2 => exact ⟨_, _, rfl, r1, r2⟩
  obtain ⟨u2, u3, u4, rfl, ⟨t2, rfl⟩, ⟨t3, rfl⟩, ⟨t4, rfl⟩⟩ := vals3 r9
  refine l3_min_4 (xs := #[(a, t1), (b, t2), (c, t3), (d, t4)]) (I.ok.hd hc) (by simp [intItems]) (by simp) fun v h' tk hv hk => ?_
  obtain ⟨t, rfl⟩ := intItems_at hv
  obtain ⟨h1, h2⟩ := argBest_lt (numAt #[(a, t1), (b, t2), (c, t3), (d, t4)]) 3
  have e : ∀ j, numAt #[(a, t1), (b, t2), (c, t3), (d, t4)] j = [a, b, c, d].getD j 0 := fun j => by rw [numAt_eq]; rfl
  refine ⟨.int _, H, I.kept hk, ⟨t, congrArg (fun z => Value.int z t) (mnU (ns := [a, b, c, d]) ?_ fun x hx => ?_)⟩, q⟩
  · rw [e]; exact PySem.getD_mem (by show _ < 4; show argBest _ 3 < 4; omega)
  · obtain ⟨j, hj, rfl⟩ := mem_getD hx
    rw [← e]; exact h2 j (by simp at hj; omega)
def minSB : FB := fun ds h => match ds with
  | [x] => match (asSeq h x).bind intsOf with
    | some (n :: ns) => .ok (.int (mnI (n :: ns))) h
    | _ => .stk
  | _ => .stk
theorem cs_minS : CallS X T (rMinS X.K) minSB := by
  intro W G h H σ ds vs Q r d o
  match ds, vs, d with
  | [], _, _ => exact o.elim
  | _ :: _ :: _, _, _ => exact o.elim
  | [x], [v], .cons d1 .nil =>
    unfold minSB at o
    dsimp only at o
    cases e : (asSeq h x).bind intsOf with
    | none => rw [e] at o; exact o.elim
    | some ns =>
      rw [e] at o
      obtain ⟨es, e1, e2⟩ := Option.bind_eq_some_iff.mp e
      obtain ⟨a, ws, ev, h1, q⟩ := asSeq_ok r d1 e1
      have := intsOf_ok q e2
      subst this
      cases ns with
      | nil => exact o.elim
      | cons n ns => exact ⟨a, n :: ns, by rw [ev], h1, by simp, o.at r .int⟩
def min4B : FB := fun ds h => match ds with
  | [.int a, .int b, .int c, .int d] => .ok (.int (mnI [a, b, c, d])) h
  | _ => .stk
theorem cs_min4 : CallS X T rMin4 min4B := by
  intro W G h H σ ds vs Q r d o
  match ds, vs, d with
  | [.int a, .int b, .int c, .int e], [_, _, _, _], .cons .int (.cons .int (.cons .int (.cons .int .nil))) => exact ⟨a, b, c, e, rfl, o.at r .int⟩
  | ds, vs, d =>
    unfold min4B at o
    split at o
    · cases d with | cons a d => cases d with | cons b d => cases d with | cons c d => cases d with | cons e d => cases d; cases a; cases b; cases c; cases e; exact ⟨_, _, _, _, rfl, o.at r .int⟩
    · exact o.elim
end
end L3
set_option autoImplicit false
set_option maxHeartbeats 4000000
/-! L3Q: == by an own __eq__, isinstance of an own class. -/
namespace L3
open PySem PySem.Spec L2
section
variable {X : Cx} {T : Tx} {W : WX} {pos : Pos}
def isoD (c : Nat) (x : D) (h : Hh) : R D := match clsOf h x with
  | some c' => if c' = c then .ok (.bl true) h else .stk
  | none => match kdOf h x with
    | some _ => .ok (.bl false) h
    | none => .stk
def eIso (c : Nat) (fa : FnE) : FnE := fun δ h => (fa δ h).bind (isoD c)
theorem iso_no {K : PySem.W.Frag} {C : Addr} (I : IsiC K C) (k : Kd) : PySem.W.kitOne K (.type k.nm) (.ref C) = some false := by
  cases k
  · exact I.n0
  · exact I.n1
  · exact I.n2
  · exact I.n3
  · exact I.n4
  · exact I.n5
  · exact I.n6
theorem fe_iso {c : Nat} {C : Addr} {x : Str} {p p2 : Pos} {e : Expr} {fa : FnE} (hcl : ∃ nm, T.cls c = some (C, nm)) (cl : Cls X.K C) (J : IsiC X.K C) (he : FE X T W e fa) (hg : Gl X "isinstance") (hm : X.mg "isinstance" = none) (hgt : Gl X x) (hmt : X.mg x = some (.ref C)) (hv0 : bootBuiltins "isinstance" = some (.builtin "isinstance")) (hdb : (x == ("__debug__" : Str)) = false := by decide)
    (hs : starEach [e, .Name x p2] X.env = (false, eval e X.env) :: starEach [.Name x p2] X.env := by rfl) (hs2 : starEach [.Name x p2] X.env = (false, eval (.Name x p2) X.env) :: starEach [] X.env := by rfl) (hpl : (backTo pos (starEach [.Name x p2] X.env)).any (·.1) = false := by rfl) :
    FE X T W (.Call (.Name "isinstance" p) [e, .Name x p2] [] pos) (eIso c fa) := by
  have hty : PE X (.Name x p2) (tC (.ref C)) := pe_glob hgt hmt rfl hdb
  refine PE.imp (pe_callB call_isi hg hm hv0 (pa_cons he (pa_cons hty pa_nil hs2) hs) (by decide) (by decide) hs hpl) fun σ H Q h => ?_
  refine tF.bind (k := fun _ => isoD c) h fun G δ x v h1 H1 r1 s1 d1 o1 => ?_
  unfold isoD at o1
  cases ec : clsOf h1 x with
  | some c' =>
    rw [ec] at o1
    dsimp only at o1
    by_cases hc : c' = c
    · subst hc
      rw [if_pos rfl] at o1
      obtain ⟨a, C', dx, nm, fs, rfl, q1, q2, _⟩ := clsOf_ok r1 d1 ec
      obtain ⟨nm2, hcl⟩ := hcl
      rw [hcl] at q2; cases q2
      exact ⟨_, .ref C, .ref C, .ref C, true, rfl, .own C, .base (.ins q1 cl J.ha J.hn J.ht J.hm), J.me, o1.at r1 .bl⟩
    · rw [if_neg hc] at o1; exact o1.elim
  | none =>
    rw [ec] at o1
    dsimp only at o1
    cases ek : kdOf h1 x with
    | none => rw [ek] at o1; exact o1.elim
    | some k =>
      rw [ek] at o1
      exact ⟨v, .ref C, .type k.nm, .ref C, false, rfl, .own C, kd_ok r1 d1 ek, iso_no J k, o1.at r1 .bl⟩
/-! isinstance of a built-in type, instances of one own class among the values -/
def isiO (t : Ty) (c : Nat) (x : D) (h : Hh) : R D := match clsOf h x with
  | some c' => if c' = c then .ok (.bl false) h else .stk
  | none => isiD t x h
def eIsiO (t : Ty) (c : Nat) (fa : FnE) : FnE := fun δ h => (fa δ h).bind (isiO t c)
theorem fe_isiO {t : Ty} {c : Nat} {C : Addr} {x : Str} {p p2 : Pos} {e : Expr} {fa : FnE} (hcl : ∃ nm, T.cls c = some (C, nm)) (cl : Cls X.K C) (J : IsiC X.K C) (hk : PySem.W.kitOne X.K (.ref C) (.type t.nm) = some false) (he : FE X T W e fa) (hg : Gl X "isinstance") (hm : X.mg "isinstance" = none) (hgt : Gl X x) (hmt : X.mg x = none) (hv : bootBuiltins x = some (.type t.nm)) (hv0 : bootBuiltins "isinstance" = some (.builtin "isinstance")) (hn : x ≠ "__name__" := by decide) (hdb : (x == ("__debug__" : Str)) = false := by decide)
    (hs : starEach [e, .Name x p2] X.env = (false, eval e X.env) :: starEach [.Name x p2] X.env := by rfl) (hs2 : starEach [.Name x p2] X.env = (false, eval (.Name x p2) X.env) :: starEach [] X.env := by rfl) (hpl : (backTo pos (starEach [.Name x p2] X.env)).any (·.1) = false := by rfl) :
    FE X T W (.Call (.Name "isinstance" p) [e, .Name x p2] [] pos) (eIsiO t c fa) := by
  have hty : PE X (.Name x p2) (tC (.ty t.nm)) := pe_bltn hgt hmt hv rfl hn hdb
  refine PE.imp (pe_callB call_isi hg hm hv0 (pa_cons he (pa_cons hty pa_nil hs2) hs) (by decide) (by decide) hs hpl) fun σ H Q h => ?_
  refine tF.bind (k := fun _ => isiO t c) h fun G δ x v h1 H1 r1 s1 d1 o1 => ?_
  unfold isiO at o1
  cases ec : clsOf h1 x with
  | some c' =>
    rw [ec] at o1
    dsimp only at o1
    by_cases hc : c' = c
    · subst hc
      rw [if_pos rfl] at o1
      obtain ⟨a, C', dx, nm, fs, rfl, q1, q2, _⟩ := clsOf_ok r1 d1 ec
      obtain ⟨nm2, hcl⟩ := hcl
      rw [hcl] at q2; cases q2
      exact ⟨_, .ty t.nm, .ref C, .type t.nm, false, rfl, .ty _, .base (.ins q1 cl J.ha J.hn J.ht J.hm), hk, o1.at r1 .bl⟩
    · rw [if_neg hc] at o1; exact o1.elim
  | none =>
    rw [ec] at o1
    dsimp only at o1
    unfold isiD at o1
    cases ek : kdOf h1 x with
    | none => rw [ek] at o1; exact o1.elim
    | some k =>
      rw [ek] at o1
      exact ⟨v, .ty t.nm, .type k.nm, .type t.nm, isK k t, rfl, .ty _, kd_ok r1 d1 ek, kit_ty (isK_kit k t), o1.at r1 .bl⟩
/-! == of two instances -/
def rEqO (K : PySem.W.Frag) (T : Tx) (C : Addr) (sem : Sem3) : R2 := fun x y H Q => ∃ a b dx dy fs gs, x = .ref a ∧ y = .ref b ∧ H a = some (.ins C dx fs) ∧ H b = some (.ins C dy gs) ∧ sp3 K T 2 sem [x, y] H Q E0
theorem op_eqO {C f : Addr} {k : Nat} {fd : FuncData} {ps : List Str} {sem : Sem3} (M : Meth X.K C "__eq__" f) (F : FnL X.prog X.w X.K X.mg X.base T k f fd ps sem) (hr : RoomG k X.A) (hb : Binds X.K fd ps []) (h2 : ps.length = 2 := by rfl) : OpR X (compareOp .Eq) (rEqO X.K T C sem) := by
  intro pins s σ H x y v u Q I rx ry hq
  obtain ⟨a, b, dx, dy, fs, gs, rfl, rfl, ha, hb', hsp⟩ := hq
  cases rx
  cases ry
  obtain ⟨mA, J, _⟩ := ins_get I.hok ha
  obtain ⟨mB, J', _⟩ := ins_get I.hok hb'
  obtain ⟨od, J, _⟩ := J.look
  obtain ⟨od', J', _⟩ := J'.look
  obtain ⟨m, hF⟩ := I.fr
  show wpAny (model X.prog X.w) X.A (richCompare .Eq (.ref a) (.ref b)) (EP X pins σ Q) X.xe s
  refine PySem.W.cmp_K (op := .Eq) (tb := .ref C) hr.r.units0 hF I.ok.mod.kin J J'.type (by simp [PySem.W.notFirst]) M.at_ M.fn ?_
  have hsp' : sp3 X.K T ps.length sem [.ref a, .ref b] H Q E0 := by rw [h2]; exact hsp
  have hl : [Value.ref a, Value.ref b].length = ps.length := by rw [h2]; rfl
  refine wpAny_call (codeAny_mono (F.go X.A X.stack s H ⟨[.ref a, .ref b], []⟩ [.ref a, .ref b] [.ref a, .ref b] Q E0 hr I.env0 (by
    have := hb s [.ref a, .ref b] I.kIn (by simpa using hl)
    simpa using this) (.cons rfl (.cons rfl .nil)) hsp') fun r s' e => ?_)
  match r, e with
  | .error er, e => exact False.elim ((passL : Passes (L2.CX X.prog X.w) X.nox E0) pins σ H _ er s' (I.wish _) e)
  | .ok (.ret w), e =>
    obtain ⟨z, H', I', rz, q3⟩ := I.after e
    cases w with
    | notImplemented => cases z <;> first | (cases rz; done) | exact (show False from by simp [RelV] at rz)
    | _ => exact ⟨z, H', I', rz, q3⟩
  | .ok .next, e => exact e.elim
  | .ok .brk, e => exact e.elim
  | .ok .cont, e => exact e.elim
def eqO (c : Nat) (sem : Sem3) : F2 := fun x y h => if clsOf h x = some c ∧ clsOf h y = some c then noX (sem [x, y] h) else .stk
theorem os_eqO {c : Nat} {C : Addr} {sem : Sem3} (hcl : ∃ nm, T.cls c = some (C, nm)) : OpS X T (rEqO X.K T C sem) (eqO c sem) := by
  intro W G h H σ x y v w Q r d1 d2 o
  obtain ⟨nm, hcl⟩ := hcl
  unfold eqO at o
  by_cases hc : clsOf h x = some c ∧ clsOf h y = some c
  · rw [if_pos hc] at o
    obtain ⟨a, C', dx, nm', fs, rfl, q1, q2, _⟩ := clsOf_ok r d1 hc.1
    rw [hcl] at q2; cases q2
    obtain ⟨b, C', dy, nm', gs, rfl, p1, p2, _⟩ := clsOf_ok r d2 hc.2
    rw [hcl] at p2; cases p2
    refine ⟨a, b, dx, dy, fs, gs, rfl, rfl, q1, p1, rfl, G, h, [x, y], r, .cons d1 (.cons d2 .nil), ?_⟩
    cases es : sem [x, y] h with
    | ok z hh => rw [es] at o; exact o
    | exc c es' hh => rw [es] at o; exact o.elim
    | stk => rw [es] at o; exact o.elim
  · rw [if_neg hc] at o; exact o.elim
end
end L3
set_option autoImplicit false
set_option maxHeartbeats 4000000
/-! L3R: two lists made one of the def's own; comprehensions of two clauses. -/
namespace L3
open PySem PySem.Spec L2
section
variable {X : Cx} {T : Tx} {W : WX} {pos : Pos}
def catM : F2 := fun x y h => match asL h x, asL h y with
  | some xs, some ys => if lineOk (xs.length + ys.length) = true then .ok (.ref h.length) (h ++ [.lst (xs ++ ys)]) else .stk
  | _, _ => .stk
theorem os_catM : OpS X T (rdAdd X.K) catM := by
  intro W G h H σ x y v w Q r d1 d2 o
  unfold catM at o
  cases ex : asL h x with
  | none => rw [ex] at o; exact o.elim
  | some xs =>
    cases ey : asL h y with
    | none => rw [ex, ey] at o; exact o.elim
    | some ys =>
      rw [ex, ey] at o
      dsimp only at o
      by_cases hl : lineOk (xs.length + ys.length) = true
      · rw [if_pos hl] at o
        obtain ⟨a, vs, rfl, h1, q1⟩ := asL_ok r d1 ex
        obtain ⟨b, ws, rfl, h2, q2⟩ := asL_ok r d2 ey
        exact .inr (.inr (.inr ⟨a, b, vs, ws, rfl, rfl, h1, h2, by rw [← q1.length, ← q2.length]; exact lineOk_le hl, fun p hp => newLstM r (q1.append q2) hp o⟩))
      · rw [if_neg hl] at o; exact o.elim
/-! ### two clauses -/
def lcs2 (g : FnG) (f1 : FnI) (g1 : FnG) (e : FnE) (vs1 : List Nat) (δ : De) : List D → Hh → R (List D)
  | [], h => .ok [] h
  | d :: ds, h => match g d δ with
    | none => .stk
    | some δ1 => match f1 δ1 h with
      | .ok items h1 => match lcs g1 tYes3 e (wipeD δ1 vs1) items h1 with
        | .ok ys h2 => (lcs2 g f1 g1 e vs1 δ ds h2).bind fun zs h3 => .ok (ys ++ zs) h3
        | _ => .stk
      | _ => .stk
def eLc2 (mu : Bool) (f : FnI) (g : FnG) (f1 : FnI) (g1 : FnG) (e : FnE) (vs vs1 : List Nat) : FnE := fun δ h => (f δ h).bind fun items h1 => (lcs2 g f1 g1 e vs1 (wipeD δ vs) items h1).bind (kLst mu)
theorem lcs_exc (g : FnG) (t : FnT) (e : FnE) (δ : De) : ∀ (ds : List D) (h : Hh) c es h', lcs g t e δ ds h ≠ .exc c es h' := by
  intro ds
  induction ds with
  | nil => intro h c es h' z; cases z
  | cons a as ih =>
    intro h c es h' z
    unfold lcs at z
    split at z
    · cases z
    · split at z
      · split at z
        · split at z
          · rename_i yy hh _
            cases zz : lcs g t e δ as hh with
            | ok a b => rw [zz] at z; cases z
            | exc a b cc => exact ih _ _ _ _ zz
            | stk => rw [zz] at z; cases z
          · cases z
        · exact ih _ _ _ _ z
      · cases z
theorem lcs2_exc (g : FnG) (f1 : FnI) (g1 : FnG) (e : FnE) (vs1 : List Nat) (δ : De) : ∀ (ds : List D) (h : Hh) c es h', lcs2 g f1 g1 e vs1 δ ds h ≠ .exc c es h' := by
  intro ds
  induction ds with
  | nil => intro h c es h' z; cases z
  | cons a as ih =>
    intro h c es h' z
    unfold lcs2 at z
    split at z
    · cases z
    · split at z
      · split at z
        · rename_i yy hh _
          cases zz : lcs2 g f1 g1 e vs1 δ as hh with
          | ok a b => rw [zz] at z; cases z
          | exc a b cc => exact ih _ _ _ _ zz
          | stk => rw [zz] at z; cases z
        · cases z
      · cases z
/-- what is left to be told, by the inner items left and the outer ones -/
def rest2 (mu : Bool) (g : FnG) (f1 : FnI) (g1 : FnG) (e : FnE) (vs1 : List Nat) (δ δ1 : De) (ins outs : List D) (acc : List D) (h : Hh) : R D :=
  (lcs g1 tYes3 e (wipeD δ1 vs1) ins h).bind fun ys h2 => (lcs2 g f1 g1 e vs1 δ outs h2).bind fun zs h3 => kLst mu (acc ++ (ys ++ zs)) h3
theorem kLst_size {mu : Bool} {K : PySem.W.Frag} {G : Gst} {σ : L2.St} {ds : List D} {h : Hh} {Q : VK} (o : okR K T W G σ (RD K T) (kLst mu ds h) Q) : lineOk ds.length = true := by
  unfold kLst at o
  by_cases hl : lineOk ds.length = true
  · exact hl
  · rw [if_neg hl] at o; exact o.elim
theorem tE_lc2 {mu : Bool} {f f1 : FnI} {is is1 : List Nat} {g g1 : FnG} {e : FnE} {own : List (Str × Nat)} {vs1 : List Nat} (hin : ∀ i ∈ is, i ∈ own.map (·.2)) (hin1 : ∀ i ∈ is1, i ∈ vs1) {σ : L2.St} {H : Hp} {Q : VK} (hh : tE X.K T W (eLc2 mu f g f1 g1 e (own.map (·.2)) vs1) σ H Q) :
    tLc2 (tI X.K T W f) (tG X.K T is g) (tT X.K T W0 tYes3) (tI X.K T W0 f1) (tG X.K T is1 g1) (tT X.K T W0 tYes3) (tE X.K T W0 e) (own.map (·.2)) vs1 σ H Q := by
  revert hh
  rintro ⟨G, h0, δ, r, s, o⟩
  refine ⟨G, h0, δ, r, s, (okR.bind (rel := fun G ds J => Walk3 X.K T J G ds) o).mono ?_⟩
  rintro J H1 ⟨G1, items, h1, e1, r1, w, o1⟩
  intro Dn hD
  have s1 := (s.mono e1).wipe (own.map (·.2))
  have o1' : okR X.K T W G1 σ (RD X.K T) ((lcs2 g f1 g1 e vs1 (wipeD δ (own.map (·.2))) (items.drop 0) h1).bind fun ys h3 => kLst mu ([] ++ ys) h3) Q := o1
  refine ⟨fun i m H' => i ≤ items.length ∧ m = items.length - i ∧ ∃ G2 h2 acc, LcAt X.K T G1 Dn G2 acc h2 H' ∧ okR X.K T W G1 σ (RD X.K T) ((lcs2 g f1 g1 e vs1 (wipeD δ (own.map (·.2))) (items.drop i) h2).bind fun ys h3 => kLst mu (acc ++ ys) h3) Q,
    ⟨_, Nat.zero_le _, rfl, G1.guard Dn (.lst []), h1, [], ⟨⟨[], by simp [Gst.guard]⟩, fun _ _ q => q, ⟨[], rfl, .nil⟩, r1.guard hD⟩, o1'⟩, ?_⟩
  rintro i m H' ⟨hi', rfl, G2, h2, acc, l, o2⟩
  have x02 : Ext0 G1 G2 := ⟨l.ι, l.fz⟩
  by_cases hlt : i < items.length
  · refine .inr ?_
    have ed : items[i]? = some items[i] := by simp [hlt]
    obtain ⟨go, yl⟩ := (w i G2 h2 H' x02 l.rel).1 _ ed
    refine ⟨go, fun H3 => ∃ m', m' < items.length - i ∧ i + 1 ≤ items.length ∧ m' = items.length - (i + 1) ∧ ∃ G2 h2 acc, LcAt X.K T G1 Dn G2 acc h2 H3 ∧ okR X.K T W G1 σ (RD X.K T) ((lcs2 g f1 g1 e vs1 (wipeD δ (own.map (·.2))) (items.drop (i + 1)) h2).bind fun ys h3 => kLst mu (acc ++ ys) h3) Q,
      fun H3 ⟨m', a, b, c, d⟩ => ⟨m', a, b, c, d⟩, fun x H3 y => ?_⟩
    obtain ⟨G3, e3, r3, d3⟩ := yl x H3 y
    have l3 := l.step e3 r3
    have s3 : RSl X.K T G3 (wipeD δ (own.map (·.2))) (L2.wipe σ (own.map (·.2))) := ⟨s1.len, fun j d q => let ⟨v, a, b⟩ := s1.at_ j d q; ⟨v, a, b.mono0 ⟨l3.ι, l3.fz⟩⟩⟩
    rw [List.drop_eq_getElem_cons hlt] at o2
    unfold lcs2 at o2
    cases eg : g items[i] (wipeD δ (own.map (·.2))) with
    | none => rw [eg] at o2; exact o2.elim
    | some δ3 =>
      rw [eg] at o2
      dsimp only at o2
      refine ⟨G3, h2, _, items[i], δ3, r3, s3, d3, eg, fun σ4 s4 so => ⟨wipe_same so hin, G3, h2, δ3, r3, s4, ?_⟩⟩
      intro G4 H4 b' x4 r4 eb
      have eb' : true = b' := eb
      subst eb'
      have l4 := l3.step x4 r4
      have s5 := s4.mono x4
      rw [if_pos rfl]
      refine ⟨G4, h2, δ3, r4, s5, ?_⟩
      cases ef : f1 δ3 h2 with
      | stk => rw [ef] at o2; exact o2.elim
      | exc c ds h' => rw [ef] at o2; exact o2.elim
      | ok ins h3 =>
        rw [ef] at o2
        dsimp only at o2
        intro G5 H5 J1 x5 r5 w5
        have l5 := l4.step x5 r5
        have first : okR X.K T W G1 σ (RD X.K T) (rest2 mu g f1 g1 e vs1 (wipeD δ (own.map (·.2))) δ3 (ins.drop 0) (items.drop (i + 1)) acc h3) Q := by
          unfold rest2
          rw [List.drop_zero]
          cases el : lcs g1 tYes3 e (wipeD δ3 vs1) ins h3 with
          | stk => rw [el] at o2; exact o2.elim
          | exc c ds h' => exact absurd el (lcs_exc _ _ _ _ _ _ _ _ _)
          | ok ys h4 =>
            rw [el] at o2
            show okR X.K T W G1 σ (RD X.K T) ((lcs2 g f1 g1 e vs1 (wipeD δ (own.map (·.2))) (items.drop (i + 1)) h4).bind fun zs h3 => kLst mu (acc ++ (ys ++ zs)) h3) Q
            cases e2 : lcs2 g f1 g1 e vs1 (wipeD δ (own.map (·.2))) (items.drop (i + 1)) h4 with
            | stk => dsimp only at o2; rw [e2] at o2; exact o2.elim
            | exc c ds h' => exact absurd e2 (lcs2_exc _ _ _ _ _ _ _ _ _ _ _)
            | ok zs h5 => dsimp only at o2; rw [e2] at o2; exact o2
        refine ⟨fun j k H6 => j ≤ ins.length ∧ k = ins.length - j ∧ ∃ G6 h6 acc6, LcAt X.K T G1 Dn G6 acc6 h6 H6 ∧ Ext0 G5 G6 ∧ okR X.K T W G1 σ (RD X.K T) (rest2 mu g f1 g1 e vs1 (wipeD δ (own.map (·.2))) δ3 (ins.drop j) (items.drop (i + 1)) acc6 h6) Q,
          ⟨_, Nat.zero_le _, rfl, G5, h3, acc, l5, ⟨⟨[], (List.append_nil _).symm⟩, fun _ _ z => z⟩, first⟩, ?_⟩
        rintro j k H6 ⟨hj, rfl, G6, h6, acc6, l6, x06, o6⟩
        by_cases hjt : j < ins.length
        · refine .inr ?_
          have ed1 : ins[j]? = some ins[j] := by simp [hjt]
          obtain ⟨go1, yl1⟩ := (w5 j G6 h6 H6 x06 l6.rel).1 _ ed1
          refine ⟨go1, fun H7 => ∃ k', k' < ins.length - j ∧ j + 1 ≤ ins.length ∧ k' = ins.length - (j + 1) ∧ ∃ G6 h6 acc6, LcAt X.K T G1 Dn G6 acc6 h6 H7 ∧ Ext0 G5 G6 ∧ okR X.K T W G1 σ (RD X.K T) (rest2 mu g f1 g1 e vs1 (wipeD δ (own.map (·.2))) δ3 (ins.drop (j + 1)) (items.drop (i + 1)) acc6 h6) Q,
            fun H7 ⟨k', a, b, c, d⟩ => ⟨k', a, b, c, d⟩, fun x7 H7 y7 => ?_⟩
          obtain ⟨G7, e7, r7, d7⟩ := yl1 x7 H7 y7
          have l7 := l6.step e7 r7
          have x47 : Ext0 G4 G7 := by
            obtain ⟨a1, b1⟩ := x5.ι
            obtain ⟨a2, b2⟩ := x06.ι
            obtain ⟨a3, b3⟩ := e7.ι
            exact ⟨⟨a1 ++ (a2 ++ a3), by rw [b3, b2, b1]; simp⟩, fun a o z => e7.fz a o (x06.fz a o (x5.fz a o z))⟩
          have x57 : Ext0 G5 G7 := by
            obtain ⟨a2, b2⟩ := x06.ι
            obtain ⟨a3, b3⟩ := e7.ι
            exact ⟨⟨a2 ++ a3, by rw [b3, b2]; simp⟩, fun a o z => e7.fz a o (x06.fz a o z)⟩
          have sw := s5.wipe vs1
          have s7 : RSl X.K T G7 (wipeD δ3 vs1) (L2.wipe σ4 vs1) := ⟨sw.len, fun j d q => let ⟨v, a, b⟩ := sw.at_ j d q; ⟨v, a, b.mono0 x47⟩⟩
          unfold rest2 at o6
          rw [List.drop_eq_getElem_cons hjt] at o6
          unfold lcs at o6
          cases eg1 : g1 ins[j] (wipeD δ3 vs1) with
          | none => rw [eg1] at o6; exact o6.elim
          | some δ5 =>
            rw [eg1] at o6
            refine ⟨G7, h6, _, ins[j], δ5, r7, s7, d7, eg1, fun σ5 s8 so5 => ⟨wipe_same so5 hin1, G7, h6, δ5, r7, s8, ?_⟩⟩
            intro G8 H8 b8 x8 r8 eb8
            have eb9 : true = b8 := eb8
            subst eb9
            have l8 := l7.step x8 r8
            rw [if_pos rfl]
            refine ⟨G8, h6, δ5, r8, s8.mono x8, ?_⟩
            have o7 : okR X.K T W G1 σ (RD X.K T) (((match e δ5 h6 with
              | .ok y h2 => (lcs g1 tYes3 e (wipeD δ3 vs1) (ins.drop (j + 1)) h2).bind fun ys h3 => .ok (y :: ys) h3
              | _ => .stk) : R (List D)).bind fun ys h2 => (lcs2 g f1 g1 e vs1 (wipeD δ (own.map (·.2))) (items.drop (i + 1)) h2).bind fun zs h3 => kLst mu (acc6 ++ (ys ++ zs)) h3) Q := o6
            cases ee : e δ5 h6 with
            | stk => rw [ee] at o7; exact o7.elim
            | exc c ds h' => rw [ee] at o7; exact o7.elim
            | ok y h7 =>
              rw [ee] at o7
              dsimp only at o7
              cases el : lcs g1 tYes3 e (wipeD δ3 vs1) (ins.drop (j + 1)) h7 with
              | stk => rw [el] at o7; exact o7.elim
              | exc c ds h' => exact absurd el (lcs_exc _ _ _ _ _ _ _ _ _)
              | ok ys h8 =>
                rw [el] at o7
                have o8 : okR X.K T W G1 σ (RD X.K T) ((lcs2 g f1 g1 e vs1 (wipeD δ (own.map (·.2))) (items.drop (i + 1)) h8).bind fun zs h3 => kLst mu (acc6 ++ (y :: ys ++ zs)) h3) Q := o7
                cases e2 : lcs2 g f1 g1 e vs1 (wipeD δ (own.map (·.2))) (items.drop (i + 1)) h8 with
                | stk => rw [e2] at o8; exact o8.elim
                | exc c ds h' => exact absurd e2 (lcs2_exc _ _ _ _ _ _ _ _ _ _ _)
                | ok zs h9 =>
                  rw [e2] at o8
                  have o9 : okR X.K T W G1 σ (RD X.K T) (kLst mu (acc6 ++ (y :: ys ++ zs)) h9) Q := o8
                  have sz0 := of_decide_eq_true (show decide ((acc6 ++ (y :: ys ++ zs)).length ≤ 16777216) = true from kLst_size o9)
                  intro G9 H9 v x9 r9 d9
                  have l9 := l8.step x9 r9
                  obtain ⟨avs, ep, dacc⟩ := l9.pr
                  have hpr : G9.pr Dn = some (.lst avs) := by rw [ep, upd_same]
                  obtain ⟨q1, q2, q3⟩ := r9.pr Dn _ hpr
                  have x59 : Ext0 G5 G9 := by
                    obtain ⟨a2, b2⟩ := x57.ι
                    obtain ⟨a3, b3⟩ := x8.ι
                    obtain ⟨a4, b4⟩ := x9.ι
                    exact ⟨⟨a2 ++ (a3 ++ a4), by rw [b4, b3, b2]; simp⟩, fun a o z => x9.fz a o (x8.fz a o (x57.fz a o z))⟩
                  refine ⟨avs, q1, ?_, _, by omega, hjt, rfl, { G9 with pr := upd G9.pr Dn (.lst (avs ++ [v])) }, h7, acc6 ++ [y], ⟨l9.ι, l9.fz, ⟨avs ++ [v], ?_, ?_⟩, r9.reguard hpr⟩, ⟨x59.ι, x59.fz⟩, ?_⟩
                  · have : avs.length < 16777216 := by
                      rw [← dacc.length]
                      rw [List.length_append, List.length_append, List.length_cons] at sz0
                      omega
                    rw [sizeLine_eq]; exact this
                  · show upd G9.pr Dn (.lst (avs ++ [v])) = upd G1.pr Dn (.lst (avs ++ [v]))
                    rw [ep, upd_upd]
                  · exact RDs.mono0 (G := G9) (G' := { G9 with pr := upd G9.pr Dn (.lst (avs ++ [v])) }) ⟨⟨[], (List.append_nil _).symm⟩, fun _ _ z => z⟩ (dacc.append (.cons d9 .nil))
                  · unfold rest2
                    rw [el]
                    show okR X.K T W G1 σ (RD X.K T) ((lcs2 g f1 g1 e vs1 (wipeD δ (own.map (·.2))) (items.drop (i + 1)) h8).bind fun zs h3 => kLst mu (acc6 ++ [y] ++ (ys ++ zs)) h3) Q
                    rw [e2]
                    show okR X.K T W G1 σ (RD X.K T) (kLst mu (acc6 ++ [y] ++ (ys ++ zs)) h9) Q
                    rw [List.append_assoc]
                    exact o9
        · refine .inl ⟨(w5 j G6 h6 H6 x06 l6.rel).2 (by omega), _, by omega, hlt, rfl, G6, h6, acc6, l6, ?_⟩
          rw [List.drop_eq_nil_of_le (by omega)] at o6
          exact o6
  · refine .inl ⟨(w i G2 h2 H' x02 l.rel).2 (by omega), ?_⟩
    rw [List.drop_eq_nil_of_le (by omega)] at o2
    have o3 : okR X.K T W G1 σ (RD X.K T) (kLst mu (acc ++ []) h2) Q := o2
    rw [List.append_nil] at o3
    unfold kLst at o3
    by_cases hl : lineOk acc.length = true
    · rw [if_pos hl] at o3
      obtain ⟨avs, ep, dacc⟩ := l.pr
      have hpr : G2.pr Dn = some (.lst avs) := by rw [ep, upd_same]
      have pn : G1.pr Dn = none := by
        cases z : G1.pr Dn with
        | none => rfl
        | some u => have := (r1.pr Dn u z).1; rw [hD] at this; cases this
      obtain ⟨q1, q2, q3⟩ := l.rel.pr Dn _ hpr
      have fzm : ∀ a u, G2.fz a = some u → upd G2.fz Dn (.lst avs) a = some u := fun a u z => by
        have na : a ≠ Dn := fun y => by rw [y, q2] at z; cases z
        rw [upd_ne na]; exact z
      have hpr0 : ∀ a u, G1.pr a = some u → a ≠ Dn ∧ G2.pr a = some u := fun a u z => by
        have na : a ≠ Dn := fun y => by rw [y, pn] at z; cases z
        exact ⟨na, by rw [ep, upd_ne na]; exact z⟩
      cases mu with
      | false =>
        rw [if_neg Bool.false_ne_true] at o3
        exact o3 { G2 with pr := G1.pr, fz := upd G2.fz Dn (.lst avs) } H' (.ref Dn) ⟨l.ι, fun a u z => fzm a u (l.fz a u z), rfl⟩ (l.rel.unguard hpr hpr0) (.lst upd_same (RDs.mono0 (G := G2) (G' := { G2 with pr := G1.pr, fz := upd G2.fz Dn (.lst avs) }) ⟨⟨[], (List.append_nil _).symm⟩, fzm⟩ dacc))
      | true =>
        rw [if_pos rfl] at o3
        obtain ⟨x5, r5⟩ := l.rel.unguardO (u := .lst acc) hpr hpr0 fun G' x hi ho _ => ⟨Dn, avs, hi, ho, q1, dacc.mono0 x⟩
        obtain ⟨tt, et⟩ := l.ι
        refine o3 (G2.give Dn G1.pr) H' (.ref Dn) ⟨⟨tt ++ [Dn], ?_⟩, fun a u z => l.fz a u z, rfl⟩ r5 (.ref ?_)
        · show G2.ι ++ [Dn] = G1.ι ++ (tt ++ [Dn])
          rw [et, List.append_assoc]
        · show (G2.ι ++ [Dn])[h2.length]? = some Dn
          rw [← l.rel.len]; simp
    · rw [if_neg hl] at o3; exact o3.elim
theorem fe_lc2 {mu : Bool} {elt tg iter tg1 iter1 : Expr} {scope : Scope} {own : List (Str × Nat)} {vs1 : List Nat} {f f1 : FnI} {is is1 : List Nat} {g g1 : FnG} {e : FnE} (hc : X.calm = true) (hN : X.N.Nodup) (hi : FI X T W tg iter f) (ok : BlkOk X.N X.env.scope scope own) (hv : ∀ i ∈ vs1, i ∈ own.map (·.2))
    (hg : ∀ (s : Shared) (H : Hp) (C : Addr) (cl : List (Str × Addr)) (fp : List Addr), FG (X.blk s H scope (compEnvC scope cl C X.env) fp) T tg is g)
    (hi1 : ∀ (s : Shared) (H : Hp) (C : Addr) (cl : List (Str × Addr)) (fp : List Addr), FI (X.blk s H scope (compEnvC scope cl C X.env) fp) T W0 tg1 iter1 f1)
    (hg1 : ∀ (s : Shared) (H : Hp) (C : Addr) (cl : List (Str × Addr)) (fp : List Addr), FG (X.blk s H scope (compEnvC scope cl C X.env) fp) T tg1 is1 g1)
    (he : ∀ (s : Shared) (H : Hp) (C : Addr) (cl : List (Str × Addr)) (fp : List Addr), FE (X.blk s H scope (compEnvC scope cl C X.env) fp) T W0 elt e) (hin : ∀ i ∈ is, i ∈ own.map (·.2)) (hin1 : ∀ i ∈ is1, i ∈ vs1) (hs : ∀ x, foldedSetIterable iter X.env x = pure x := by intro _; rfl) (hs1 : ∀ env x, foldedSetIterable iter1 env x = pure x := by intro _ _; rfl) :
    FE X T W (.ListComp elt [⟨tg, iter, [], 0⟩, ⟨tg1, iter1, [], 0⟩] scope pos) (eLc2 mu f g f1 g1 e (own.map (·.2)) vs1) :=
  PE.imp (pe_lc2 (wi := tI X.K T W f) (g := tG X.K T is g) (tt := tT X.K T W0 tYes3) (wi1 := tI X.K T W0 f1) (g1 := tG X.K T is1 g1) (tt1 := tT X.K T W0 tYes3) (te := tE X.K T W0 e) hc hN hi ok hv hg (fun _ _ _ _ _ => fts_nil) hi1 hg1 (fun _ _ _ _ _ => fts_nil) he hs hs1) fun _ _ _ hh => tE_lc2 hin hin1 hh
end
end L3
set_option autoImplicit false
set_option maxHeartbeats 4000000
/-! L3S: dicts of the def's own whose keys are tuples of whole numbers. -/
namespace L3
open PySem PySem.Spec L2
section
variable {X : Cx} {T : Tx} {W : WX} {pos p2 : Pos}
def asDit (h : Hh) : D → Option (List (List Int) × List D)
  | .ref n => match h[n]? with
    | some (.dit ks vs) => some (ks, vs)
    | _ => none
  | _ => none
def lookI : List (List Int) → List D → List Int → Option D
  | q :: ks, v :: vs, k => if q = k then some v else lookI ks vs k
  | _, _, _ => none
def kI (k : List Int) : List Key := k.map Sum.inl
theorem kI_inj {a b : List Int} (h : kI a = kI b) : a = b := by
  unfold kI at h
  exact (List.map_inj_right fun x y e => Sum.inl.inj e).mp h
theorem kI_V (k : List Int) : (kI k).map kV = k.map V.int := by
  unfold kI; rw [List.map_map]; rfl
theorem lookI_ok {K : PySem.W.Frag} {G : Gst} {k : List Int} {d : D} : ∀ {kvs : List (List Key × V)} {ks : List (List Int)} {vs : List D}, kvs.map (·.1) = ks.map kI → RDs K T G vs (kvs.map (·.2)) → lookI ks vs k = some d → ∃ v, valV kvs (kI k) = some v ∧ RD K T G d v
  | [], [], vs, _, _, e => by cases vs <;> cases e
  | [], q :: ks, vs, h, _, e => by cases h
  | p :: kvs, [], vs, h, _, e => by cases h
  | p :: kvs, q :: ks, vs, h, hv, e => by
    rw [List.map_cons] at hv
    cases hv with
    | @cons v _ vs _ d1 d2 =>
      rw [List.map_cons, List.map_cons] at h
      obtain ⟨h1, h2⟩ := List.cons.inj h
      unfold lookI at e
      by_cases c : q = k
      · rw [if_pos c] at e
        cases e
        exact ⟨p.2, valV_pos (by rw [h1, c]), d1⟩
      · rw [if_neg c] at e
        obtain ⟨v, e1, e2⟩ := lookI_ok h2 d2 e
        exact ⟨v, by rw [valV_neg (fun z => c (kI_inj (by rw [← h1, z])))]; exact e1, e2⟩
theorem asDit_ok {K : PySem.W.Frag} {G : Gst} {h : Hh} {H : Hp} {d : D} {v : V} {ks : List (List Int)} {vs : List D} (r : Rel K T G h H) (d1 : RD K T G d v) (e : asDit h d = some (ks, vs)) :
    ∃ a kvs, v = .ref a ∧ H a = some (.dT kvs) ∧ kvs.map (·.1) = ks.map kI ∧ RDs K T G vs (kvs.map (·.2)) := by
  cases d1 with
  | @ref n a q =>
    unfold asDit at e
    dsimp only at e
    cases z : h[n]? with
    | none => rw [z] at e; cases e
    | some o =>
      rw [z] at e
      cases o with
      | dit ks' vs' =>
        cases e
        obtain ⟨a', kvs, e1, e2, e3, e4, e5⟩ := r.obj n _ z
        rw [q] at e1; cases e1
        exact ⟨a, kvs, rfl, e3, e4, e5⟩
      | _ => cases e
  | _ => cases e
/-! {} -/
def eDicT : FnE := fun _ h1 => .ok (.ref h1.length) (h1 ++ [.dit [] []])
theorem fe_dictT : FE X T W (.Dict [] [] pos) eDicT := by
  refine PE.imp pe_dnewT fun σ H Q => ?_
  rintro ⟨G, hh, δ, r, s, o⟩
  intro p hp
  unfold eDicT at o
  obtain ⟨x, r'⟩ := r.newO (o := .dT []) (u := .dit [] []) hp fun G' x hi ho _ => ⟨p, [], hi, ho, upd_same, rfl, .nil⟩
  refine o _ _ _ x r' (.ref ?_)
  show (G.ι ++ [p])[hh.length]? = some p
  rw [← r.len]; simp
/-! d[(i, ..)] -/
def kIxT (x : D) (ds : List D) (h : Hh) : R D := match asDit h x with
  | some (ks, vs) => match intsOf ds with
    | some k => if ds.length ≤ 100 then optR (lookI ks vs k) h else .stk
    | none => .stk
  | none => .stk
def eIxT (fo : FnE) (fa : FnA) : FnE := fun δ h => (fo δ h).bind fun x h1 => (fa δ h1).bind fun ds h2 => kIxT x ds h2
theorem fe_ixT {a : Expr} {es : List Expr} {c} {fo : FnE} {fa : FnA} (hu : X.A.units + 1 < cLine) (hs : PlainIx (.Tuple es c p2)) (ho : FE X T W a fo) (ha : FA X T W es fa) : FE X T W (.Subscript a (.Tuple es c p2) pos) (eIxT fo fa) := by
  refine PE.imp (pe_ix (ix_dict hu) ho (pe_tup ha) hs) fun σ H Q => ?_
  rintro ⟨G, h0, δ, r, s, o⟩
  refine ⟨G, h0, δ, r, s, (okR.bind (rel := RD X.K T) o).mono ?_⟩
  rintro vx H1 ⟨G1, x, h1, e1, r1, d1, o1⟩
  refine ⟨G1, h1, δ, r1, s.mono e1, (okR.bind (rel := RDs X.K T) o1).mono ?_⟩
  rintro ws H2 ⟨G2, ds, h2, e2, r2, d2, o2⟩
  unfold kIxT at o2
  cases ed : asDit h2 x with
  | none => rw [ed] at o2; exact o2.elim
  | some kv =>
    obtain ⟨ks, vs⟩ := kv
    rw [ed] at o2
    dsimp only at o2
    cases ek : intsOf ds with
    | none => rw [ek] at o2; exact o2.elim
    | some k =>
      rw [ek] at o2
      dsimp only at o2
      by_cases hl : ds.length ≤ 100
      · rw [if_pos hl] at o2
        cases el : lookI ks vs k with
        | none => rw [el] at o2; exact o2.elim
        | some d =>
          rw [el] at o2
          obtain ⟨b, kvs, rfl, q1, q2, q3⟩ := asDit_ok r2 (d1.mono e2) ed
          obtain ⟨v, w1, w2⟩ := lookI_ok q2 q3 el
          have ew := intsOf_ok d2 ek
          subst ew
          refine ⟨by rw [← d2.length, sizeLine_eq]; omega, fun p hp => ?_⟩
          have nb : b ≠ p := fun z => by rw [z, hp] at q1; cases q1
          exact ⟨b, v, rfl, by rw [← w1]; exact DGet.t (by rw [upd_ne nb]; exact q1) (by rw [upd_same, kI_V]), o2 G2 _ v (Ext.refl G2) (r2.track hp) w2⟩
      · rw [if_neg hl] at o2; exact o2.elim
/-! d[(i, ..)] = e, the key new -/
def setT (x : D) (ds : List D) (y : D) (h : Hh) : Option Hh := match x with
  | .ref n => match h[n]? with
    | some (.dit ks vs) => match intsOf ds with
      | some k => if ks.length < 1000000 ∧ ds.length ≤ 100 ∧ ks.all (fun q => !decide (q = k)) = true then some (h.set n (.dit (ks ++ [k]) (vs ++ [y]))) else none
      | none => none
    | _ => none
  | _ => none
def kSetT (δ : De) (x : D) (ds : List D) (y : D) (h : Hh) : RS := match setT x ds y h with
  | some h' => .nx δ h'
  | none => .stk
def sIxT (fo : FnE) (fa : FnA) (fv : FnE) : FnS := fun δ h => (fv δ h).toS δ fun y h1 => (fo δ h1).toS δ fun x h2 => (fa δ h2).toS δ fun ds h3 => kSetT δ x ds y h3
theorem any_new {ks : List (List Int)} {k : List Int} : ∀ {kvs : List (List Key × V)}, kvs.map (·.1) = ks.map kI → ks.all (fun q => !decide (q = k)) = true → (kvs.any fun kv => decide (kv.1 = kI k)) = false := by
  intro kvs h a
  rw [Bool.eq_false_iff]
  intro z
  obtain ⟨p, mp, ep⟩ := List.any_eq_true.mp z
  have e := of_decide_eq_true ep
  have m : p.1 ∈ ks.map kI := by rw [← h]; exact List.mem_map.mpr ⟨p, mp, rfl⟩
  obtain ⟨q, mq, eq⟩ := List.mem_map.mp m
  have := List.all_eq_true.mp a q mq
  rw [decide_eq_true (kI_inj (eq.trans e))] at this
  cases this
theorem fs_ixT {o value : Expr} {es : List Expr} {c} {fo : FnE} {fa : FnA} {fv : FnE} {pos' : Pos} (hu : X.A.units + 1 < cLine) (ho : FE X T W o fo) (hi : FA X T W es fa) (hv : FE X T W value fv)
    (ha : ∀ v, assign (.Subscript o (.Tuple es c p2) pos') X.env v = (do
      let ov ← holding [v] (eval o X.env)
      let iv ← holding [v, ov] (eval (.Tuple es c p2) X.env)
      standAt pos'
      holding [v, ov, iv] (setItem ov iv v)
      release [v, ov, iv] []) := by intro _; rfl)
    (hs : swapsWithSole [.Subscript o (.Tuple es c p2) pos'] value pos.line X.env = pure false := by rfl) (hw : swappedStores [.Subscript o (.Tuple es c p2) pos'] value X.env = pure none := by rfl) (h1 : (assignEach [.Subscript o (.Tuple es c p2) pos'] X.env).map (·.2) = [assign (.Subscript o (.Tuple es c p2) pos') X.env] := by rfl) :
    FS X T W (.Assign [.Subscript o (.Tuple es c p2) pos'] value pos) (sIxT fo fa fv) := by
  refine PS.imp (ps_asg hv (pg_sub ho (pe_tup hi) (set_A hu) ha) hs hw h1) fun D σ H => ?_
  rintro ⟨G, h0, δ, r, s, oo⟩
  refine ⟨G, h0, δ, r, s, (okS.toS (rel := RD X.K T) s oo).mono ?_⟩
  rintro vy H1 ⟨G1, y, h1, e1, r1, d1, o1⟩
  refine ⟨G1, h1, δ, r1, s.mono e1, (okS.toS (rel := RD X.K T) (s.mono e1) o1).mono ?_⟩
  rintro vx H2 ⟨G2, x, h2, e2, r2, d2, o2⟩
  refine ⟨G2, h2, δ, r2, s.mono (e1.trans e2), (okS.toS (rel := RDs X.K T) (s.mono (e1.trans e2)) o2).mono ?_⟩
  rintro ws H3 ⟨G3, ds, h3, e3, r3, d3, o3⟩
  unfold kSetT at o3
  cases es : setT x ds y h3 with
  | none => rw [es] at o3; exact o3.elim
  | some h4 =>
    rw [es] at o3
    dsimp only at o3
    have dx := d2.mono e3
    have dy := d1.mono (e2.trans e3)
    generalize hvx : vx = vx' at dx
    cases dx with
    | @ref n a q1 =>
      subst hvx
      unfold setT at es
      dsimp only at es
      cases z : h3[n]? with
      | none => rw [z] at es; cases es
      | some ob =>
        rw [z] at es
        have hn : n < h3.length := (List.getElem?_eq_some_iff.mp z).1
        cases ob with
        | dit ks vs =>
          dsimp only at es
          cases ek : intsOf ds with
          | none => rw [ek] at es; cases es
          | some k =>
            rw [ek] at es
            dsimp only at es
            by_cases hl : ks.length < 1000000 ∧ ds.length ≤ 100 ∧ ks.all (fun q => !decide (q = k)) = true
            · rw [if_pos hl] at es
              cases es
              have ew := intsOf_ok d3 ek
              subst ew
              refine ⟨by rw [← d3.length, sizeLine_eq]; omega, fun p hp => ?_⟩
              have rt := r3.track (o := .tup (k.map V.int)) hp
              obtain ⟨a', kvs, w1, w2, w3, w4, w5⟩ := rt.obj n _ z
              rw [q1] at w1; cases w1
              have hk : kvs.length < sizeLine := by
                have := congrArg List.length w4
                rw [List.length_map, List.length_map] at this
                rw [this, sizeLine_eq]; omega
              have an := any_new w4 hl.2.2
              have pk : putK kvs (kI k) vy = kvs ++ [(kI k, vy)] := by unfold putK; rw [an]; rfl
              refine .inr ⟨a, _, rfl, DPut.t w3 (by rw [upd_same, kI_V]) hk, ?_⟩
              rw [pk]
              refine o3 G3 _ σ (Ext.refl G3) (rt.put hn w2 ⟨a, _, q1, w2, upd_same, ?_, ?_⟩) (s.mono (e1.trans (e2.trans e3)))
              · rw [List.map_append, List.map_append, w4]; rfl
              · rw [List.map_append]; exact w5.append (.cons dy .nil)
            · rw [if_neg hl] at es; cases es
        | _ => cases es
    | _ => cases es
/-! keys that are pairs of whole numbers, by name -/
def keyP (y : D) : Option (List Int) := match y with
  | .tup ds => if ds.length = 2 then intsOf ds else none
  | _ => none
theorem keyP_ok {K : PySem.W.Frag} {G : Gst} {y : D} {v : V} {k : List Int} (d : RD K T G y v) (e : keyP y = some k) : ∃ b, v = .ref b ∧ G.fz b = some (.tup (k.map V.int)) := by
  cases d with
  | @tup ds a vs h r n =>
    unfold keyP at e
    dsimp only at e
    by_cases hl : ds.length = 2
    · rw [if_pos hl] at e
      have ew := intsOf_ok r e
      subst ew
      exact ⟨a, rfl, n hl⟩
    · rw [if_neg hl] at e; cases e
  | _ => cases e
theorem lookI_no {K : PySem.W.Frag} {G : Gst} {k : List Int} : ∀ {kvs : List (List Key × V)} {ks : List (List Int)} {vs : List D}, kvs.map (·.1) = ks.map kI → RDs K T G vs (kvs.map (·.2)) → lookI ks vs k = none → valV kvs (kI k) = none
  | [], [], _, _, _, _ => rfl
  | [], q :: ks, vs, h, _, e => by cases h
  | p :: kvs, [], vs, h, _, e => by cases h
  | p :: kvs, q :: ks, vs, h, hv, e => by
    rw [List.map_cons] at hv
    cases hv with
    | @cons v _ vs _ d1 d2 =>
      rw [List.map_cons, List.map_cons] at h
      obtain ⟨h1, h2⟩ := List.cons.inj h
      unfold lookI at e
      by_cases c : q = k
      · rw [if_pos c] at e; cases e
      · rw [if_neg c] at e
        rw [valV_neg (fun z => c (kI_inj (by rw [← h1, z])))]
        exact lookI_no h2 d2 e
def ixP : F2 := fun x y h => match asDit h x with
  | some (ks, vs) => match keyP y with
    | some k => optR (lookI ks vs k) h
    | none => .stk
  | none => .stk
theorem os_ixP : OpS X T rIxH ixP := by
  intro W G h H σ x y v w Q r d1 d2 o
  unfold ixP at o
  cases e : asDit h x with
  | none => rw [e] at o; exact o.elim
  | some p =>
    obtain ⟨ks, vs⟩ := p
    rw [e] at o
    dsimp only at o
    cases ek : keyP y with
    | none => rw [ek] at o; exact o.elim
    | some k =>
      rw [ek] at o
      dsimp only at o
      cases el : lookI ks vs k with
      | none => rw [el] at o; exact o.elim
      | some d =>
        rw [el] at o
        obtain ⟨a, kvs, rfl, q1, q2, q3⟩ := asDit_ok r d1 e
        obtain ⟨u, w1, w2⟩ := lookI_ok q2 q3 el
        obtain ⟨b, rfl, hb⟩ := keyP_ok d2 ek
        exact ⟨a, u, rfl, by rw [← w1]; exact DGet.t q1 (by rw [kI_V]; exact r.sub _ _ hb), o.at r w2⟩
theorem fe_ixP {a b : Expr} {fa fb : FnE} (hu : X.A.units + 1 < cLine) (hs : PlainIx b) (ha : FE X T W a fa) (hb : FE X T W b fb) : FE X T W (.Subscript a b pos) (eBin ixP fa fb) :=
  PE.imp (pe_ix (ix_dict hu) ha hb hs) fun _ _ _ h => tE_bin os_ixP h
/-! y not in d -/
def rNinH : R2 := fun x y H Q => ∃ a o, y = .ref a ∧ DGet H a x o ∧ Q (.bl (!o.isSome)) H
theorem op_ninH (hu : X.A.units + 1 < cLine) : OpR X (compareOp .NotIn) rNinH := by
  intro pins s σ H x y v u Q I rx ry h
  obtain ⟨a, o, rfl, g, q⟩ := h
  cases ry
  exact d_notIn hu I g rx fun s' I' => ⟨.bl _, H, I', rfl, q⟩
def ninP : F2 := fun x y h => match asDit h y with
  | some (ks, vs) => match keyP x with
    | some k => .ok (.bl (!(lookI ks vs k).isSome)) h
    | none => .stk
  | none => .stk
theorem os_ninP : OpS X T rNinH ninP := by
  intro W G h H σ x y v w Q r d1 d2 o
  unfold ninP at o
  cases e : asDit h y with
  | none => rw [e] at o; exact o.elim
  | some p =>
    obtain ⟨ks, vs⟩ := p
    rw [e] at o
    dsimp only at o
    cases ek : keyP x with
    | none => rw [ek] at o; exact o.elim
    | some k =>
      rw [ek] at o
      dsimp only at o
      obtain ⟨a, kvs, rfl, q1, q2, q3⟩ := asDit_ok r d2 e
      obtain ⟨b, rfl, hb⟩ := keyP_ok d1 ek
      have hb' : H b = some (.tup ((kI k).map kV)) := by rw [kI_V]; exact r.sub _ _ hb
      cases el : lookI ks vs k with
      | none =>
        rw [el] at o
        exact ⟨a, none, rfl, by rw [← lookI_no q2 q3 el]; exact DGet.t q1 hb', o.at r .bl⟩
      | some d =>
        rw [el] at o
        obtain ⟨u, w1, w2⟩ := lookI_ok q2 q3 el
        exact ⟨a, some u, rfl, by rw [← w1]; exact DGet.t q1 hb', o.at r .bl⟩
/-! d[y] = e, the key new -/
def setP (x i y : D) (h : Hh) : Option Hh := match i with
  | .tup ds => if ds.length = 2 then setT x ds y h else none
  | _ => none
theorem setP_ok {K : PySem.W.Frag} {G : Gst} {h h' : Hh} {H : Hp} {x i y : D} {vx vi vy : V} {Q : Hp → Prop} (r : Rel K T G h H) (dx : RD K T G x vx) (di : RD K T G i vi) (dy : RD K T G y vy) (e : setP x i y h = some h') (q : ∀ H', Rel K T G h' H' → Q H') : rSetA vx vi vy H Q := by
  unfold setP at e
  cases di with
  | @tup ds b ws h1 d3 n1 =>
    dsimp only at e
    by_cases h2 : ds.length = 2
    · rw [if_pos h2] at e
      cases dx with
      | @ref n a q1 =>
        unfold setT at e
        dsimp only at e
        cases z : h[n]? with
        | none => rw [z] at e; cases e
        | some ob =>
          rw [z] at e
          have hn : n < h.length := (List.getElem?_eq_some_iff.mp z).1
          cases ob with
          | dit ks vs =>
            dsimp only at e
            cases ek : intsOf ds with
            | none => rw [ek] at e; cases e
            | some k =>
              rw [ek] at e
              dsimp only at e
              by_cases hl : ks.length < 1000000 ∧ ds.length ≤ 100 ∧ ks.all (fun q => !decide (q = k)) = true
              · rw [if_pos hl] at e
                cases e
                have ew := intsOf_ok d3 ek
                subst ew
                have hb' : H b = some (.tup ((kI k).map kV)) := by rw [kI_V]; exact r.sub _ _ (n1 h2)
                obtain ⟨a', kvs, w1, w2, w3, w4, w5⟩ := r.obj n _ z
                rw [q1] at w1; cases w1
                have hk : kvs.length < sizeLine := by
                  have := congrArg List.length w4
                  rw [List.length_map, List.length_map] at this
                  rw [this, sizeLine_eq]; omega
                have an := any_new w4 hl.2.2
                have pk : putK kvs (kI k) vy = kvs ++ [(kI k, vy)] := by unfold putK; rw [an]; rfl
                refine .inr ⟨a, _, rfl, DPut.t w3 hb' hk, ?_⟩
                rw [pk]
                refine q _ (r.put hn w2 ⟨a, _, q1, w2, upd_same, ?_, ?_⟩)
                · rw [List.map_append, List.map_append, w4]; rfl
                · rw [List.map_append]; exact w5.append (.cons dy .nil)
              · rw [if_neg hl] at e; cases e
          | _ => cases e
      | _ => cases e
    · rw [if_neg h2] at e; cases e
  | _ => cases e
def kSetP (δ : De) (x i y : D) (h : Hh) : RS := match setP x i y h with
  | some h' => .nx δ h'
  | none => .stk
def sIxP (fo fi fv : FnE) : FnS := fun δ h => (fv δ h).toS δ fun y h1 => (fo δ h1).toS δ fun x h2 => (fi δ h2).toS δ fun i h3 => kSetP δ x i y h3
theorem fs_ixP {o i value : Expr} {fo fi fv : FnE} {pos' : Pos} (hu : X.A.units + 1 < cLine) (ho : FE X T W o fo) (hi : FE X T W i fi) (hv : FE X T W value fv)
    (ha : ∀ v, assign (.Subscript o i pos') X.env v = (do
      let ov ← holding [v] (eval o X.env)
      let iv ← holding [v, ov] (eval i X.env)
      standAt pos'
      holding [v, ov, iv] (setItem ov iv v)
      release [v, ov, iv] []) := by intro _; rfl)
    (hs : swapsWithSole [.Subscript o i pos'] value pos.line X.env = pure false := by rfl) (hw : swappedStores [.Subscript o i pos'] value X.env = pure none := by rfl) (h1 : (assignEach [.Subscript o i pos'] X.env).map (·.2) = [assign (.Subscript o i pos') X.env] := by rfl) :
    FS X T W (.Assign [.Subscript o i pos'] value pos) (sIxP fo fi fv) := by
  refine PS.imp (ps_asg hv (pg_sub ho hi (set_A hu) ha) hs hw h1) fun D σ H => ?_
  rintro ⟨G, h0, δ, r, s, oo⟩
  refine ⟨G, h0, δ, r, s, (okS.toS (rel := RD X.K T) s oo).mono ?_⟩
  rintro vy H1 ⟨G1, y, h1, e1, r1, d1, o1⟩
  refine ⟨G1, h1, δ, r1, s.mono e1, (okS.toS (rel := RD X.K T) (s.mono e1) o1).mono ?_⟩
  rintro vx H2 ⟨G2, x, h2, e2, r2, d2, o2⟩
  refine ⟨G2, h2, δ, r2, s.mono (e1.trans e2), (okS.toS (rel := RD X.K T) (s.mono (e1.trans e2)) o2).mono ?_⟩
  rintro vi H3 ⟨G3, i', h3, e3, r3, d3, o3⟩
  unfold kSetP at o3
  cases es : setP x i' y h3 with
  | none => rw [es] at o3; exact o3.elim
  | some h4 =>
    rw [es] at o3
    exact setP_ok r3 (d2.mono e3) d3 (d1.mono (e2.trans e3)) es fun H' r' => o3 G3 H' σ (Ext.refl G3) r' (s.mono (e1.trans (e2.trans e3)))
end
end L3
set_option autoImplicit false
set_option maxHeartbeats 4000000
/-! L3T: own errors (an __init__ that says super().__init__(text); self.f = a), raise, try with clauses. -/
namespace L3
open PySem PySem.Spec L2 PySem.W PySem.Calls PyProof.Rows
/-- what is asked of the program -/
structure PrgOk (P : Program) (file : Str) : Prop where
  file : ((P.main.file : Str) == file) = true
  top : (P.main.scope.names.lookup ("super" : Str)).isSome = false
section
variable {prog : Program} {w : World} {K : PySem.W.Frag} {mg mb : Str → Option Value} {A : Around} {E : Value → Shared → Prop} {R : Result → Shared → Prop} {C fI : Addr} {a f file : Str} {hp : Heap} {g : Array GenState} {d : Drawn} {t : Nat} {os : OsState} {u : Value}
theorem bind2 {params : Arguments} {p1 p2 : Pos} {name qual : Str} {body : List Stmt} {scope : Scope} {doc pm ct cdv : Value} {an : Option Addr} {cc : Addr} {x y : Value} (hp : params = ⟨[], [⟨"self", none, p1⟩, ⟨a, none, p2⟩], none, [], [], none, []⟩) (hn : (a == sSelf) = false) :
    bindArgs (ksFn name qual params body scope .none .none doc pm an cdv ct cc) ⟨[x, y], []⟩ = pure [(sSelf, x), (a, y)] := by
  subst hp
  have e1 : ((a : Str) == "self") = false := hn
  unfold bindArgs
  simp [seqItems?, List.lookup, e1, notAStandIn]
theorem meth_line {o : Expr} {name : Str} {apos pos p3 : Pos} {txt : Str} {j : Nat} {env : Env} (hl : (apos.endLine == pos.line) = true) : eval (.Call (.Attribute o name apos) [.Constant (.str txt) j p3] [] pos) env = (do
      let ov ← attributeBase o name env (eval o env)
      standAt apos.atName
      let (f, first) ← holding [ov] (getMethod ov name (do return (← importBound o env).getD true))
      callWith pos f first (backTo pos (starEach [.Constant (.str txt) j p3] env)) []) := by
  have e1 : methodCallPos true o env apos pos = pure pos := by unfold methodCallPos; rw [hl]; rfl
  show (do
      let ov ← attributeBase o name env (eval o env)
      standAt apos.atName
      methodCall o name apos pos env ov 1 (backTo pos (starEach [.Constant (.str txt) j p3] env)) []) = _
  unfold methodCall
  have e2 : methodCallForm 1 (backTo pos (starEach [.Constant (.str txt) j p3] env)) [] = true := rfl
  rw [e2, e1]
  rfl
/-- self, already bound: the own error's __init__ runs -/
theorem init_run (EC : ErrC K C fI a f file) (PO : PrgOk prog file) (KX : K.In hp) (hg : hp.Ns mainGlobals mg) (hb : hp.Ns builtinsNs mb) (hbb : ∀ x : Str, x ≠ "__name__" → mb x = bootBuiltins x) (hlim : hp.NoLimit) (hroom : A.depth < recursionLimit)
    (h : ∀ (h' : Heap) (tk' : Nat) (dx t1 : Addr), (∀ b o, hp.get? b = some o → h'.get? b = some o) → hp.objs.size ≤ dx → dx ≠ hp.objs.size + 1 → h'.get? (hp.objs.size + 1) = some (excObj C t1 (some dx) .none) →
      h'.Ns1 dx (fun y => if y = f then some u else none) → R (.ok (.ret .none)) ⟨h', g, d, tk', os⟩) :
    codeAny (model prog w) A (.call (.ref fI) ⟨[.ref (hp.objs.size + 1), u], []⟩) R ⟨(hp.push (kdv_tup [u])).push (HandSPX.excO C hp.objs.size), g, d, t, os⟩ := by
  obtain ⟨oc, od, osl, name, qual, params, body, scope, doc, pm, an, cdA, ct, cc, hl, hcd, ⟨ccl, cdd, vs, ccs, tf, hco, hvs⟩, ⟨cl, cld, csl, hcc⟩, ET⟩ := EC.fn
  have eki := ET.ki
  obtain ⟨kind, names, gen, co, more⟩ := scope
  dsimp only at eki
  subst eki
  obtain ⟨pp1, pp2, epar⟩ := ET.par
  obtain ⟨txt, j, p0, p1, p2, p3, p4, p5, p6, p7, p8, p9, ebody, hln⟩ := ET.body
  have kk : ∀ b o, hp.get? b = some o → ((hp.push (kdv_tup [u])).push (HandSPX.excO C hp.objs.size)).get? b = some o := fun b o e => Heap.get?_push_of_some _ (Heap.get?_push_of_some _ e)
  have hget : ((hp.push (kdv_tup [u])).push (HandSPX.excO C hp.objs.size)).get? (hp.objs.size + 1) = some (HandSPX.excO C hp.objs.size) := by heap_get
  have hsz : ((hp.push (kdv_tup [u])).push (HandSPX.excO C hp.objs.size)).objs.size = hp.objs.size + 2 := by rw [Heap.size_push, Heap.size_push]
  refine ks_codeAny_call_defAt (fd := ksFn name qual params body ⟨.function, names, gen, co, more⟩ .none .none doc pm an (.ref cdA) ct cc) (body := body) (binds := [(sSelf, .ref (hp.objs.size + 1)), (a, u)]) hroom (kk _ _ (KX _ _ hl)) rfl (hlim.keeps kk) (codeRec_of (KX.keeps kk) hcd) rfl
    (.of_eq (bind2 epar ET.ne)) ET.ce (fun x hx => ?_) (fun h₀ hns hk => ?_) ET.co ET.ge ET.ki
  · rcases List.mem_cons.mp hx with e | hx
    · subst e; exact ET.se
    · rcases List.mem_cons.mp hx with e | hx
      · subst e; exact ET.aa
      · cases hx
  · have Xo : K.In h₀ := fun b o e => hk b o (kk b o (KX b o e))
    have up : ∀ b o, hp.get? b = some o → h₀.get? b = some o := fun b o e => hk b o (kk b o e)
    have F : Fr hp ((hp.push (kdv_tup [u])).push (HandSPX.excO C hp.objs.size)).objs.size h₀ (fun x => [(sSelf, Value.ref (hp.objs.size + 1)), (a, u)].reverse.lookup x) := ⟨hns, up, by first | exact Nat.le_add_right _ _ | (rw [hsz]; exact Nat.le_add_right _ _)⟩
    have none_ : hp.get? (hp.objs.size + 1) = none := by
      cases e : hp.get? (hp.objs.size + 1) with
      | none => rfl
      | some o => exact absurd (Nat.lt_of_succ_lt (Heap.lt_size e)) (Nat.lt_irrefl _)
    have N : News hp ((hp.push (kdv_tup [u])).push (HandSPX.excO C hp.objs.size)).objs.size h₀ [(hp.objs.size + 1, excObj C hp.objs.size none .none)] := fun p hp_ => by
      rcases List.mem_cons.mp hp_ with e | hp_
      · subst e; exact ⟨hk _ _ hget, by rw [hsz]; exact Nat.ne_of_lt (Nat.lt_succ_self _), none_⟩
      · cases hp_
    have ms : [(sSelf, Value.ref (hp.objs.size + 1)), (a, u)].reverse.lookup sSelf = some (Value.ref (hp.objs.size + 1)) := by
      have e1 : (sSelf == a) = false := by
        cases q : (sSelf == a) with
        | false => rfl
        | true => have := beq_iff_eq.mp q; rw [← this] at ET; exact absurd ET.ne (by simp)
      simp [List.lookup, e1]
    have ma : [(sSelf, Value.ref (hp.objs.size + 1)), (a, u)].reverse.lookup a = some u := by simp [List.lookup]
    obtain ⟨cdD, hD⟩ : ∃ cd, clsIn K C = some cd := by
      cases e : clsIn K C with
      | none => have := EC.sf; unfold mroIn at this; rw [e] at this; cases this
      | some cd => exact ⟨cd, rfl⟩
    obtain ⟨oD, hD1, hD2⟩ : ∃ oD, h₀.get? C = some oD ∧ oD.data = .cls cdD := by
      unfold clsIn at hD
      split at hD
      · rename_i c d cd' sl ho
        cases hD
        exact ⟨_, Xo _ _ ho, rfl⟩
      · cases hD
    subst ebody
    refine ks_wpAt_execs_cons (ks_wpAt_Expr_any (ks_wpAt_MethodCall ?_ (meth_line hln)))
    have I0 : InstAt h₀ (hp.objs.size + 1) (excObj C hp.objs.size none .none) C none := ⟨hk _ _ hget, rfl, rfl, trivial⟩
    refine ks_wpAt_super_base (ar := ⟨"self", none, pp1⟩) ET.su ET.cl rfl rfl (Xo _ _ hl) rfl (by rw [epar]; rfl) rfl (Xo _ _ hco) rfl hvs PO.file PO.top ?_
    refine ks_loadName_global rfl ET.su (loadGlobal_builtin (hg.keeps up) (mg_none_of KX hg EC.su) (hb.keeps up) ((hbb _ (by decide +kernel)).trans (by rfl)) ⟨rfl, ?_⟩)
    refine wpAny_loadName_free rfl ET.cl rfl ⟨_, Xo _ _ hcc, rfl⟩ ?_
    refine wpAny_loadName_local rfl ET.se F.ns ms ?_
    refine ks_wpAny_isType_cls hD1 hD2 ⟨rfl, ?_⟩
    refine ks_wpAny_call_super hD1 hD2 I0.at_ I0.cls (fun c e => by cases e) (looks_mroIn Xo EC.sf) (fun h1 e1 k1 => ?_)
    obtain ⟨F1, N1, l1⟩ := ks_newsPush (s := ⟨h₀, g, d, t, os⟩) F N rfl e1 k1
    have I1 : InstAt h1 (hp.objs.size + 1) (excObj C hp.objs.size none .none) C none := ⟨k1 _ _ I0.at_, rfl, rfl, trivial⟩
    refine kxs_method kxs_ValueError F1 KX N1 (List.mem_cons_self ..) I1 EC.tp EC.sm EC.sv (by decide) (fun q h2 F2 N2 l2 => ?_)
    refine kxs_callWith1 N2 (List.mem_cons_self ..) ?_
    refine Calls.spliced_cons ?_
    refine Calls.Constant_str (x := txt) (k := j) (pos := p3) ?_
    refine Calls.spliced_nil ⟨kxs_at N2 (List.mem_cons_self ..), ?_⟩
    refine kxs_call F2 KX N2 PySem.F.excBase_ValueError EC.xi (List.mem_cons_self ..) (.tail (Nat.ne_of_gt (l2 _ (List.mem_cons_of_mem _ (List.mem_cons_self ..)))) (.tail (Nat.ne_of_gt (l1 _ (List.mem_cons_self ..))) (.head fun p hp => by cases hp))) (by rw [sizeLine_eq]; simp) (fun t1 h3 F3 N3 l3 => ?_)
    refine ks_wpAt_execs_cons (ks_wpAt_Assign_Attr (wpAt_of_wpAny ?_))
    refine wpAny_Name (wpAny_loadName_local rfl ET.aa F3.ns ma ?_) ET.db
    refine wpAny_Name (wpAny_loadName_local rfl ET.se F3.ns ms ?_) (by decide)
    obtain ⟨nm, qn, Nn, bs, bm, sn, sub, ab, col, dd, k0, k1', k2, k3, k5, hC, hbm⟩ := EC.T.cls
    have hcl : clsIn K C = some { name := nm, bases := bs, mro := .ref C :: bm, ns := Nn, qualname := qn, hasDict := true, slotNames := sn, subclasses := sub, abstract := ab, collection := col, hasDel := false } := by unfold clsIn; rw [hC] <;> rfl
    have he3 : h3.get? (hp.objs.size + 1) = some (excObj C t1 none .none) := (N3 (hp.objs.size + 1, excObj C t1 none .none) (by simp)).1
    refine set_plain (KX.keeps F3.keep) (ox := excObj C t1 none .none) (od := none) ⟨he3, rfl, rfl, trivial⟩ EC.T.sa ?_
    refine HandSPX.exc_osa (KX.keeps F3.keep) he3 hcl (show HandSPX.refsVE (.ref C :: bm) = true from hbm) rfl EC.nf (fun h' tk' dx kx dn dne hx hn => ?_)
    refine wpAt_of_wpAny (wpAny_execs_nil ?_)
    refine h h' _ dx t1 (fun b o e => kx b o (fun z => by rw [z, none_] at e; cases e) (F3.keep b o e)) ?_ dne hx hn
    refine Nat.le_trans ?_ dn
    exact Nat.le_of_lt (Nat.lt_of_succ_lt (Heap.lt_size he3))
end
section
variable {X : Cx} {T : Tx} {W : WX} {pos : Pos}
/-- C(e): made, and in hand -/
def tMkE (C : Addr) (f : Str) (ta : TA) : L2.St → Hp → XK → Prop := fun σ H Q => ta σ H fun vs H1 => ∃ v, vs = [v] ∧ ∀ dx, H1 dx = none → Q (.ref C) (some dx) (upd H1 dx (.xd [(f, v)]))
theorem pmk_err {x : Str} {e : Expr} {es : List Expr} {ta : TA} {p : Pos} {C fI : Addr} {a f file : Str} (EC : ErrC X.K C fI a f file) (PO : PrgOk X.prog file) (hr : Room 1 X.A) (hg : Gl X x) (hm : X.mg x = some (.ref C)) (ha : PA X (e :: es) ta)
    (hdb : (x == ("__debug__" : Str)) = false := by decide) (he : starEach (e :: es) X.env = (false, eval e X.env) :: starEach es X.env := by rfl) (hpl : (backTo pos (starEach es X.env)).any (·.1) = false := by rfl) :
    PMk X (.Call (.Name x p) (e :: es) [] pos) (tMkE C f ta) := by
  intro pins s σ H Q I h
  obtain ⟨nm, qn, Nn, bs, bm, sn, sub, ab, col, dd, k0, k1, k2, k3, k5, hC, hbm⟩ := EC.T.cls
  refine wpAny_Call_Name_kw (ld_glob I hg hm ?_ hdb)
  refine PySem.W.callWith_K (h₀ := X.base) I.ok.mod.kin EC.T.kC (thn (ha.run pos pins s σ H _ I h) fun us s1 ⟨vs, H1, I1, r1, q1⟩ => ⟨I1.kIn, ?_⟩) he hpl
  obtain ⟨v, rfl, q⟩ := q1
  obtain ⟨u, us', rfl, ru, ru'⟩ : ∃ u us', us = u :: us' ∧ RelV v u ∧ Vals [] us' := by
    cases r1 with
    | cons a b => exact ⟨_, _, rfl, a, b⟩
  cases ru'
  obtain ⟨mb, hb1, hb2⟩ := I1.mod.blt
  have hng := I1.mod.glob.keeps I1.bk
  have hnb := hb1.keeps I1.bk
  have hnl := I1.nolimit
  have hk1 := I1.kIn
  obtain ⟨hp, g, dr, tk, os⟩ := s1
  show wpAny _ _ (call (.ref C) [u]) _ _ _
  refine wpAny_call (PySem.HandSPX.call_own PySem.F.excBase_ValueError (fun Y => PySem.HandSPX.refsVE_contains Y bm hbm) (hk1 _ _ hC) (PySem.W.looks_findIn hk1 EC.iC) (fun self => PySem.W.bind_fn hk1 self EC.tI) (by rw [sizeLine_eq]; simp)
    (init_run EC PO hk1 hng hnb hb2 hnl (by have := (hr.make C [u] []).depth; exact this) (fun h' tk' dx t1 k dn dne hx hn => ?_)))
  refine ⟨rfl, ?_⟩
  obtain ⟨G, g1, g2⟩ := restrict h' fun b => decide (b ≠ hp.objs.size + 1)
  have gk : ∀ b, b ≠ hp.objs.size + 1 → G.get? b = h'.get? b := fun b hb => g1 b (decide_eq_true hb)
  have ge : G.get? (hp.objs.size + 1) = none := g2 _ (by simp)
  have ne_ : ∀ b o, hp.get? b = some o → b ≠ hp.objs.size + 1 := fun b o e z => by
    rw [z] at e; exact absurd (Nat.lt_of_succ_lt (Heap.lt_size e)) (Nat.lt_irrefl _)
  have kG : ∀ b o, G.get? b = some o → h'.get? b = some o := fun b o e => by
    by_cases hb : b = hp.objs.size + 1
    · rw [hb, ge] at e; cases e
    · rw [← gk b hb]; exact e
  have na : H1 (hp.objs.size + 1) = none := I1.hok.fresh (Nat.le_succ _)
  have nd : H1 dx = none := I1.hok.fresh dn
  have J : Inv X pins σ (upd H1 dx (.xd [(f, v)])) ⟨G, g, dr, tk', os⟩ :=
    I1.laid (t' := tk') (a := dx) (o := .xd [(f, v)]) (h' := G) (fun b o e => (gk b (ne_ b o e)).trans (k b o e)) dn ⟨_, hn.at (fun o y => (gk dx dne).trans y), relO_put (fs := []) ru fun _ => True.intro⟩
  exact ⟨hp.objs.size + 1, _, _, ⟨G, g, dr, tk', os⟩, _, .ref C, some dx, rfl, J, kG, ge, hx, ⟨rfl, rfl⟩, rfl, rfl, by rw [upd_ne (fun z => dne z.symm)]; exact na, rfl, I1.bare, raises_own EC.T.exC EC.T.tyC, q dx nd⟩
/-- raise C(e) -/
def sRaise (c : Nat) (f : FnE) : FnS := fun δ h => (f δ h).toS δ fun x h1 => .exc c [x] δ h1
theorem fs_raise {c : Nat} {x : Str} {e : Expr} {fe : FnE} {p pos' : Pos} {C fI : Addr} {a f file : Str} (hc : X.calm = true) (tk : Takes X W) (EC : ErrC X.K C fI a f file) (hx : T.exc c = some (C, [f])) (PO : PrgOk X.prog file) (hr : RoomG 1 X.A) (hg : Gl X x) (hm : X.mg x = some (.ref C)) (he : FE X T W e fe)
    (hdb : (x == ("__debug__" : Str)) = false := by decide) (hs : starEach [e] X.env = (false, eval e X.env) :: starEach [] X.env := by rfl) (hpl : (backTo pos (starEach [] X.env)).any (·.1) = false := by rfl) :
    FS X T W (.Raise (some (.Call (.Name x p) [e] [] pos)) none pos') (sRaise c fe) := by
  have hp : PA X [e] (tCons (tE X.K T W fe) tNil) := pa_cons he pa_nil hs
  refine PS.imp (ps_raise hc tk (pmk_err EC PO hr.r hg hm hp hdb hs hpl)) fun D σ H h => ?_
  refine tS.bind (k := fun δ x h1 => .exc c [x] δ h1) h fun G δ x1 v h1 H1 r1 s1 d1 o1 => ?_
  refine ⟨v, rfl, fun dx nd => ?_⟩
  obtain ⟨x2, r2⟩ := r1.newF (o := .xd [(f, v)]) nd
  exact o1 _ _ σ (.ref C) (some dx) x2 r2 (s1.mono x2) ⟨C, [f], hx, rfl, .inr ⟨dx, [(f, v)], rfl, upd_same, rfl, .cons (d1.mono x2) .nil⟩⟩
end
/-! ### try with clauses -/
section
variable {X : Cx} {T : Tx} {W : WX} {pos : Pos}
/-- an except suite: nothing leaves it -/
def noXS : RS → RS
  | .exc _ _ _ _ => .stk
  | r => r
def handle (c : Nat) (ds : List D) (δ : De) (h : Hh) : List ((Nat → Bool) × FnS) → RS
  | [] => .exc c ds δ h
  | (m, v) :: r => if m c = true then noXS (v δ h) else handle c ds δ h r
def sTry (u : FnS) (l : List ((Nat → Bool) × FnS)) : FnS := fun δ h => match u δ h with
  | .exc c ds δ' h' => handle c ds δ' h' l
  | r => r
/-- the clauses -/
inductive FHds (X : Cx) (T : Tx) : List ExceptHandler → List ((Nat → Bool) × FnS) → Prop
  | nil : FHds X T [] []
  | cons {x : Str} {c : Value} {m : Nat → Bool} {v : FnS} {b₀ : Stmt} {suite : List Stmt} {np pos' : Pos} {hds : List ExceptHandler} {l : List ((Nat → Bool) × FnS)} (hc : Names X x c) (hm : ∀ n C nm, T.exc n = some (C, nm) → exmOne X.K (.ref C) c = some (m n))
      (hsu : ∀ (a : Addr) (oe : Obj) (pn : List (Addr × Obj)), FSs (X.suite a ((a, oe) :: pn)) T W0 (b₀ :: suite) v) (r : FHds X T hds l) : FHds X T (.ExceptHandler (some (.Name x np)) none (b₀ :: suite) pos' :: hds) ((m, v) :: l)
theorem okS.noX {K : PySem.W.Frag} {G : Gst} {r : RS} {D : Ends} (o : okS K T W G (noXS r) D) : okS K T W0 G r D := by
  cases r with
  | nx δ h => exact o
  | rt d h => exact o
  | bk δ h => exact o
  | ct δ h => exact o
  | exc c ds δ h => exact o.elim
  | stk => exact o
theorem FHds.ok {hds : List ExceptHandler} {l : List ((Nat → Bool) × FnS)} (F : FHds X T hds l) : ∃ l', HdsOk X hds l' ∧ ∀ (DE : Ends) (c : Nat) (ds : List D) (δ : De) (h : Hh) G H (σ : L2.St) cls dd, Rel X.K T G h H → RSl X.K T G δ σ → RX X.K T G c ds cls dd → okS X.K T W G (handle c ds δ h l) DE → wMany X.K W DE l' cls dd σ H := by
  induction F with
  | nil => exact ⟨[], .nil, fun D c ds δ h G H σ cls dd r s x o => o G H σ cls dd (Ext.refl G) r s x⟩
  | @cons x c0 m v b₀ suite np pos' hds l hc hm hsu r ih =>
    obtain ⟨l', ok', rd⟩ := ih
    refine ⟨(c0, fun _ _ _ => tS X.K T W0 v) :: l', .cons hc (fun a oe cls d pn _ _ => hsu a oe pn) ok', fun D c ds δ h G H σ cls dd r s x o => ?_⟩
    obtain ⟨C, nm, e1, e2, e3⟩ := id x
    subst e2
    refine ⟨m c, hm c C nm e1, fun hy a na => ?_, fun hn => ?_⟩
    · unfold handle at o
      rw [if_pos hy] at o
      exact ⟨G, h, δ, r, s, okS.noX o⟩
    · unfold handle at o
      rw [if_neg (by rw [hn]; exact Bool.false_ne_true)] at o
      exact rd D c ds δ h G H σ _ dd r s x o
theorem fs_try {body : List Stmt} {h₀ : ExceptHandler} {hds : List ExceptHandler} {u : FnS} {l : List ((Nat → Bool) × FnS)} (hs : X.stack = X.env :: X.outer) (hf : X.env.frame = some X.env.locals) (tk : Takes X W)
    (hb : ∀ (W : WX) (pn : List (Addr × Obj)) (xe : Value → Shared → Prop), Takes (X.tr pn xe) W → FSs (X.tr pn xe) T W body u) (hh : FHds X T (h₀ :: hds) l) : FS X T W (.Try body (h₀ :: hds) [] [] pos) (sTry u l) := by
  obtain ⟨l', ok', rd⟩ := hh.ok (W := W)
  refine PS.imp (ps_try_many (tb := fun W' => tS X.K T W' u) hs hf tk (fun W' pn xe tk' _ => hb W' pn xe tk') ok') fun D σ H => ?_
  rintro ⟨G, h0, δ, r, s, o⟩
  refine ⟨G, h0, δ, r, s, ?_⟩
  unfold sTry at o
  cases e : u δ h0 with
  | nx δ' h' => rw [e] at o; exact o
  | rt d h' => rw [e] at o; exact o
  | bk δ' h' => rw [e] at o; exact o
  | ct δ' h' => rw [e] at o; exact o
  | stk => rw [e] at o; exact o.elim
  | exc c ds δ' h' =>
    rw [e] at o
    intro G' H' σ' cls dd x r' s' q
    exact rd D c ds δ' h' G' H' σ' cls dd r' s' q (okS.ext x o)
end
/-! ### keywords -/
inductive Pk where
  | p (i : Nat) | k (i : Nat) | d (i : Nat)
def Pk.at_ {α : Type} (us ds ws : List α) : Pk → Option α
  | .p i => us[i]?
  | .k i => ws[i]?
  | .d i => ds[i]?
/-- the parameters in their order: from the places, the keywords, the defaults -/
def pick {α : Type} (us ds ws : List α) : List Pk → List α
  | [] => []
  | x :: l => match x.at_ us ds ws with
    | some v => v :: pick us ds ws l
    | none => pick us ds ws l
theorem Vals.gets {vs : List V} {us : List Value} (r : Vals vs us) (i : Nat) : (vs[i]? = none ∧ us[i]? = none) ∨ ∃ v u, vs[i]? = some v ∧ us[i]? = some u ∧ RelV v u := by
  induction r generalizing i with
  | nil => exact .inl ⟨by simp, by simp⟩
  | cons a b ih =>
    cases i with
    | zero => exact .inr ⟨_, _, rfl, rfl, a⟩
    | succ i => simpa using ih i
theorem Vals.pick {vs dvs zs : List V} {us dus ws : List Value} (r : Vals vs us) (d : Vals dvs dus) (z : Vals zs ws) : ∀ l : List Pk, Vals (L3.pick vs dvs zs l) (L3.pick us dus ws l)
  | [] => .nil
  | x :: l => by
    have ih := Vals.pick r d z l
    have e : (x.at_ vs dvs zs = none ∧ x.at_ us dus ws = none) ∨ ∃ v u, x.at_ vs dvs zs = some v ∧ x.at_ us dus ws = some u ∧ RelV v u := by
      cases x with
      | p i => exact Vals.gets r i
      | k i => exact Vals.gets z i
      | d i => exact Vals.gets d i
    unfold L3.pick
    rcases e with ⟨e1, e2⟩ | ⟨v, u, e1, e2, q⟩
    · rw [e1, e2]; exact ih
    · rw [e1, e2]; exact .cons q ih
theorem RDs.gets {K : PySem.W.Frag} {T : Tx} {G : Gst} {ds : List D} {vs : List V} (r : RDs K T G ds vs) (i : Nat) : (ds[i]? = none ∧ vs[i]? = none) ∨ ∃ d v, ds[i]? = some d ∧ vs[i]? = some v ∧ RD K T G d v := by
  by_cases h : i < ds.length
  · obtain ⟨v, e1, e2⟩ := r.get (i := i) (d := ds[i]) (by simp [h])
    exact .inr ⟨_, v, by simp [h], e1, e2⟩
  · exact .inl ⟨by simpa using h, by rw [List.getElem?_eq_none]; rw [← r.length]; omega⟩
theorem RDs.pick {K : PySem.W.Frag} {T : Tx} {G : Gst} {ds dds zs : List D} {vs dvs ws : List V} (r : RDs K T G ds vs) (d : RDs K T G dds dvs) (z : RDs K T G zs ws) : ∀ l : List Pk, RDs K T G (L3.pick ds dds zs l) (L3.pick vs dvs ws l)
  | [] => .nil
  | x :: l => by
    have ih := RDs.pick r d z l
    have e : (x.at_ ds dds zs = none ∧ x.at_ vs dvs ws = none) ∨ ∃ d v, x.at_ ds dds zs = some d ∧ x.at_ vs dvs ws = some v ∧ RD K T G d v := by
      cases x with
      | p i => exact RDs.gets r i
      | k i => exact RDs.gets z i
      | d i => exact RDs.gets d i
    unfold L3.pick
    rcases e with ⟨e1, e2⟩ | ⟨v, u, e1, e2, q⟩
    · rw [e1, e2]; exact ih
    · rw [e1, e2]; exact .cons q ih
/-- a call with keywords binds so -/
def KBp (K : PySem.W.Frag) (fd : FuncData) (ps : List Str) (n : Nat) (ks : List Str) (us : List Value) (l : List Pk) : Prop :=
  ∀ (s : Shared) (vs ws : List Value), K.In s.heap → vs.length = n → ws.length = ks.length → BindsTo s fd ⟨vs, ks.zip ws⟩ (ps.zip (pick vs us ws l))
/-- no default is asked -/
theorem kbp0 {K : PySem.W.Frag} {x qual : Str} {params : Arguments} {body : List Stmt} {scope : Scope} {kws : List (Str × V)} {f : Addr} {fd : FuncData} {ps : List Str} (F : FunD K x qual params body scope [] kws f fd) (n : Nat) (ks : List Str) (l : List Pk)
    (h : ∀ (kV doc pm : Value) (an : Option Addr) (cdv ct : Value) (us ws : List Value), us.length = n → ws.length = ks.length → bindArgs (PySem.W.fnOf x qual params body scope .none kV doc pm an cdv ct) ⟨us, ks.zip ws⟩ = pure (ps.zip (pick us [] ws l))) : KBp K fd ps n ks [] l := by
  obtain ⟨oc, od, dV, kV, doc, pm, an, cdv, ct, osl, rfl, lk, hcd, hD, hK⟩ := F.ex
  rcases hD with ⟨_, rfl⟩ | ⟨e, _⟩
  · exact fun s us ws X l1 l2 => .of_eq (h kV doc pm an cdv ct us ws l1 l2)
  · exact absurd rfl e
section
variable {X : Cx} {T : Tx} {W : WX} {pos : Pos}
abbrev FK (X : Cx) (T : Tx) (W : WX) (kws : List Keyword) (f : FnA) : Prop := PK X kws (tA X.K T W f)
theorem PK.imp {X : Cx} {e : List Keyword} {t t' : TA} (h : PK X e t) (q : ∀ σ H Q, t' σ H Q → t σ H Q) : PK X e t' := ⟨fun pos pins s σ H Q I z => h.run pos pins s σ H Q I (q _ _ _ z)⟩
theorem fk_nil : FK X T W [] aNil := by
  refine PK.imp pk_nil fun σ H Q => ?_
  rintro ⟨G, h0, δ, r, s, o⟩
  exact okR.at o r .nil
theorem fk_cons {nm : Option Str} {e : Expr} {kpos : Pos} {kws : List Keyword} {f : FnE} {fr : FnA} (ha : FE X T W e f) (hr : FK X T W kws fr) : FK X T W (⟨nm, e, kpos⟩ :: kws) (aCons f fr) := by
  refine PK.imp (pk_cons ha hr) fun σ H Q => ?_
  rintro ⟨G, h0, δ, r, s, o⟩
  refine ⟨G, h0, δ, r, s, (okR.bind (rel := RD X.K T) o).mono ?_⟩
  rintro v H1 ⟨G1, x, h1, e1, r1, d1, o1⟩
  refine ⟨G1, h1, δ, r1, s.mono e1, (okR.bind (rel := RDs X.K T) o1).mono ?_⟩
  rintro w H2 ⟨G2, y, h2, e2, r2, d2, o2⟩
  exact okR.at o2 r2 (.cons (d1.mono e2) d2)
/-- (first) values, keywords' values, then k -/
def eKw (fa fk : FnA) (k : List D → List D → Hh → R D) : FnE := fun δ h => (fa δ h).bind fun ds h1 => (fk δ h1).bind fun zs h2 => k ds zs h2
def kCallK (n m np : Nat) (sem : Sem3) (dds : List D) (l : List Pk) (ds zs : List D) (h : Hh) : R D := if ds.length = n ∧ zs.length = m ∧ (pick ds dds zs l).length = np then sem (pick ds dds zs l) h else .stk
theorem runGK {CX : CXT} {k n : Nat} {f : Addr} {fd : FuncData} {ps ks : List Str} {sp : Sp} {ds : List Value} {dvs : List V} {E : L2.St → XK} {pins : List (Addr × Obj)} {σ : L2.St} {H : Hp} {s : Shared} {Q : VK} {us ws : List Value} {vs zs : List V} {l : List Pk} (F : FnQ X.prog X.w X.K X.mg X.base CX k f fd ps sp) (hr : RoomG k X.A)
    (bd : KBp X.K fd ps n ks ds l) (hd : Vals dvs ds) (hx : PassesAt CX X σ (E σ)) (I : Inv X pins σ H s) (r : Vals vs us) (rz : Vals zs ws) (l1 : vs.length = n) (l2 : zs.length = ks.length) (h : sp (pick vs dvs zs l) H Q (E σ)) : wpAny (model X.prog X.w) X.A (call (.ref f) us (ks.zip ws)) (EP X pins σ Q) X.xe s := by
  have all := Vals.pick r hd rz l
  refine wpAny_call (codeAny_mono (F.go X.A X.stack s H ⟨us, ks.zip ws⟩ (pick us ds ws l) (pick vs dvs zs l) Q (E σ) hr I.env0 (bd s us ws I.kIn (r.length.symm.trans l1) (rz.length.symm.trans l2)) all h) fun res s' q => ?_)
  match res, q with
  | .error e, q => exact hx pins H s e s' I q
  | .ok (.ret u), q => exact I.after q
  | .ok .next, q => exact q.elim
  | .ok .brk, q => exact q.elim
  | .ok .cont, q => exact q.elim
theorem sp3_ofK {K : PySem.W.Frag} {n m np : Nat} {sem : Sem3} {G : Gst} {h : Hh} {H : Hp} {ds zs dds : List D} {vs ws dvs : List V} {us : List Value} {Q : VK} {σ : L2.St} {l : List Pk} (D0 : Dfl K T dds dvs us) (r : Rel K T G h H) (d : RDs K T G ds vs) (z : RDs K T G zs ws) (o : okR K T W G σ (RD K T) (kCallK n m np sem dds l ds zs h) Q) :
    vs.length = n ∧ ws.length = m ∧ sp3 K T np sem (pick vs dvs ws l) H Q (WE W σ) := by
  unfold kCallK at o
  have dd := RDs.pick d (D0.rel G) z l
  by_cases hl : ds.length = n ∧ zs.length = m ∧ (pick ds dds zs l).length = np
  · rw [if_pos hl] at o
    refine ⟨by rw [← d.length]; exact hl.1, by rw [← z.length]; exact hl.2.1, by rw [← dd.length]; exact hl.2.2, G, h, pick ds dds zs l, r, dd, ?_⟩
    cases e : sem (pick ds dds zs l) h with
    | ok y hh => rw [e] at o; exact o
    | exc c es hh => rw [e] at o; exact o
    | stk => rw [e] at o; exact o.elim
  · rw [if_neg hl] at o; exact o.elim
/-- x(.., k = v, ..): no value ahead -/
theorem fe_callK0 {np m : Nat} {x : Str} {p : Pos} {kws : List Keyword} {k : Nat} {f : Addr} {fd : FuncData} {ps ks : List Str} {sem : Sem3} {fk : FnA} {dds : List D} {dvs : List V} {us : List Value} {l : List Pk} (tk : Takes X W) (F : FnL X.prog X.w X.K X.mg X.base T k f fd ps sem) (hr : RoomG k X.A) (hg : Gl X x) (hm : X.mg x = some (.ref f)) (hk : PySem.W.keepIn X.K (.ref f) = true)
    (hb : KBp X.K fd ps 0 ks us l) (D0 : Dfl X.K T dds dvs us) (hkw : FK X T W kws fk) (hall : (backToKw pos (keywordEach kws X.env)).all (·.1.isSome) = true := by rfl) (hks : (backToKw pos (keywordEach kws X.env)).filterMap (·.1) = ks := by rfl) (hdb : (x == ("__debug__" : Str)) = false := by decide)
    (hpl : ((backTo pos (starEach [] X.env)).any (·.1) || (backToKw pos (keywordEach kws X.env)).any (·.1.isNone)) = false := by rfl) (hnp : ps.length = np := by rfl) (hnm : ks.length = m := by rfl) :
    FE X T W (.Call (.Name x p) [] kws pos) (eKw aNil fk (kCallK 0 m np sem dds l)) := by
  subst hnp
  subst hnm
  refine ⟨fun pins s σ H Q I h => ?_⟩
  have h' : tA X.K T W fk σ H fun zs H1 => zs.length = ks.length ∧ sp3 X.K T ps.length sem (pick [] dvs zs l) H1 Q (WE W σ) := by
    refine tF.bind (k := fun _ zs h1 => kCallK 0 ks.length ps.length sem dds l [] zs h1) h fun G δ zs ws h1 H1 r1 s1 d1 o1 => ?_
    obtain ⟨_, a, b⟩ := sp3_ofK (vs := []) D0 r1 .nil d1 o1
    exact ⟨a, b⟩
  refine wpAny_Call_Name_kw (ld_glob I hg hm ?_ hdb)
  refine PySem.W.callWith_KW0 (h₀ := X.base) I.ok.mod.kin hk hall ?_ hpl
  refine thn (hkw.run pos pins s σ H _ I h') fun ws s2 ⟨zs, H2, I2, rz, l2, q2⟩ => ⟨I2.kIn, ?_⟩
  rw [hks]
  exact runGK (us := []) (vs := []) (E := WE W) F hr hb D0.val (passAt tk σ) I2 .nil rz rfl l2 q2
/-- x(e, .., k = v, ..) -/
theorem fe_callK {np n m : Nat} {x : Str} {p : Pos} {e : Expr} {es : List Expr} {kws : List Keyword} {k : Nat} {f : Addr} {fd : FuncData} {ps ks : List Str} {sem : Sem3} {fa fk : FnA} {dds : List D} {dvs : List V} {us : List Value} {l : List Pk} (tk : Takes X W) (F : FnL X.prog X.w X.K X.mg X.base T k f fd ps sem) (hr : RoomG k X.A) (hg : Gl X x) (hm : X.mg x = some (.ref f)) (hk : PySem.W.keepIn X.K (.ref f) = true)
    (hb : KBp X.K fd ps n ks us l) (D0 : Dfl X.K T dds dvs us) (ha : FA X T W (e :: es) fa) (hkw : FK X T W kws fk) (hall : (backToKw pos (keywordEach kws X.env)).all (·.1.isSome) = true := by rfl) (hks : (backToKw pos (keywordEach kws X.env)).filterMap (·.1) = ks := by rfl) (hdb : (x == ("__debug__" : Str)) = false := by decide)
    (he : starEach (e :: es) X.env = (false, eval e X.env) :: starEach es X.env := by rfl) (hpl : ((backTo pos (starEach (e :: es) X.env)).any (·.1) || (backToKw pos (keywordEach kws X.env)).any (·.1.isNone)) = false := by rfl) (hnp : ps.length = np := by rfl) (hnm : ks.length = m := by rfl) :
    FE X T W (.Call (.Name x p) (e :: es) kws pos) (eKw fa fk (kCallK n m np sem dds l)) := by
  subst hnp
  subst hnm
  refine ⟨fun pins s σ H Q I h => ?_⟩
  have h' : tA X.K T W fa σ H fun vs H1 => tA X.K T W fk σ H1 fun zs H2 => vs.length = n ∧ zs.length = ks.length ∧ sp3 X.K T ps.length sem (pick vs dvs zs l) H2 Q (WE W σ) := by
    obtain ⟨G, h0, δ, r, s', o⟩ := h
    refine ⟨G, h0, δ, r, s', (okR.bind (rel := RDs X.K T) o).mono ?_⟩
    rintro vs H1 ⟨G1, ds, h1, e1, r1, d1, o1⟩
    refine ⟨G1, h1, δ, r1, s'.mono e1, (okR.bind (rel := RDs X.K T) o1).mono ?_⟩
    rintro ws H2 ⟨G2, zs, h2, e2, r2, d2, o2⟩
    exact sp3_ofK D0 r2 (d1.mono e2) d2 o2
  refine wpAny_Call_Name_kw (ld_glob I hg hm ?_ hdb)
  refine PySem.W.callWith_KW (h₀ := X.base) I.ok.mod.kin hk hall (thn (ha.run pos pins s σ H _ I h') fun us s1 ⟨vs, H1, I1, r, q⟩ => ?_) hpl he
  refine thn (hkw.run pos pins s1 σ H1 _ I1 q) fun ws s2 ⟨zs, H2, I2, rz, l1, l2, q2⟩ => ⟨I2.kIn, ?_⟩
  rw [hks]
  exact runGK (E := WE W) F hr hb D0.val (passAt tk σ) I2 r rz l1 l2 q2
end
end L3
set_option autoImplicit false
set_option maxHeartbeats 4000000
/-! L3U: instances made by keywords, methods called by keywords. -/
namespace L3
open PySem PySem.Spec L2
section
variable {X : Cx} {T : Tx} {W : WX} {pos : Pos}
/-- C(k = v, ..): what is made, frozen -/
def kMakeK (c na m np : Nat) (sem : Sem3) (dds : List D) (l : List Pk) (ds zs : List D) (h1 : Hh) : R D := if ds.length = 0 ∧ zs.length = m ∧ (pick [D.ref h1.length] dds zs l).length = np then
  endMake c na h1.length (sem (pick [D.ref h1.length] dds zs l) (h1 ++ [.obj c []])) else .stk
theorem make_readK {c na m np : Nat} {C : Addr} {sem : Sem3} {nm : List Str} {dds zs : List D} {dvs ws : List V} {us : List Value} {l : List Pk} {G1 : Gst} {h1 : Hh} {H1 : Hp} {σ : L2.St} {Q : VK} {K : PySem.W.Frag} (hc : T.cls c = some (C, nm)) (hna : nm.length = na) (D0 : Dfl K T dds dvs us)
    (r1 : Rel K T G1 h1 H1) (d1 : RDs K T G1 zs ws) (o : okR K T W G1 σ (RD K T) (kMakeK c na m np sem dds l [] zs h1) Q) : ws.length = m ∧ ∀ x dx, H1 x = none → H1 dx = none → dx ≠ x →
    sp3 K T np sem (pick [.ref x] dvs ws l) (upd (upd H1 dx (.own x)) x (.ins C dx [])) (fun v H2 => v = .non ∧ Q (.ref x) H2) (WE W σ) := by
  unfold kMakeK at o
  by_cases hl : ([] : List D).length = 0 ∧ zs.length = m ∧ (pick [D.ref h1.length] dds zs l).length = np
  · rw [if_pos hl] at o
    refine ⟨by rw [← d1.length]; exact hl.2.1, fun x dx hx hdx ne => ?_⟩
    have r2 := r1.track (o := .own x) hdx
    have hx2 : upd H1 dx (.own x) x = none := by rw [upd_ne (Ne.symm ne)]; exact hx
    obtain ⟨x3, r3⟩ := r2.newO (o := .ins C dx []) (u := .obj c []) hx2 fun G' _ hi ho _ => ⟨x, C, dx, nm, [], hi, ho, upd_same, hc, by simp, .nil⟩
    have hix : (G1.new x).ι[h1.length]? = some x := by
      show (G1.ι ++ [x])[h1.length]? = some x
      rw [← r1.len]; simp
    have dd : RDs K T (G1.new x) (pick [D.ref h1.length] dds zs l) (pick [V.ref x] dvs ws l) := RDs.pick (.cons (.ref hix) .nil) (D0.rel _) (d1.mono x3) l
    refine ⟨by rw [← dd.length]; exact hl.2.2, G1.new x, _, _, r3, dd, ?_⟩
    cases e : sem (pick [D.ref h1.length] dds zs l) (h1 ++ [.obj c []]) with
    | stk => rw [e] at o; exact o.elim
    | exc c' es h' => rw [e] at o; exact okR.ext (W := W) (rel := RD K T) (σ := σ) (r := .exc c' es h') x3 o
    | ok y h2 =>
      rw [e] at o
      unfold endMake at o
      cases y with
      | non =>
        dsimp only at o
        intro G' H' v x4 r4 dv
        cases dv
        refine ⟨rfl, ?_⟩
        cases q : h2[h1.length]? with
        | none => rw [q] at o; exact o.elim
        | some ob =>
          rw [q] at o
          cases ob with
          | obj c' es =>
            dsimp only at o
            by_cases hce : c' = c ∧ es.length = na
            · rw [if_pos hce] at o
              obtain ⟨rfl, hlen⟩ := hce
              obtain ⟨a, C', dx', nm', fs, z1, z2, z3, z4, z5, z6⟩ := r4.obj _ _ q
              rw [hc] at z4; cases z4
              obtain ⟨tt, ht⟩ := x4.ι
              have hax : a = x := by
                have h0 : h1.length < (G1.new x).ι.length := (List.getElem?_eq_some_iff.mp hix).1
                rw [ht, List.getElem?_append_left h0, hix] at z1
                cases z1; rfl
              subst hax
              have hn : h1.length < h2.length := (List.getElem?_eq_some_iff.mp q).1
              obtain ⟨r5, x5⟩ := r4.freeze hn z2 z3
              refine o _ H' (.ref a) (x3.trans (x4.trans x5)) r5 (.obj (C := C) (dx := dx') (nm := nm) (fs := fs) upd_same hc ?_ (z6.mono x5))
              rw [z5, hlen, ← hna, List.take_length]
            · rw [if_neg hce] at o; exact o.elim
          | _ => exact o.elim
      | _ => exact o.elim
  · rw [if_neg hl] at o; exact o.elim
theorem run_makeSK {CX : CXT} {C f : Addr} {k : Nat} {fd : FuncData} {ps ks : List Str} {sp : Sp} {ds : List Value} {dvs : List V} {E : XK} {pins : List (Addr × Obj)} {σ : L2.St} {H : Hp} {s : Shared} {Q : VK} {ws : List Value} {zs : List V} {l : List Pk} (M : Mk X.K C f) (F : FnQ X.prog X.w X.K X.mg X.base CX k f fd ps sp) (hr : RoomG (k + 1) X.A) (hb : KBp X.K fd ps 1 ks ds l) (hd : Vals dvs ds)
    (hx : PassesAt CX X σ E) (I : Inv X pins σ H s) (rz : Vals zs ws) (l2 : zs.length = ks.length)
    (h : ∀ x dx, H x = none → H dx = none → dx ≠ x → sp (pick [.ref x] dvs zs l) (upd (upd H dx (.own x)) x (.ins C dx [])) (fun v H2 => v = .non ∧ Q (.ref x) H2) E) :
    wpAny (model X.prog X.w) X.A (call (.ref C) [] (ks.zip ws)) (EP X pins σ Q) X.xe s := by
  have go_ := h (s.heap.objs.size + 1) s.heap.objs.size (I.hok.fresh (Nat.le_succ _)) (I.hok.fresh (Nat.le_refl _)) (Nat.ne_of_lt (Nat.lt_succ_self _))
  have J := Inv.made (C := C) I
  have r0 : Vals [V.ref (s.heap.objs.size + 1)] [Value.ref (s.heap.objs.size + 1)] := .cons rfl .nil
  have args : Vals (pick [V.ref (s.heap.objs.size + 1)] dvs zs l) (pick [Value.ref (s.heap.objs.size + 1)] ds ws l) := Vals.pick r0 hd rz l
  refine wpAny_call (make_map (f := f) I.kIn M.makes M.init (beq_iff_eq.mp M.fn) (codeAny_mono (F.go _ X.stack _ _ ⟨[Value.ref (s.heap.objs.size + 1)], ks.zip ws⟩ (pick [Value.ref (s.heap.objs.size + 1)] ds ws l) _ _ E ⟨hr.r.make C [] (ks.zip ws), underG hr.g⟩
    (J.env0.make C [] (ks.zip ws)) (hb _ [Value.ref (s.heap.objs.size + 1)] ws J.kIn rfl (rz.length.symm.trans l2)) args go_) fun r s' end_ => ?_))
  cases r with
  | error e => exact hx pins _ _ e s' J end_
  | ok fw =>
    cases fw with
    | ret u =>
      obtain ⟨v, H', J3, rel_, same_, fin_⟩ := J.after end_
      subst same_
      exact ⟨rel_, ⟨V.ref (s.heap.objs.size + 1), H', J3, rfl, fin_⟩⟩
    | next => exact False.elim end_
    | brk => exact False.elim end_
    | cont => exact False.elim end_
/-- C(k = v, ..) -/
theorem fe_makeK0 {np m : Nat} {x : Str} {p : Pos} {c na : Nat} {C f : Addr} {kws : List Keyword} {k : Nat} {fd : FuncData} {ps ks : List Str} {sem : Sem3} {fk : FnA} {dds : List D} {dvs : List V} {us : List Value} {l : List Pk} (tk : Takes X W) (M : MakeOk X T c C f na) (F : FnL X.prog X.w X.K X.mg X.base T k f fd ps sem) (hr : RoomG (k + 1) X.A) (hg : Gl X x) (hm : X.mg x = some (.ref C))
    (hb : KBp X.K fd ps 1 ks us l) (D0 : Dfl X.K T dds dvs us) (hkw : FK X T W kws fk) (hall : (backToKw pos (keywordEach kws X.env)).all (·.1.isSome) = true := by rfl) (hks : (backToKw pos (keywordEach kws X.env)).filterMap (·.1) = ks := by rfl) (hdb : (x == ("__debug__" : Str)) = false := by decide)
    (hpl : ((backTo pos (starEach [] X.env)).any (·.1) || (backToKw pos (keywordEach kws X.env)).any (·.1.isNone)) = false := by rfl) (hnp : ps.length = np := by rfl) (hnm : ks.length = m := by rfl) :
    FE X T W (.Call (.Name x p) [] kws pos) (eKw aNil fk (kMakeK c na m np sem dds l)) := by
  subst hnp
  subst hnm
  obtain ⟨nm, hc, hna⟩ := M.cls
  refine ⟨fun pins s σ H Q I h => ?_⟩
  refine wpAny_Call_Name_kw (ld_glob I hg hm ?_ hdb)
  have h' : tA X.K T W fk σ H fun zs H1 => zs.length = ks.length ∧ ∀ x dx, H1 x = none → H1 dx = none → dx ≠ x → sp3 X.K T ps.length sem (pick [.ref x] dvs zs l) (upd (upd H1 dx (.own x)) x (.ins C dx [])) (fun v H2 => v = .non ∧ Q (.ref x) H2) (WE W σ) :=
    tF.bind (k := fun _ zs h1 => kMakeK c na ks.length ps.length sem dds l [] zs h1) h fun G δ ds vs h1 H1 r1 s1 d1 o1 => make_readK hc hna D0 r1 d1 o1
  refine PySem.W.callWith_KW0 (h₀ := X.base) I.ok.mod.kin M.make.kp hall ?_ hpl
  refine thn (hkw.run pos pins s σ H _ I h') fun ws s2 ⟨zs, H2, I2, rz, l2, q2⟩ => ⟨I2.kIn, ?_⟩
  rw [hks]
  exact run_makeSK M.make F hr hb D0.val (passAt tk σ) I2 rz l2 q2
/-- o.m(k = v, ..) -/
def eMethK (c m np : Nat) (sem : Sem3) (fo : FnE) (fk : FnA) (dds : List D) (l : List Pk) : FnE := fun δ h => (fo δ h).bind fun x h1 => if clsOf h1 x = some c then (fk δ h1).bind fun zs h2 => kCallK 1 m np sem dds l [x] zs h2 else .stk
theorem fe_methK0 {np n : Nat} {c : Nat} {C : Addr} {m : Str} {o : Expr} {kws : List Keyword} {apos : Pos} {k : Nat} {f : Addr} {fd : FuncData} {ps ks : List Str} {sem : Sem3} {fo : FnE} {fk : FnA} {dds : List D} {dvs : List V} {us : List Value} {l : List Pk} {pl : Sem Bool} (tk : Takes X W) (M : MethOk X T c C m f) (F : FnL X.prog X.w X.K X.mg X.base T k f fd ps sem) (hr : RoomG k X.A)
    (hb : KBp X.K fd ps 1 ks us l) (D0 : Dfl X.K T dds dvs us) (ho : FE X T W o fo) (hkw : FK X T W kws fk) (hall : (backToKw pos (keywordEach kws X.env)).all (·.1.isSome) = true := by rfl) (hks : (backToKw pos (keywordEach kws X.env)).filterMap (·.1) = ks := by rfl)
    (hpl : ((backTo pos (starEach [] X.env)).any (·.1) || (backToKw pos (keywordEach kws X.env)).any (·.1.isNone)) = false := by rfl)
    (ht : eval (.Call (.Attribute o m apos) [] kws pos) X.env = (do
      let ov ← eval o X.env
      standAt apos.atName
      let (f, first) ← holding [ov] (getMethod ov m pl)
      callWith pos f first (backTo pos (starEach [] X.env)) (backToKw pos (keywordEach kws X.env))) := by rfl) (hnp : ps.length = np := by rfl) (hnm : ks.length = n := by rfl) :
    FE X T W (.Call (.Attribute o m apos) [] kws pos) (eMethK c n np sem fo fk dds l) := by
  subst hnp
  subst hnm
  refine ⟨fun pins s σ H Q I h => ?_⟩
  obtain ⟨nm, hcl, hnm⟩ := M.cls
  have h' : tE X.K T W fo σ H fun x H1 => ∃ a dx fs, x = .ref a ∧ H1 a = some (.ins C dx fs) ∧ fs.lookup m = none ∧ tA X.K T W fk σ H1 fun zs H2 => zs.length = ks.length ∧ sp3 X.K T ps.length sem (pick [x] dvs zs l) H2 Q (WE W σ) := by
    obtain ⟨G, h0, δ, r, s', oo⟩ := h
    refine ⟨G, h0, δ, r, s', (okR.bind (rel := RD X.K T) oo).mono ?_⟩
    rintro v H1 ⟨G1, x, h1, e1, r1, d1, o1⟩
    by_cases hc : clsOf h1 x = some c
    · rw [if_pos hc] at o1
      obtain ⟨a, C', dx, nm', fs, rfl, q1, q2, q3⟩ := clsOf_ok r1 d1 hc
      rw [hcl] at q2; cases q2
      refine ⟨a, dx, fs, rfl, q1, look_none fun z => hnm (q3 _ z), G1, h1, δ, r1, s'.mono e1, (okR.bind (rel := RDs X.K T) o1).mono ?_⟩
      rintro ws H2 ⟨G2, zs, h2, e2, r2, d2, o2⟩
      obtain ⟨_, a2, a3⟩ := sp3_ofK (ds := [x]) (vs := [.ref a]) D0 r2 (.cons (d1.mono e2) .nil) d2 o2
      exact ⟨a2, a3⟩
    · rw [if_neg hc] at o1; exact o1.elim
  refine PySem.W.methodCall_KW (pl := pl) (thn (ho.run pins s σ H _ I h') fun u s1 ⟨x, H1, I1, rx, a, dx, fs, ex, ea, l, q⟩ => ?_) ht
  subst ex
  obtain rfl : u = Value.ref a := rx
  refine getmeth_ok I1 ea M.cl M.meth l ?_
  refine PySem.W.callWith_KW0 (first := [.ref a]) (h₀ := X.base) I.ok.mod.kin M.meth.kp hall ?_ hpl
  refine thn (hkw.run pos pins s1 σ H1 _ I1 q) fun ws s2 ⟨zs, H2, I2, rz, l2, q2⟩ => ⟨I2.kIn, ?_⟩
  rw [hks]
  exact runGK (us := [.ref a]) (vs := [.ref a]) (E := WE W) F hr hb D0.val (passAt tk σ) I2 (.cons rfl .nil) rz rfl l2 q2
end
end L3
set_option autoImplicit false
set_option maxHeartbeats 4000000
/-! L3V: max and min of three numbers. -/
namespace PySem
open Sem (wp)
theorem F.l3_args_max3 (a b c : Value) : argsOk "max" ⟨[a, b, c], []⟩ := by unfold argsOk; kernel_rfl
section
variable {prog : Program} {w : World} {A : Around} {E : Value → Shared → Prop} {s : Shared}
theorem l3_max_three {a b c : Value} {Q : Value → Shared → Prop}
    (h : wpAny (model prog w) A.in1 (pyIter (.ref s.heap.objs.size)) (fun it s₂ => ∃ I fp wr n P St bt, it = .ref I ∧ Walks prog w A.in1 I fp wr n P St ∧ St 0 s₂.heap ∧ (∀ b ∈ fp, b < s₂.heap.objs.size) ∧ 0 < n ∧ CmpOf prog w A.in1 .Gt P bt ∧
      ∀ v h' tk, P (argBest bt (n - 1)) v → (∀ b o, b ∉ wr → s₂.heap.get? b = some o → h'.get? b = some o) → Q v { s₂ with heap := h', toks := tk }) E
      { s with heap := s.heap.push { cls := .type "tuple", data := .seq #[a, b, c] } }) :
    wpAny (model prog w) A (call (.builtin "max") [a, b, c]) Q E s := by
  have hname : (toString "max" ++ toString ".loop" : String) = "max.loop" := by decide
  refine call_function_tree F.kind_max F.plain_max F.entry_max (F.l3_args_max3 _ _ _) ?_
  show wpAny _ A.in1 (Builtin.Builtins.bindParams "max" ["key", "default"] 0 ⟨[], []⟩ >>= _) _ _ s
  refine wpAny_bind (wpAny_of_eq (show Builtin.Builtins.bindParams "max" ["key", "default"] 0 ⟨[], []⟩ = pure [none, none] from rfl) ?_)
  show wpAny _ A.in1 (newTuple [a, b, c] >>= _) _ _ s
  refine wpAny_bind (wpAny_newObj_type ?_)
  refine wpAny_bind (wpAny_mono h (fun it s₂ h₂ => ?_) fun _ _ e => e)
  obtain ⟨I, fp, wr, n, P, St, bt, rfl, W, hst, hfp, hn, hcmp, hQ⟩ := h₂
  refine wpAny_bind (wpAny_newObj_type ?_)
  have hSf : s₂.heap.objs.size ∉ fp := fun hm => Nat.lt_irrefl _ (hfp _ hm)
  rw [hname]
  refine wpAny_pure ⟨plainId_quiet F.plain_max_loop _, codeAny_max_loop_first W bt hcmp s₂.heap.objs.size hSf hn (W.frame _ _ _ hst fun b _ o e => Heap.get?_push_of_some _ e) (Heap.get?_push_size _ rfl) fun v h' tk hP hk => ?_⟩
  exact hQ v h' tk hP fun b o hbw e => hk b o hbw (Nat.ne_of_lt (Heap.lt_size e)) (Heap.get?_push_of_some _ e)
theorem l3_max_3 {xs : Array (Int × Tok)} {a b c : Value} {Q : Value → Shared → Prop} (hh : A.handled = none) (e4 : intItems xs = #[a, b, c]) (hne : 0 < xs.size)
    (h : ∀ v h' tk, (intItems xs)[argBest (fun i j => decide (numAt xs i > numAt xs j)) (xs.size - 1)]? = some v → (∀ b o, s.heap.get? b = some o → h'.get? b = some o) → Q v { s with heap := h', toks := tk }) :
    wpAny (model prog w) A (call (.builtin "max") [a, b, c]) Q E s := by
  have hT : (s.heap.push { cls := .type "tuple", data := .seq #[a, b, c] }).IsTuple s.heap.objs.size (intItems xs) := ⟨_, Heap.get?_push_size _ rfl, rfl, 0, by rw [e4]⟩
  have hsz : (s.heap.push { cls := .type "tuple", data := .seq #[a, b, c] }).objs.size = s.heap.objs.size + 1 := Heap.size_push ..
  refine l3_max_three (wpAny_pyIter_tuple hT ?_)
  refine ⟨_, [_, s.heap.objs.size], [_], _, _, _, _, rfl, Walks.tuple (A := A.in1) hh _ s.heap.objs.size (by rw [hsz]; exact Nat.ne_of_lt (Nat.lt_succ_self _)) (intItems xs), ⟨⟨_, Heap.get?_push_size _ rfl, rfl, rfl⟩, hT.push _⟩, fun d hd => ?_, by simpa [intItems] using hne, CmpOf.ints_gt (numAt xs) (fun _ _ => intItems_at), fun v h' tk hP hk => ?_⟩
  · show d < ((s.heap.push _).push _).objs.size
    rw [Heap.size_push, hsz]
    rcases List.mem_cons.mp hd with rfl | hd
    · rw [hsz]; exact Nat.lt_succ_self _
    · rcases List.mem_cons.mp hd with rfl | hd
      · exact Nat.lt_succ_of_lt (Nat.lt_succ_self _)
      · cases hd
  · refine h v h' tk (by simpa [intItems] using hP) fun d o e => hk d o (fun hm => ?_) (Heap.get?_push_of_some _ (Heap.get?_push_of_some _ e))
    rcases List.mem_cons.mp hm with e1 | hm
    · have := Heap.lt_size e; rw [e1, hsz] at this; exact Nat.lt_irrefl _ (Nat.lt_of_succ_lt this)
    · cases hm
end
theorem F.l3_args_min3 (a b c : Value) : argsOk "min" ⟨[a, b, c], []⟩ := by unfold argsOk; kernel_rfl
section
variable {prog : Program} {w : World} {A : Around} {E : Value → Shared → Prop} {s : Shared}
theorem l3_min_three {a b c : Value} {Q : Value → Shared → Prop}
    (h : wpAny (model prog w) A.in1 (pyIter (.ref s.heap.objs.size)) (fun it s₂ => ∃ I fp wr n P St bt, it = .ref I ∧ Walks prog w A.in1 I fp wr n P St ∧ St 0 s₂.heap ∧ (∀ b ∈ fp, b < s₂.heap.objs.size) ∧ 0 < n ∧ CmpOf prog w A.in1 .Lt P bt ∧
      ∀ v h' tk, P (argBest bt (n - 1)) v → (∀ b o, b ∉ wr → s₂.heap.get? b = some o → h'.get? b = some o) → Q v { s₂ with heap := h', toks := tk }) E
      { s with heap := s.heap.push { cls := .type "tuple", data := .seq #[a, b, c] } }) :
    wpAny (model prog w) A (call (.builtin "min") [a, b, c]) Q E s := by
  have hname : (toString "min" ++ toString ".loop" : String) = "min.loop" := by decide
  refine call_function_tree F.kind_min F.plain_min F.entry_min (F.l3_args_min3 _ _ _) ?_
  show wpAny _ A.in1 (Builtin.Builtins.bindParams "min" ["key", "default"] 0 ⟨[], []⟩ >>= _) _ _ s
  refine wpAny_bind (wpAny_of_eq (show Builtin.Builtins.bindParams "min" ["key", "default"] 0 ⟨[], []⟩ = pure [none, none] from rfl) ?_)
  show wpAny _ A.in1 (newTuple [a, b, c] >>= _) _ _ s
  refine wpAny_bind (wpAny_newObj_type ?_)
  refine wpAny_bind (wpAny_mono h (fun it s₂ h₂ => ?_) fun _ _ e => e)
  obtain ⟨I, fp, wr, n, P, St, bt, rfl, W, hst, hfp, hn, hcmp, hQ⟩ := h₂
  refine wpAny_bind (wpAny_newObj_type ?_)
  have hSf : s₂.heap.objs.size ∉ fp := fun hm => Nat.lt_irrefl _ (hfp _ hm)
  rw [hname]
  refine wpAny_pure ⟨plainId_quiet F.plain_min_loop _, codeAny_min_loop_first W bt hcmp s₂.heap.objs.size hSf hn (W.frame _ _ _ hst fun b _ o e => Heap.get?_push_of_some _ e) (Heap.get?_push_size _ rfl) fun v h' tk hP hk => ?_⟩
  exact hQ v h' tk hP fun b o hbw e => hk b o hbw (Nat.ne_of_lt (Heap.lt_size e)) (Heap.get?_push_of_some _ e)
theorem l3_min_3 {xs : Array (Int × Tok)} {a b c : Value} {Q : Value → Shared → Prop} (hh : A.handled = none) (e4 : intItems xs = #[a, b, c]) (hne : 0 < xs.size)
    (h : ∀ v h' tk, (intItems xs)[argBest (fun i j => decide (numAt xs i < numAt xs j)) (xs.size - 1)]? = some v → (∀ b o, s.heap.get? b = some o → h'.get? b = some o) → Q v { s with heap := h', toks := tk }) :
    wpAny (model prog w) A (call (.builtin "min") [a, b, c]) Q E s := by
  have hT : (s.heap.push { cls := .type "tuple", data := .seq #[a, b, c] }).IsTuple s.heap.objs.size (intItems xs) := ⟨_, Heap.get?_push_size _ rfl, rfl, 0, by rw [e4]⟩
  have hsz : (s.heap.push { cls := .type "tuple", data := .seq #[a, b, c] }).objs.size = s.heap.objs.size + 1 := Heap.size_push ..
  refine l3_min_three (wpAny_pyIter_tuple hT ?_)
  refine ⟨_, [_, s.heap.objs.size], [_], _, _, _, _, rfl, Walks.tuple (A := A.in1) hh _ s.heap.objs.size (by rw [hsz]; exact Nat.ne_of_lt (Nat.lt_succ_self _)) (intItems xs), ⟨⟨_, Heap.get?_push_size _ rfl, rfl, rfl⟩, hT.push _⟩, fun d hd => ?_, by simpa [intItems] using hne, CmpOf.ints_lt (numAt xs) (fun _ _ => intItems_at), fun v h' tk hP hk => ?_⟩
  · show d < ((s.heap.push _).push _).objs.size
    rw [Heap.size_push, hsz]
    rcases List.mem_cons.mp hd with rfl | hd
    · rw [hsz]; exact Nat.lt_succ_self _
    · rcases List.mem_cons.mp hd with rfl | hd
      · exact Nat.lt_succ_of_lt (Nat.lt_succ_self _)
      · cases hd
  · refine h v h' tk (by simpa [intItems] using hP) fun d o e => hk d o (fun hm => ?_) (Heap.get?_push_of_some _ (Heap.get?_push_of_some _ e))
    rcases List.mem_cons.mp hm with e1 | hm
    · have := Heap.lt_size e; rw [e1, hsz] at this; exact Nat.lt_irrefl _ (Nat.lt_of_succ_lt this)
    · cases hm
end
end PySem
namespace L3
open PySem PySem.Spec L2 PyProof.Rows
section
variable {X : Cx} {T : Tx}
def rMax3 : List V → Hp → VK → Prop := fun vs H Q => ∃ (a b c : Int), vs = [.int a, .int b, .int c] ∧ Q (.int (mxI [a, b, c])) H
theorem cr_max3 (hc : X.calm = true) : CallR X (.builtin "max") rMax3 := by
  intro pins s σ H vs us Q I r h
  obtain ⟨a, b, c, rfl, q⟩ := h
  obtain ⟨u2, u3, u4, rfl, ⟨t1, rfl⟩, ⟨t2, rfl⟩, ⟨t3, rfl⟩⟩ := vals3 r
  refine l3_max_3 (xs := #[(a, t1), (b, t2), (c, t3)]) (I.ok.hd hc) (by simp [intItems]) (by simp) fun v h' tk hv hk => ?_
  obtain ⟨t, rfl⟩ := intItems_at hv
  obtain ⟨h1, h2⟩ := argBest_gt (numAt #[(a, t1), (b, t2), (c, t3)]) 2
  have e : ∀ j, numAt #[(a, t1), (b, t2), (c, t3)] j = [a, b, c].getD j 0 := fun j => by rw [numAt_eq]; rfl
  refine ⟨.int _, H, I.kept hk, ⟨t, congrArg (fun z => Value.int z t) (mxU (ns := [a, b, c]) ?_ fun x hx => ?_)⟩, q⟩
  · rw [e]; exact PySem.getD_mem (by show _ < 3; show argBest _ 2 < 3; omega)
  · obtain ⟨j, hj, rfl⟩ := mem_getD hx
    rw [← e]; exact h2 j (by simp at hj; omega)
def max3B : FB := fun ds h => match ds with
  | [.int a, .int b, .int c] => .ok (.int (mxI [a, b, c])) h
  | _ => .stk
theorem cs_max3 : CallS X T rMax3 max3B := by
  intro W G h H σ ds vs Q r d o
  match ds, vs, d with
  | [.int a, .int b, .int c], [_, _, _], .cons .int (.cons .int (.cons .int .nil)) => exact ⟨a, b, c, rfl, o.at r .int⟩
  | ds, vs, d =>
    unfold max3B at o
    split at o
    · cases d with | cons a d => cases d with | cons b d => cases d with | cons c d => cases d; cases a; cases b; cases c; exact ⟨_, _, _, rfl, o.at r .int⟩
    · exact o.elim
def rMin3 : List V → Hp → VK → Prop := fun vs H Q => ∃ (a b c : Int), vs = [.int a, .int b, .int c] ∧ Q (.int (mnI [a, b, c])) H
theorem cr_min3 (hc : X.calm = true) : CallR X (.builtin "min") rMin3 := by
  intro pins s σ H vs us Q I r h
  obtain ⟨a, b, c, rfl, q⟩ := h
  obtain ⟨u2, u3, u4, rfl, ⟨t1, rfl⟩, ⟨t2, rfl⟩, ⟨t3, rfl⟩⟩ := vals3 r
  refine l3_min_3 (xs := #[(a, t1), (b, t2), (c, t3)]) (I.ok.hd hc) (by simp [intItems]) (by simp) fun v h' tk hv hk => ?_
  obtain ⟨t, rfl⟩ := intItems_at hv
  obtain ⟨h1, h2⟩ := argBest_lt (numAt #[(a, t1), (b, t2), (c, t3)]) 2
  have e : ∀ j, numAt #[(a, t1), (b, t2), (c, t3)] j = [a, b, c].getD j 0 := fun j => by rw [numAt_eq]; rfl
  refine ⟨.int _, H, I.kept hk, ⟨t, congrArg (fun z => Value.int z t) (mnU (ns := [a, b, c]) ?_ fun x hx => ?_)⟩, q⟩
  · rw [e]; exact PySem.getD_mem (by show _ < 3; show argBest _ 2 < 3; omega)
  · obtain ⟨j, hj, rfl⟩ := mem_getD hx
    rw [← e]; exact h2 j (by simp at hj; omega)
def min3B : FB := fun ds h => match ds with
  | [.int a, .int b, .int c] => .ok (.int (mnI [a, b, c])) h
  | _ => .stk
theorem cs_min3 : CallS X T rMin3 min3B := by
  intro W G h H σ ds vs Q r d o
  match ds, vs, d with
  | [.int a, .int b, .int c], [_, _, _], .cons .int (.cons .int (.cons .int .nil)) => exact ⟨a, b, c, rfl, o.at r .int⟩
  | ds, vs, d =>
    unfold min3B at o
    split at o
    · cases d with | cons a d => cases d with | cons b d => cases d with | cons c d => cases d; cases a; cases b; cases c; exact ⟨_, _, _, rfl, o.at r .int⟩
    · exact o.elim
end
end L3
set_option autoImplicit false
set_option maxHeartbeats 4000000
/-! L3W: != by an own __eq__; defaults; tuples the other way round; dicts whose keys are tuples, by a name. -/
namespace PySem.W
open PySem PySem.Calls PyProof.Rows Builtin
section
variable {prog : Program} {w : World} {A : Around} {E : Value → Shared → Prop} {s : Shared} {K : Frag} {x y C L f : Addr} {h₀ : Heap} {m : Str → Option Value} {ox oy : Obj} {od od' : Option Obj} {name : Str}
theorem l3_boundB {M : Model} {args : List Value} {id Tn : String} {Q : Option Value → Shared → Prop} (X : K.In s.heap) (I : InstAt s.heap x ox C od) (hs : findIn K (.ref C) name = some (some (.builtin id))) (S : Slot Tn name id)
    (h : wpAny M A (call (.builtin id) (.ref x :: args)) (fun v => Q (some v)) E s) : wpAny M A (callSpecialIfBound? (.ref x) name args) Q E s := by
  simp only [callSpecialIfBound?, bindSpecialIfBound?]
  refine wpAny_holding (wpAny_bind (wpAny_bind (wpAny_bind (I.type.here ((looks_findIn X hs).here ?_)))))
  simp only [S.bind]
  refine wpAny_bind (wpAny_askSetting (wpAny_ite ?_))
  have fin : wpAny M A (call (.builtin id) ([.ref x] ++ args) >>= fun v => pure (some v)) Q E s := wpAny_bind (wpAny_mono h (fun v s' h' => wpAny_pure h') fun _ _ h' => h')
  split
  · exact wpAny_bind (wpAny_pure (wpAny_pure fin))
  · exact wpAny_tryCatch (wpAny_bind (wpAny_pure (wpAny_pure fin)))
theorem l3_objNe (X : K.In s.heap) (I : InstAt s.heap x ox C od) (hs : findIn K (.ref C) "__eq__" = some (some (.ref f))) (hf : isFn K (.ref f) = true) (hu : A.units < cLine) {Q : Fin → Shared → Prop}
    (hcall : wpAny (model prog w) A (call (.ref f) [.ref x, .ref y]) (fun v s' => ∃ b, v = .bool b ∧ Q (.done (.ret (.bool (!b)))) s') E s) :
    wpAny (model prog w) A (Builtin.«object.__ne__» ⟨[.ref x, .ref y], []⟩) Q E s := by
  unfold Builtin.«object.__ne__»
  repeat (first
    | with_reducible refine wpAny_cRoomFor hu ?_
    | (refine wpAny_bind (m := callSpecialIfBound? (.ref x) (Str.ofString "__eq__") [.ref y])
        (ifBound_K X I hs hf (wpAny_mono hcall (fun r s' hr => by
          obtain ⟨b, rfl, hq⟩ := hr
          repeat (first | exact hq | exact wpAny_pure hq | exact wpAny_truthy_bool hq | (refine wpAny_bind (m := truthy (.bool _)) (wpAny_truthy_bool ?_)) | wp_step)) fun _ _ e => e)))
    | wp_step)
theorem l3_ne_K {Q : Value → Shared → Prop} (hu : A.units + 1 < cLine) (F : Fr h₀ L s.heap m) (X₀ : K.In h₀) (I : InstAt s.heap x ox C od) (hb : Looks (model prog w) s.heap (typeOf (.ref y)) (.ref C))
    (hn : findIn K (.ref C) "__ne__" = some (some (.builtin "object.__ne__"))) (hm : mroIn K C (.type "object") = some true) (hs : findIn K (.ref C) "__eq__" = some (some (.ref f))) (hf : isFn K (.ref f) = true)
    (h : wpAny (model prog w) A.in1 (call (.ref f) [.ref x, .ref y]) (fun v s' => ∃ b, v = .bool b ∧ Q (.bool (!b)) s') E s) :
    wpAny (model prog w) A (richCompare .NotEq (.ref x) (.ref y)) Q E s := by
  have X := X₀.keeps F.keep
  have FB := PySem.F.cmp_object
  have top : Looks (model prog w) s.heap (isInstance (.ref x) (.type "object")) true := I.type.andThen (looks_mroIn X hm)
  have one : wpAny (model prog w) A (tryCompare (.ref x) "__ne__" (.ref y)) (fun r s' => ∃ v, r = some v ∧ Q v s') E s := by
    unfold tryCompare
    refine wpAny_bind (l3_boundB X I hn FB.ne (wpAny_call (codeAny_call_builtin FB.ne.plain PySem.F.cmpEntry_ne
      (check_slot PySem.F.cmpKind_ne PySem.F.cmpSplit_ne top (PySem.F.cmpArgs_ne _ _) (l3_objNe (A := A.in1) X I hs hf hu (wpAny_mono h (fun v s' hv => ?_) fun _ _ e => e))))))
    obtain ⟨b, rfl, hq⟩ := hv
    first | exact ⟨b, rfl, wpAny_pure ⟨_, rfl, hq⟩⟩ | exact ⟨b, rfl, wpAny_pure (wpAny_pure ⟨_, rfl, hq⟩)⟩ | exact ⟨b, rfl, ⟨_, rfl, hq⟩⟩
  unfold richCompare
  simp only [oneThing_ref]
  refine wpAny_holding (wpAny_bind (wpAny_cRoomFor (Nat.lt_of_succ_lt hu) ?_))
  rw [cmpInfo_NotEq]
  dsimp only
  refine wpAny_bind (I.type.here (wpAny_bind (hb.here ?_)))
  rw [show (Value.ref C != Value.ref C) = false from by simp]
  simp only [Bool.false_eq_true, if_false]
  refine wpAny_bind (wpAny_pure ?_)
  simp only [Bool.false_eq_true, if_false]
  refine wpAny_bind (wpAny_mono one (fun r s' hr => ?_) fun _ _ e => e)
  obtain ⟨v, rfl, hq⟩ := hr
  first | exact wpAny_pure hq | exact wpAny_pure (wpAny_pure hq)
end
end PySem.W
namespace L3
open PySem PySem.Spec L2
section
variable {X : Cx} {T : Tx} {W : WX} {pos : Pos}
def rNeO (K : PySem.W.Frag) (T : Tx) (C : Addr) (sem : Sem3) : R2 := fun x y H Q => ∃ a b dx dy fs gs, x = .ref a ∧ y = .ref b ∧ H a = some (.ins C dx fs) ∧ H b = some (.ins C dy gs) ∧ sp3 K T 2 sem [x, y] H (fun z H' => ∃ c, z = .bl c ∧ Q (.bl (!c)) H') E0
theorem op_neO {C f : Addr} {k : Nat} {fd : FuncData} {ps : List Str} {sem : Sem3} (J0 : IsiC X.K C) (hn : PySem.W.findIn X.K (.ref C) "__ne__" = some (some (.builtin "object.__ne__"))) (M : Meth X.K C "__eq__" f) (F : FnL X.prog X.w X.K X.mg X.base T k f fd ps sem) (hr : RoomG (k + 1) X.A) (hb : Binds X.K fd ps []) (h2 : ps.length = 2 := by rfl) : OpR X (compareOp .NotEq) (rNeO X.K T C sem) := by
  intro pins s σ H x y v u Q I rx ry hq
  obtain ⟨a, b, dx, dy, fs, gs, rfl, rfl, ha, hb', hsp⟩ := hq
  cases rx
  cases ry
  obtain ⟨mA, J, _⟩ := ins_get I.hok ha
  obtain ⟨mB, J', _⟩ := ins_get I.hok hb'
  obtain ⟨od, J, _⟩ := J.look
  obtain ⟨od', J', _⟩ := J'.look
  obtain ⟨m, hF⟩ := I.fr
  have hr1 : RoomG k X.A.in1 := ⟨hr.r.in1, hr.g⟩
  show wpAny (model X.prog X.w) X.A (richCompare .NotEq (.ref a) (.ref b)) (EP X pins σ Q) X.xe s
  refine PySem.W.l3_ne_K (by have := hr.r.un; omega) hF I.ok.mod.kin J J'.type hn J0.hm M.at_ M.fn ?_
  have hsp' : sp3 X.K T ps.length sem [.ref a, .ref b] H (fun z H' => ∃ c, z = .bl c ∧ Q (.bl (!c)) H') E0 := by rw [h2]; exact hsp
  have hl : [Value.ref a, Value.ref b].length = ps.length := by rw [h2]; rfl
  refine wpAny_call (codeAny_mono (F.go X.A.in1 X.stack s H ⟨[.ref a, .ref b], []⟩ [.ref a, .ref b] [.ref a, .ref b] (fun z H' => ∃ c, z = .bl c ∧ Q (.bl (!c)) H') E0 hr1 I.env0.in1 (by
    have := hb s [.ref a, .ref b] I.kIn (by simpa using hl)
    simpa using this) (.cons rfl (.cons rfl .nil)) hsp') fun r s' e => ?_)
  match r, e with
  | .error er, e => exact False.elim ((passL : Passes (L2.CX X.prog X.w) X.nox E0) pins σ H _ er s' (I.wish _) e)
  | .ok (.ret w), e =>
    obtain ⟨z, H', I', rz, c, rfl, q3⟩ := I.after e
    have : w = .bool c := rz
    subst this
    exact ⟨c, rfl, .bl (!c), H', I', rfl, q3⟩
  | .ok .next, e => exact e.elim
  | .ok .brk, e => exact e.elim
  | .ok .cont, e => exact e.elim
def notR (r : R D) : R D := match r with
  | .ok (.bl b) h => .ok (.bl (!b)) h
  | _ => .stk
def neO (c : Nat) (sem : Sem3) : F2 := fun x y h => if clsOf h x = some c ∧ clsOf h y = some c then notR (sem [x, y] h) else .stk
theorem os_neO {c : Nat} {C : Addr} {sem : Sem3} (hcl : ∃ nm, T.cls c = some (C, nm)) : OpS X T (rNeO X.K T C sem) (neO c sem) := by
  intro W G h H σ x y v w Q r d1 d2 o
  obtain ⟨nm, hcl⟩ := hcl
  unfold neO at o
  by_cases hc : clsOf h x = some c ∧ clsOf h y = some c
  · rw [if_pos hc] at o
    obtain ⟨a, C', dx, nm', fs, rfl, q1, q2, _⟩ := clsOf_ok r d1 hc.1
    rw [hcl] at q2; cases q2
    obtain ⟨b, C', dy, nm', gs, rfl, p1, p2, _⟩ := clsOf_ok r d2 hc.2
    rw [hcl] at p2; cases p2
    refine ⟨a, b, dx, dy, fs, gs, rfl, rfl, q1, p1, rfl, G, h, [x, y], r, .cons d1 (.cons d2 .nil), ?_⟩
    cases es : sem [x, y] h with
    | ok z hh =>
      rw [es] at o
      cases z with
      | bl b =>
        intro G' H' v x' r' d'
        cases d'
        exact ⟨b, rfl, o G' H' _ x' r' .bl⟩
      | _ => exact o.elim
    | exc c es' hh => rw [es] at o; exact o.elim
    | stk => rw [es] at o; exact o.elim
  · rw [if_neg hc] at o; exact o.elim
/-! defaults -/
theorem gc_ref {K : PySem.W.Frag} {x : Str} {ds : List D} (c : (Fl.gc x (.tup ds)).ok K = true) : ∀ T, Cst K T (.tup ds) (.ref (He.ga K x)) := by
  have c2 : (match PySem.W.nsIn K mainGlobals x with
    | some (some u) => cstB K (.tup ds) u
    | _ => false) = true := c
  cases e : PySem.W.nsIn K mainGlobals x with
  | none => rw [e] at c2; cases c2
  | some o =>
    cases o with
    | none => rw [e] at c2; cases c2
    | some u =>
      rw [e] at c2
      obtain ⟨v, r, k⟩ := cstB_ok _ u c2
      cases u with
      | ref a =>
        have eg : He.ga K x = a := by unfold He.ga; rw [e]
        rw [eg]
        have ev : v = .ref a := by
          cases v with
          | ref b =>
            have r' : Value.ref a = .ref b := r
            cases r'
            rfl
          | _ => exact absurd r (by simp [RelV])
        rw [← ev]
        exact k
      | _ => exact absurd c2 (by simp [cstB])
/-- all parameters are given, though there are defaults -/
theorem bindsD0 {K : PySem.W.Frag} {x qual : Str} {params : Arguments} {body : List Stmt} {scope : Scope} {dvs : List V} {kws : List (Str × V)} {f : Addr} {fd : FuncData} {ps : List Str} (F : FunD K x qual params body scope dvs kws f fd) (hd : dvs ≠ [])
    (h : ∀ (T : Addr) (kV doc pm : Value) (an : Option Addr) (cdv ct : Value) (us its : List Value), us.length = ps.length → its.length = dvs.length → ∃ k, bindArgs (PySem.W.fnOf x qual params body scope (.ref T) kV doc pm an cdv ct) ⟨us, []⟩ = seqItems? (.ref T) >>= k ∧ k (some its.toArray) = pure (ps.zip us)) : Binds K fd ps [] := by
  obtain ⟨ds, hv, hb⟩ := FunD.binds1 (ps := ps) F ps.length dvs.length hd (by omega) (fun T kV doc pm an cdv ct us its l1 l2 => by
    obtain ⟨k, e1, e2⟩ := h T kV doc pm an cdv ct us its l1 l2
    exact ⟨k, e1, by rw [← l2, List.drop_length, List.append_nil]; exact e2⟩)
  rw [List.drop_length] at hv
  cases hv
  exact hb
/-- keywords, where there are defaults -/
theorem kbp1 {K : PySem.W.Frag} {x qual : Str} {params : Arguments} {body : List Stmt} {scope : Scope} {dvs : List V} {kws : List (Str × V)} {f : Addr} {fd : FuncData} {ps : List Str} (F : FunD K x qual params body scope dvs kws f fd) (n : Nat) (ks : List Str) (l : List Pk) (hd : dvs ≠ [])
    (h : ∀ (T : Addr) (kV doc pm : Value) (an : Option Addr) (cdv ct : Value) (us its ws : List Value), us.length = n → its.length = dvs.length → ws.length = ks.length → ∃ k, bindArgs (PySem.W.fnOf x qual params body scope (.ref T) kV doc pm an cdv ct) ⟨us, ks.zip ws⟩ = seqItems? (.ref T) >>= k ∧ k (some its.toArray) = pure (ps.zip (pick us its ws l))) : ∃ ds, Vals dvs ds ∧ KBp K fd ps n ks ds l := by
  obtain ⟨oc, od, dV, kV, doc, pm, an, cdv, ct, osl, rfl, lk, hcd, hD, hK⟩ := F.ex
  rcases hD with ⟨e, _⟩ | ⟨_, T, o, its, m, rfl, lT, oT, rT⟩
  · exact absurd e hd
  · refine ⟨its, rT, fun s us ws X l1 l2 => ?_⟩
    obtain ⟨k, e1, e2⟩ := h T kV doc pm an cdv ct us its ws l1 rT.length.symm l2
    refine BindsTo.of_looks fun M => ?_
    rw [e1]
    exact looks_items X lT oT (.of_pure e2)
end
end L3
set_option autoImplicit false
set_option maxHeartbeats 4000000
/-! L3X: a tuple turned around. -/
namespace HT
open PySem PySem.Calls PyProof.Rows Builtin
section
variable {prog : Program} {w : World} {A : Around} {E : Value → Shared → Prop} {s : Shared}
theorem l3_adjust (n : Nat) : Builtin.Slice.sliceAdjust none none (-1) (n : Int) = ((n : Int) - 1, -1) := by
  unfold Builtin.Slice.sliceAdjust
  first | rfl | simp
theorem l3_places (n : Nat) : Builtin.Slice.slicePlaces ((n : Int) - 1) (-1) (-1) = n := by
  unfold Builtin.Slice.slicePlaces
  have h1 : ¬ ((-1 : Int) > 0) := by decide
  simp only [h1, if_false]
  split <;> simp <;> omega
theorem l3_applied {sl : Addr} {vk : Value} {n : Nat} {Q : Int × Int × Nat → Shared → Prop} (hs : s.heap.IsSliceOf sl .none .none vk) (pk : IsPart vk (some (-1)))
    (h : Q ((n : Int) - 1, -1, n) s) : wpAny (model prog w) A (Builtin.Slice.sliceApplied (.ref sl) (pure (n : Int))) Q E s := by
  obtain ⟨os, hos, hcs, hds⟩ := id hs
  unfold Builtin.Slice.sliceApplied Builtin.Slice.sliceFields
  refine wpAny_bind (wpAny_bind (wpAny_field hos hds (x := .none) rfl (wpAny_bind (wpAny_field hos hds (x := .none) rfl (wpAny_bind (wpAny_field hos hds (x := vk) rfl (wpAny_pure ?_)))))))
  refine wpAny_bind (slicePart_ pk ?_)
  show wpAny _ _ (if ((-1 : Int) == 0) = true then _ else _) _ _ s
  rw [if_neg (by decide)]
  refine wpAny_bind (slicePart_none (wpAny_bind (slicePart_none (wpAny_bind (wpAny_pure ?_)))))
  show wpAny _ _ (match Builtin.Slice.sliceAdjust none none (-1) (n : Int) with | (lo, hi) => pure (lo, (-1 : Int), Builtin.Slice.slicePlaces lo hi (-1))) _ _ s
  rw [l3_adjust n]
  show wpAny _ _ (pure ((n : Int) - 1, (-1 : Int), Builtin.Slice.slicePlaces ((n : Int) - 1) (-1) (-1))) _ _ s
  rw [l3_places]
  exact wpAny_pure h
theorem l3_pick (xs : Array Value) : ((List.range xs.size).filterMap fun (m : Nat) => xs[((xs.size : Int) - 1 + (m : Int) * (-1)).toNat]?).toArray = xs.toList.reverse.toArray := by
  have e : (List.range xs.size).filterMap (fun (m : Nat) => xs[((xs.size : Int) - 1 + (m : Int) * (-1)).toNat]?) = ((List.range xs.size).map fun k => xs.size - 1 - k).filterMap (xs[·]?) := by
    rw [List.filterMap_map]
    have e : (fun (m : Nat) => xs[((xs.size : Int) - 1 + (m : Int) * (-1)).toNat]?) = ((fun x => xs[x]?) ∘ fun k => xs.size - 1 - k) := by
      funext m
      have : ((xs.size : Int) - 1 + (m : Int) * (-1)).toNat = xs.size - 1 - m := by omega
      show xs[((xs.size : Int) - 1 + (m : Int) * (-1)).toNat]? = xs[xs.size - 1 - m]?
      rw [this]
    rw [e]
  rw [e, PySem.W.krv_range, List.filterMap_reverse, PySem.W.krv_all]
theorem l3_getItem {t sl : Addr} {items : Array Value} {vk : Value} {Q : Value → Shared → Prop} (ht : IsTup s.heap t items) (hs : s.heap.IsSliceOf sl .none .none vk) (pk : IsPart vk (some (-1)))
    (h : Q (.ref s.heap.objs.size) { s with heap := s.heap.push { cls := .type "tuple", data := .seq items.toList.reverse.toArray } })
    (hsz : items.size ≤ sizeLine) : wpAny (model prog w) A (getItem (.ref t) (.ref sl)) Q E s := by
  have htake : sizeOk (.seq items.toList.reverse.toArray) := by
    show items.toList.reverse.toArray.size ≤ sizeLine
    rw [List.size_toArray, List.length_reverse, Array.length_toList]
    exact hsz
  obtain ⟨os, hos, hcs, hds⟩ := id hs
  have hTs : s.TypeIs (.ref sl) "slice" := ⟨os, hos, hcs⟩
  unfold getItem
  try with_reducible refine wpAny_holding ?_
  first | refine wpAny_bind (wpAny_pure ?_) | skip
  refine wpAny_bind (wpAny_sequenceKey ht.typeIs (by decide) ?_)
  refine wpAny_bind (wpAny_callSpecial?_slot (name := Str.ofString "__getitem__") ht.typeIs PyProof.Rows.slot_tuple_getitem
    (wpAny_call_entry PyProof.Rows.slot_tuple_getitem ht.typeIs entry_tuple_getitem ?_ (args_tuple_getitem _ _)))
  show wpAny _ _ (Builtin.Tuple.tupleItemsOf (.ref t) >>= _) _ _ s
  refine wpAny_bind (tupleItemsOf_ ht ?_)
  refine wpAny_bind (wpAny_typeOf hTs ?_)
  rw [if_pos (by decide)]
  refine wpAny_bind (l3_applied hs pk ?_)
  have hno : ¬ ((((items.size : Int) - 1) == 0 && (-1 : Int) == 1 && items.size == items.size) = true) := by
    intro q
    rw [Bool.and_eq_true, Bool.and_eq_true] at q
    exact absurd q.1.2 (by decide)
  show wpAny _ _ (if (((items.size : Int) - 1) == 0 && (-1 : Int) == 1 && items.size == items.size) = true then _ else _) _ _ s
  rw [if_neg hno, l3_pick]
  first
    | exact wpAny_bind (m := Builtin.Tuple.tupleExact _) (wpAny_newObj_type (wpAny_pure ⟨_, rfl, wpAny_pure h⟩) htake)
    | exact wpAny_bind (m := Builtin.Tuple.tupleExact _) (wpAny_newObj_type (wpAny_bind (wpAny_pure (wpAny_pure ⟨_, rfl, wpAny_pure h⟩))) htake)
end
end HT
namespace L3
open PySem PySem.Spec L2 PyProof.Rows
section
variable {X : Cx} {T : Tx} {W : WX} {pos p2 : Pos} {e st : Expr} {te : TE} {ts : TO}
def rRevT (K : PySem.W.Frag) : V → Option Int → Hp → VK → Prop := fun x k H Q => k = some (-1) ∧ ∃ a xs, x = .ref a ∧ SqT K H a xs ∧ ∀ p, H p = none → Q (.ref p) (upd H p (.tup xs.reverse))
theorem pe_revA (he : PE X e te) (hs : PO X (some st) ts) : PE X (.Subscript e (.Slice none none (some st) p2) pos) (fun σ H Q => te σ H fun x H1 => ts σ H1 fun k H2 => rRevT X.K x k H2 Q ∨ rRev X.K x k H2 Q) := by
  refine ⟨fun pins s σ H Q I h => ?_⟩
  refine Subscript_ (thn (he.run pins s σ H _ I h) fun v s1 ⟨x, H1, I1, r1, q1⟩ => ?_)
  refine wpAny_Slice ?_
  rw [evalPart_none]
  refine wpAny_pure ?_
  refine wpAny_pure ?_
  refine thn (hs.run pins s1 σ H1 _ I1 q1) fun vk s3 ⟨k, H3, I3, pk, q3⟩ => ?_
  have I4 : Inv X pins σ H3 { s3 with heap := s3.heap.push { cls := .type "slice", data := .fields #[.none, .none, vk] } } := I3.kept (t' := s3.toks) fun b ob q => Heap.get?_push_of_some _ q
  rcases q3 with ⟨rfl, a, xs, rfl, hx, q⟩ | ⟨rfl, a, xs, rfl, hx, q⟩
  · cases r1
    obtain ⟨its, r, ht, hz⟩ := I4.tuple hx
    have hlen := r.length
    have g : wpAny (model X.prog X.w) X.A (getItem (.ref a) (.ref s3.heap.objs.size)) (EP X pins σ Q) X.xe { s3 with heap := s3.heap.push { cls := .type "slice", data := .fields #[.none, .none, vk] } } := by
      refine HT.l3_getItem ht (Heap.IsSliceOf.new ..) pk ?_ (by rw [List.size_toArray] <;> omega)
      refine ⟨.ref _, _, I4.laid (t' := s3.toks) (o := .tup xs.reverse) (fun b ob q => Heap.get?_push_of_some _ q) (Nat.le_refl _) ?_, rfl, q _ (I4.hok.fresh (Nat.le_refl _))⟩
      exact ⟨by rw [List.length_reverse]; exact hz, _, r.reverse, IsTup.new _ _⟩
    exact tail_any (ops := [.ref a, .ref s3.heap.objs.size]) ht.typeIs PyProof.Rows.slot_tuple_getitem.lookup g (by with_unfolding_all rfl)
  · cases r1
    obtain ⟨its, r, ht, hz⟩ := I4.list hx
    have hlen := r.length
    have g : wpAny (model X.prog X.w) X.A (getItem (.ref a) (.ref s3.heap.objs.size)) (EP X pins σ Q) X.xe { s3 with heap := s3.heap.push { cls := .type "slice", data := .fields #[.none, .none, vk] } } := by
      refine wpAny_getItem_list_slice ht.isList (Heap.IsSliceOf.new ..) .none .none pk (by decide) ?_ (by rw [List.size_toArray] <;> omega)
      rw [PySem.W.krv_pick]
      refine ⟨.ref _, _, I4.laid (t' := s3.toks) (o := .lst xs.reverse) (fun b ob q => Heap.get?_push_of_some _ q) (Nat.le_refl _) ?_, rfl, q _ (I4.hok.fresh (Nat.le_refl _))⟩
      exact ⟨by rw [List.length_reverse]; exact hz, _, 0, r.reverse, Heap.get?_push_size _ rfl⟩
    exact tail_any (ops := [.ref a, .ref s3.heap.objs.size]) ht.isList.typeIs slot_list_getitem.lookup g (by with_unfolding_all rfl)
def revA (x : D) (k : Option Int) (h : Hh) : R D := match x with
  | .tup xs => if k = some (-1) then .ok (.tup xs.reverse) h else .stk
  | x => revD x k h
def eRevA (f : FnE) (fk : FnO) : FnE := fun δ h => (f δ h).bind fun x h1 => (fk δ h1).bind fun k h2 => revA x k h2
theorem fe_revA {f : FnE} {fk : FnO} (he : FE X T W e f) (hk : FO X T W (some st) fk) : FE X T W (.Subscript e (.Slice none none (some st) p2) pos) (eRevA f fk) := by
  refine PE.imp (pe_revA he hk) fun σ H Q => ?_
  rintro ⟨G, h0, δ, r, s, o⟩
  refine ⟨G, h0, δ, r, s, (okR.bind (rel := RD X.K T) o).mono ?_⟩
  rintro v H1 ⟨G1, x, h1, e1, r1, d1, o1⟩
  refine ⟨G1, h1, δ, r1, s.mono e1, (okR.bind (rel := fun _ a b => a = b) o1).mono ?_⟩
  rintro k H2 ⟨G2, k', h2, e2, r2, rfl, o2⟩
  have d2 := d1.mono e2
  have lst : (okR X.K T W G2 σ (RD X.K T) (revD x k' h2) Q) → rRev X.K v k' H2 Q := fun o2 => by
    unfold revD at o2
    by_cases hk1 : k' = some (-1)
    · rw [if_pos hk1] at o2
      cases ex : asL h2 x with
      | none => rw [ex] at o2; exact o2.elim
      | some xs =>
        rw [ex] at o2
        obtain ⟨a, vs, rfl, q1, q2⟩ := asL_ok r2 d2 ex
        exact ⟨hk1, a, vs, rfl, .inl (.inl q1), fun p hp => newLst r2 q2.rev hp o2⟩
    · rw [if_neg hk1] at o2
      exact o2.elim
  unfold revA at o2
  cases x with
  | tup xs =>
    refine .inl ?_
    dsimp only at o2
    by_cases hk1 : k' = some (-1)
    · rw [if_pos hk1] at o2
      cases d2 with
      | @tup _ a vs q1 q2 => exact ⟨hk1, a, vs, rfl, SqT.sub r2.sub q1, fun p hp => newTup r2 q2.rev hp o2⟩
    · rw [if_neg hk1] at o2
      exact o2.elim
  | _ => exact .inr (lst o2)
end
end L3
set_option autoImplicit false
set_option maxHeartbeats 4000000
/-! L3Y: tuples of whole numbers by their order. -/
namespace L3
open PySem PySem.Spec L2 PyProof.Rows
section
variable {X : Cx} {T : Tx} {W : WX} {pos : Pos}
def lexG (ns ms : List Int) : Bool := Ob.lexAt (fun j => decide (ns.getD j 0 = ms.getD j 0)) (fun j => decide (ms.getD j 0 < ns.getD j 0)) (decide (ns.length > ms.length)) 0 (min ns.length ms.length)
def rGtT (K : PySem.W.Frag) : R2 := fun x y H Q => ∃ (a b : Addr) (ns ms : List Int), x = .ref a ∧ y = .ref b ∧ SqT K H a (ns.map V.int) ∧ SqT K H b (ms.map V.int) ∧ Q (.bl (lexG ns ms)) H
theorem op_gtT (hu : X.A.units < cLine) : OpR X (compareOp .Gt) (rGtT X.K) := by
  intro pins s σ H x y v u Q I rx ry h
  obtain ⟨a, b, ns, ms, rfl, rfl, ha, hb, q⟩ := h
  cases rx
  cases ry
  obtain ⟨its, r1, p1, _⟩ := I.tuple ha
  obtain ⟨its2, r2, p2, _⟩ := I.tuple hb
  have i1 : IntsAre its ns := Vals.ints r1
  have i2 : IntsAre its2 ms := Vals.ints r2
  have e1 : its.toArray.size = ns.length := by rw [List.size_toArray]; exact i1.length
  have e2 : its2.toArray.size = ms.length := by rw [List.size_toArray]; exact i2.length
  have at1 : ∀ j (h1 : j < its.toArray.size), ∃ t, its.toArray[j] = .int (ns.getD j 0) t := fun j h1 => PyProof.Rows.IntsAre.int_at i1 _ _ (by simp at h1; simp [h1])
  have at2 : ∀ j (h1 : j < its2.toArray.size), ∃ t, its2.toArray[j] = .int (ms.getD j 0) t := fun j h1 => PyProof.Rows.IntsAre.int_at i2 _ _ (by simp at h1; simp [h1])
  have R := Ob.RcOp.tuples_gt (A := X.A) (s := s) (e := fun j => decide (ns.getD j 0 = ms.getD j 0)) (r := fun j => decide (ms.getD j 0 < ns.getD j 0)) p1 p2 hu (fun j h1 h2 => by
    obtain ⟨t, et⟩ := at1 j h1
    obtain ⟨t', et'⟩ := at2 j h2
    rw [et, et']
    have z : (ns.getD j 0 == ms.getD j 0) = decide (ns.getD j 0 = ms.getD j 0) := by
      by_cases q : ns.getD j 0 = ms.getD j 0
      · rw [decide_eq_true q]; exact beq_iff_eq.mpr q
      · rw [decide_eq_false q]; exact beq_eq_false_iff_ne.mpr q
    rw [← z]
    exact SeqAt.EqAt.int_int _ _ _ _) (fun j h1 h2 _ => by
    obtain ⟨t, et⟩ := at1 j h1
    obtain ⟨t', et'⟩ := at2 j h2
    rw [et, et']
    exact Ob.RcOp.gt_int _ _ _ _)
  rw [e1, e2] at R
  have z : wpAny (model X.prog X.w) X.A (compareOp .Gt (.ref a) (.ref b)) (EP X pins σ Q) X.xe s := R X.prog X.w X.xe (EP X pins σ Q) ⟨.bl _, H, I, rfl, q⟩
  exact z
def gtTD (ds es : List D) (h : Hh) : R D := match intsOf ds, intsOf es with
  | some ns, some ms => .ok (.bl (lexG ns ms)) h
  | _, _ => .stk
def gtA : F2 := fun x y h => match x, y with
  | .tup ds, .tup es => gtTD ds es h
  | x, y => gtD x y h
theorem os_gtA : OpS X T (fun x y H Q => rI0 (fun i j => .bl (decide (j < i))) x y H Q ∨ rGtT X.K x y H Q) gtA := by
  intro W G h H σ x y v w Q r d1 d2 o
  have num : okR X.K T W G σ (RD X.K T) (gtD x y h) Q → (fun x y H Q => rI0 (fun i j => .bl (decide (j < i))) x y H Q ∨ rGtT X.K x y H Q) v w H Q := fun o => .inl (os_cmp (X := X) (T := T) (p := fun i j => decide (j < i)) _ _ _ _ _ _ _ _ _ _ r d1 d2 o)
  unfold gtA at o
  split at o
  · rename_i ds es
    refine .inr ?_
    unfold gtTD at o
    cases ex : intsOf ds with
    | none => rw [ex] at o; exact o.elim
    | some ns =>
      cases ey : intsOf es with
      | none => rw [ex, ey] at o; exact o.elim
      | some ms =>
        rw [ex, ey] at o
        dsimp only at o
        cases d1 with
        | @tup _ a vs q1 q2 =>
          cases d2 with
          | @tup _ b ws p1 p2 =>
            have z1 := intsOf_ok q2 ex
            have z2 := intsOf_ok p2 ey
            subst z1 z2
            exact ⟨a, b, ns, ms, rfl, rfl, SqT.sub r.sub q1, SqT.sub r.sub p1, o.at r .bl⟩
  · exact num o
theorem op_gtA (hu : X.A.units < cLine) : OpR X (compareOp .Gt) (fun x y H Q => rI0 (fun i j => .bl (decide (j < i))) x y H Q ∨ rGtT X.K x y H Q) := OpR.or L2.op_gt (op_gtT hu)
end
end L3
set_option autoImplicit false
set_option maxHeartbeats 4000000
/-! L3Z: == and != of an own instance with values of other kinds; keyword-only defaults. -/
namespace PySem.W
open PySem PySem.Calls PyProof.Rows Builtin
section
variable {prog : Program} {w : World} {A : Around} {E : Value → Shared → Prop} {s : Shared} {K : Frag} {x C L f : Addr} {h₀ : Heap} {m : Str → Option Value} {ox : Obj} {od : Option Obj} {b tb : Value}
theorem l3_objNeV (X : K.In s.heap) (I : InstAt s.heap x ox C od) (hs : findIn K (.ref C) "__eq__" = some (some (.ref f))) (hf : isFn K (.ref f) = true) (hu : A.units < cLine) {Q : Fin → Shared → Prop}
    (hcall : wpAny (model prog w) A (call (.ref f) [.ref x, b]) (fun v s' => ∃ c, v = .bool c ∧ Q (.done (.ret (.bool (!c)))) s') E s) :
    wpAny (model prog w) A (Builtin.«object.__ne__» ⟨[.ref x, b], []⟩) Q E s := by
  unfold Builtin.«object.__ne__»
  repeat (first
    | with_reducible refine wpAny_cRoomFor hu ?_
    | (refine wpAny_bind (m := callSpecialIfBound? (.ref x) (Str.ofString "__eq__") [b])
        (ifBound_K X I hs hf (wpAny_mono hcall (fun r s' hr => by
          obtain ⟨c, rfl, hq⟩ := hr
          repeat (first | exact hq | exact wpAny_pure hq | exact wpAny_truthy_bool hq | (refine wpAny_bind (m := truthy (.bool _)) (wpAny_truthy_bool ?_)) | wp_step)) fun _ _ e => e)))
    | wp_step)
theorem l3_ne_V {Q : Value → Shared → Prop} (hu : A.units + 1 < cLine) (F : Fr h₀ L s.heap m) (X₀ : K.In h₀) (I : InstAt s.heap x ox C od) (hb : Looks (model prog w) s.heap (typeOf b) tb) (nf : notFirst K C tb = true)
    (hn : findIn K (.ref C) "__ne__" = some (some (.builtin "object.__ne__"))) (hm : mroIn K C (.type "object") = some true) (hs : findIn K (.ref C) "__eq__" = some (some (.ref f))) (hf : isFn K (.ref f) = true)
    (h : wpAny (model prog w) A.in1 (call (.ref f) [.ref x, b]) (fun v s' => ∃ c, v = .bool c ∧ Q (.bool (!c)) s') E s) :
    wpAny (model prog w) A (richCompare .NotEq (.ref x) b) Q E s := by
  have X := X₀.keeps F.keep
  have FB := PySem.F.cmp_object
  have top : Looks (model prog w) s.heap (isInstance (.ref x) (.type "object")) true := I.type.andThen (looks_mroIn X hm)
  have one : wpAny (model prog w) A (tryCompare (.ref x) "__ne__" b) (fun r s' => ∃ v, r = some v ∧ Q v s') E s := by
    unfold tryCompare
    refine wpAny_bind (l3_boundB X I hn FB.ne (wpAny_call (codeAny_call_builtin FB.ne.plain PySem.F.cmpEntry_ne
      (check_slot PySem.F.cmpKind_ne PySem.F.cmpSplit_ne top (PySem.F.cmpArgs_ne _ _) (l3_objNeV (A := A.in1) X I hs hf hu (wpAny_mono h (fun v s' hv => ?_) fun _ _ e => e))))))
    obtain ⟨c, rfl, hq⟩ := hv
    first | exact ⟨c, rfl, wpAny_pure ⟨_, rfl, hq⟩⟩ | exact ⟨c, rfl, wpAny_pure (wpAny_pure ⟨_, rfl, hq⟩)⟩ | exact ⟨c, rfl, ⟨_, rfl, hq⟩⟩
  have last : ∀ {α : Type} {k : Option Value → Sem α} {R : α → Shared → Prop}, (∀ v s', Q v s' → wpAny (model prog w) A (k (some v)) R E s') → wpAny (model prog w) A (tryCompare (.ref x) "__ne__" b >>= k) R E s := fun hk =>
    wpAny_bind (wpAny_mono one (fun r s' z => by obtain ⟨v, rfl, hq⟩ := z; exact hk v s' hq) fun _ _ e => e)
  unfold richCompare
  simp only [oneThing_ref]
  refine wpAny_holding (wpAny_bind (wpAny_cRoomFor (Nat.lt_of_succ_lt hu) ?_))
  rw [cmpInfo_NotEq]
  dsimp only
  refine wpAny_bind (I.type.here (wpAny_bind (hb.here ?_)))
  by_cases q : (Value.ref C != tb) = true
  · have e : subIn K tb (.ref C) = some false := by
      rcases Bool.or_eq_true_iff.mp nf with e | e
      · exact absurd q (by rw [beq_iff_eq.mp e]; simp)
      · exact beq_iff_eq.mp e
    rw [if_pos q]
    refine wpAny_bind ((looks_subIn X e).here ?_)
    simp only [Bool.false_eq_true, if_false]
    exact last fun v s' hq => by first | exact wpAny_pure hq | exact wpAny_pure (wpAny_pure hq)
  · rw [if_neg q]
    refine wpAny_bind (wpAny_pure ?_)
    simp only [Bool.false_eq_true, if_false]
    exact last fun v s' hq => by first | exact wpAny_pure hq | exact wpAny_pure (wpAny_pure hq)
end
end PySem.W
namespace L3
open PySem PySem.Spec L2
section
variable {X : Cx} {T : Tx} {W : WX} {pos : Pos}
theorem kd_nf {K : PySem.W.Frag} {C : Addr} (k : Kd) : PySem.W.notFirst K C (.type k.nm) = true := by
  cases k <;> rfl
def rEqK (K : PySem.W.Frag) (T : Tx) (C : Addr) (sem : Sem3) : R2 := fun x y H Q => ∃ a dx fs, ∃ k : Kd, x = .ref a ∧ H a = some (.ins C dx fs) ∧ TyX K H y (.type k.nm) ∧ sp3 K T 2 sem [x, y] H Q E0
theorem op_eqK {C f : Addr} {k : Nat} {fd : FuncData} {ps : List Str} {sem : Sem3} (M : Meth X.K C "__eq__" f) (F : FnL X.prog X.w X.K X.mg X.base T k f fd ps sem) (hr : RoomG k X.A) (hb : Binds X.K fd ps []) (h2 : ps.length = 2 := by rfl) : OpR X (compareOp .Eq) (rEqK X.K T C sem) := by
  intro pins s σ H x y v u Q I rx ry hq
  obtain ⟨a, dx, fs, kk, rfl, ha, ty, hsp⟩ := hq
  cases rx
  obtain ⟨mA, J, _⟩ := ins_get I.hok ha
  obtain ⟨od, J, _⟩ := J.look
  obtain ⟨m, hF⟩ := I.fr
  obtain ⟨P, KX, hP, _⟩ := kit_of I ry ty
  show wpAny (model X.prog X.w) X.A (richCompare .Eq (.ref a) u) (EP X pins σ Q) X.xe s
  refine PySem.W.cmp_K (op := .Eq) (tb := .type kk.nm) hr.r.units0 hF I.ok.mod.kin J (KX.ty _ _ I.kIn hP) (kd_nf kk) M.at_ M.fn ?_
  have hsp' : sp3 X.K T ps.length sem [.ref a, y] H Q E0 := by rw [h2]; exact hsp
  have hl : [Value.ref a, u].length = ps.length := by rw [h2]; rfl
  refine wpAny_call (codeAny_mono (F.go X.A X.stack s H ⟨[.ref a, u], []⟩ [.ref a, u] [.ref a, y] Q E0 hr I.env0 (by
    have := hb s [.ref a, u] I.kIn (by simpa using hl)
    simpa using this) (.cons rfl (.cons ry .nil)) hsp') fun r s' e => ?_)
  match r, e with
  | .error er, e => exact False.elim ((passL : Passes (L2.CX X.prog X.w) X.nox E0) pins σ H _ er s' (I.wish _) e)
  | .ok (.ret w), e =>
    obtain ⟨z, H', I', rz, q3⟩ := I.after e
    cases w with
    | notImplemented => cases z <;> first | (cases rz; done) | exact (show False from by simp [RelV] at rz)
    | _ => exact ⟨z, H', I', rz, q3⟩
  | .ok .next, e => exact e.elim
  | .ok .brk, e => exact e.elim
  | .ok .cont, e => exact e.elim
def rNeK (K : PySem.W.Frag) (T : Tx) (C : Addr) (sem : Sem3) : R2 := fun x y H Q => rEqK K T C sem x y H fun z H' => ∃ c, z = .bl c ∧ Q (.bl (!c)) H'
theorem op_neK {C f : Addr} {k : Nat} {fd : FuncData} {ps : List Str} {sem : Sem3} (J0 : IsiC X.K C) (hn : PySem.W.findIn X.K (.ref C) "__ne__" = some (some (.builtin "object.__ne__"))) (M : Meth X.K C "__eq__" f) (F : FnL X.prog X.w X.K X.mg X.base T k f fd ps sem) (hr : RoomG (k + 1) X.A) (hb : Binds X.K fd ps []) (h2 : ps.length = 2 := by rfl) : OpR X (compareOp .NotEq) (rNeK X.K T C sem) := by
  intro pins s σ H x y v u Q I rx ry hq
  obtain ⟨a, dx, fs, kk, rfl, ha, ty, hsp⟩ := hq
  cases rx
  obtain ⟨mA, J, _⟩ := ins_get I.hok ha
  obtain ⟨od, J, _⟩ := J.look
  obtain ⟨m, hF⟩ := I.fr
  obtain ⟨P, KX, hP, _⟩ := kit_of I ry ty
  have hr1 : RoomG k X.A.in1 := ⟨hr.r.in1, hr.g⟩
  show wpAny (model X.prog X.w) X.A (richCompare .NotEq (.ref a) u) (EP X pins σ Q) X.xe s
  refine PySem.W.l3_ne_V (tb := .type kk.nm) (by have := hr.r.un; omega) hF I.ok.mod.kin J (KX.ty _ _ I.kIn hP) (kd_nf kk) hn J0.hm M.at_ M.fn ?_
  have hsp' : sp3 X.K T ps.length sem [.ref a, y] H (fun z H' => ∃ c, z = .bl c ∧ Q (.bl (!c)) H') E0 := by rw [h2]; exact hsp
  have hl : [Value.ref a, u].length = ps.length := by rw [h2]; rfl
  refine wpAny_call (codeAny_mono (F.go X.A.in1 X.stack s H ⟨[.ref a, u], []⟩ [.ref a, u] [.ref a, y] (fun z H' => ∃ c, z = .bl c ∧ Q (.bl (!c)) H') E0 hr1 I.env0.in1 (by
    have := hb s [.ref a, u] I.kIn (by simpa using hl)
    simpa using this) (.cons rfl (.cons ry .nil)) hsp') fun r s' e => ?_)
  match r, e with
  | .error er, e => exact False.elim ((passL : Passes (L2.CX X.prog X.w) X.nox E0) pins σ H _ er s' (I.wish _) e)
  | .ok (.ret w), e =>
    obtain ⟨z, H', I', rz, c, rfl, q3⟩ := I.after e
    have : w = .bool c := rz
    subst this
    exact ⟨c, rfl, .bl (!c), H', I', rfl, q3⟩
  | .ok .next, e => exact e.elim
  | .ok .brk, e => exact e.elim
  | .ok .cont, e => exact e.elim
def eqV (c : Nat) (sem : Sem3) : F2 := fun x y h => if clsOf h x = some c ∧ (kdOf h y).isSome = true then noX (sem [x, y] h) else eqO c sem x y h
def neV (c : Nat) (sem : Sem3) : F2 := fun x y h => if clsOf h x = some c ∧ (kdOf h y).isSome = true then notR (sem [x, y] h) else neO c sem x y h
theorem os_eqV {c : Nat} {C : Addr} {sem : Sem3} (hcl : ∃ nm, T.cls c = some (C, nm)) : OpS X T (fun x y H Q => rEqK X.K T C sem x y H Q ∨ rEqO X.K T C sem x y H Q) (eqV c sem) := by
  intro W G h H σ x y v w Q r d1 d2 o
  unfold eqV at o
  by_cases hc : clsOf h x = some c ∧ (kdOf h y).isSome = true
  · rw [if_pos hc] at o
    obtain ⟨nm, hcl⟩ := hcl
    obtain ⟨a, C', dx, nm', fs, rfl, q1, q2, _⟩ := clsOf_ok r d1 hc.1
    rw [hcl] at q2; cases q2
    obtain ⟨k, ek⟩ := Option.isSome_iff_exists.mp hc.2
    refine .inl ⟨a, dx, fs, k, rfl, q1, kd_ok r d2 ek, rfl, G, h, [x, y], r, .cons d1 (.cons d2 .nil), ?_⟩
    cases es : sem [x, y] h with
    | ok z hh => rw [es] at o; exact o
    | exc c es' hh => rw [es] at o; exact o.elim
    | stk => rw [es] at o; exact o.elim
  · rw [if_neg hc] at o
    exact .inr (os_eqO hcl _ _ _ _ _ _ _ _ _ _ r d1 d2 o)
theorem os_neV {c : Nat} {C : Addr} {sem : Sem3} (hcl : ∃ nm, T.cls c = some (C, nm)) : OpS X T (fun x y H Q => rNeK X.K T C sem x y H Q ∨ rNeO X.K T C sem x y H Q) (neV c sem) := by
  intro W G h H σ x y v w Q r d1 d2 o
  unfold neV at o
  by_cases hc : clsOf h x = some c ∧ (kdOf h y).isSome = true
  · rw [if_pos hc] at o
    obtain ⟨nm, hcl⟩ := hcl
    obtain ⟨a, C', dx, nm', fs, rfl, q1, q2, _⟩ := clsOf_ok r d1 hc.1
    rw [hcl] at q2; cases q2
    obtain ⟨k, ek⟩ := Option.isSome_iff_exists.mp hc.2
    refine .inl ⟨a, dx, fs, k, rfl, q1, kd_ok r d2 ek, rfl, G, h, [x, y], r, .cons d1 (.cons d2 .nil), ?_⟩
    cases es : sem [x, y] h with
    | ok z hh =>
      rw [es] at o
      cases z with
      | bl b =>
        intro G' H' v x' r' d'
        cases d'
        exact ⟨b, rfl, o G' H' _ x' r' .bl⟩
      | _ => exact o.elim
    | exc c es' hh => rw [es] at o; exact o.elim
    | stk => rw [es] at o; exact o.elim
  · rw [if_neg hc] at o
    exact .inr (os_neO hcl _ _ _ _ _ _ _ _ _ _ r d1 d2 o)
/-! keyword-only defaults -/
theorem kwd_all {K : PySem.W.Frag} {D : Addr} : ∀ {ms : List (Str × L3.D)}, (ms.all fun q => (match PySem.W.nsIn K D q.1 with
      | some (some u) => cstB K q.2 u
      | _ => false)) = true → ∃ (dvs : List V) (us : List Value), us.length = ms.length ∧ (∀ T, Dfl K T (ms.map (·.2)) dvs us) ∧ ∀ q ∈ (ms.map (·.1)).zip us, PySem.W.nsIn K D q.1 = some (some q.2)
  | [], _ => ⟨[], [], rfl, fun T => .nil, fun q hq => by cases hq⟩
  | m :: ms, h => by
    rw [List.all_cons] at h
    obtain ⟨h1, h2⟩ := two h
    obtain ⟨dvs, us, l, dd, a⟩ := kwd_all (ms := ms) h2
    cases e : PySem.W.nsIn K D m.1 with
    | none => rw [e] at h1; cases h1
    | some o =>
      cases o with
      | none => rw [e] at h1; cases h1
      | some u =>
        rw [e] at h1
        obtain ⟨v, r, k⟩ := cstB_ok _ u h1
        refine ⟨v :: dvs, u :: us, congrArg Nat.succ l, fun T => .cons (k T) r (dd T), fun q hq => ?_⟩
        rcases List.mem_cons.mp (show q ∈ (m.1, u) :: (ms.map (·.1)).zip us from hq) with z | hq
        · rw [z]; exact e
        · exact a q hq
theorem kbpK {K : PySem.W.Frag} {x qual : Str} {params : Arguments} {body : List Stmt} {scope : Scope} {kws : List (Str × V)} {f : Addr} {fd : FuncData} {ps : List Str} (F : FunD K x qual params body scope [] kws f fd) (ms : List (Str × D)) (c : kwdB K f ms = true) (n : Nat) (ks : List Str) (l : List Pk)
    (h : ∀ (D : Addr) (doc pm : Value) (an : Option Addr) (cdv ct : Value) (us mv ws : List Value), us.length = n → mv.length = ms.length → ws.length = ks.length → KwChain D ((ms.map (·.1)).zip mv) (bindArgs (PySem.W.fnOf x qual params body scope .none (.ref D) doc pm an cdv ct) ⟨us, ks.zip ws⟩) (ps.zip (pick us mv ws l))) :
    ∃ (dvs : List V) (mv : List Value), (∀ T, Dfl K T (ms.map (·.2)) dvs mv) ∧ KBp K fd ps n ks mv l := by
  obtain ⟨oc, od, dV, kV, doc, pm, an, cdv, ct, osl, rfl, lk, hcd, hD, hK⟩ := F.ex
  rcases hD with ⟨_, rfl⟩ | ⟨e, _⟩
  · unfold kwdB at c
    rw [lk] at c
    cases kV with
    | ref D =>
      obtain ⟨dvs, mv, hl, dd, hks⟩ := kwd_all (D := D) (ms := ms) c
      exact ⟨dvs, mv, dd, fun s us ws X l1 l2 => BindsTo.of_looks fun M => KwChain.looks X hks (h D doc pm an cdv ct us mv ws l1 hl l2)⟩
    | _ => cases c
  · exact absurd rfl e
end
end L3
set_option autoImplicit false
set_option maxHeartbeats 4000000
/-! L4A: sets of whole numbers by comprehensions, and what sorted makes of them. -/
namespace L3
open PySem PySem.Spec L2 PySem.W PyProof.Rows
section
variable {X : Cx}
/-- a whole number goes into the set at D -/
def addsI (w : World) (D : Addr) (y : V) (H : Hp) (Nx : Hp → Prop) : Prop :=
  ∃ (k : Int) (S : Int → Bool) (n : Nat), y = .int k ∧ H D = some (SetO w D S n) ∧ n + 1 < scanBound ∧ Nx (upd H D (SetO w D (fun j => S j || decide (j = k)) (if S k = true then n else n + 1)))
theorem addsI_run {pins : List (Addr × Obj)} {σ : L2.St} {H : Hp} {s : Shared} {E : Value → Shared → Prop} {D : Addr} {y : V} {z : Value} {Nx : Hp → Prop} {Q : Value → Shared → Prop} (I : Inv X pins σ H s) (ry : RelV y z) (h : addsI X.w D y H Nx) (q : ∀ s' H', Inv X pins σ H' s' → Nx H' → Q .none s') :
    wpAny (model X.prog X.w) X.A (call (.builtin "set.add") [.ref D, z]) Q E s := by
  obtain ⟨k, S, n, rfl, hD, room, nx⟩ := h
  obtain ⟨tk, rfl⟩ := ry
  refine setR_add (setO_get I hD) room fun hp sb nw => q _ _ (I.write (e := D) (t' := s.toks + 1) (by rw [hD]; trivial) (.inl rfl) (fun b u hb hu => (sb.2 b hb).trans hu) ?_ (setO_new nw)) nx
  obtain ⟨o, _, _, _, ho, _⟩ := nw
  exact ⟨o, ho⟩
/-- {e for t in it if ..}, the members whole numbers -/
def tScI (w : World) (wi : TI) (g : TG) (tt : TT) (te : TE) (vs : List Nat) : TE := fun σ H Q => wi σ H fun J H1 => ∀ D, H1 D = none →
  ∃ W : Nat → Nat → Hp → Prop, (∃ m, W 0 m (upd H1 D (SetO w D (fun _ => false) 0))) ∧ ∀ i m H, W i m H → (J.stop i H ∧ Q (.ref D) H) ∨
    (J.go i H ∧ ∃ Nx : Hp → Prop, (∀ H', Nx H' → ∃ m', m' < m ∧ W (i + 1) m' H') ∧ ∀ x H', J.yld i H x H' → g x (wipe σ vs) H' fun σ2 H2 => wipe σ2 vs = wipe σ vs ∧ tt σ2 H2 fun b H3 =>
      if b = true then te σ2 H3 fun y H4 => addsI w D y H4 Nx else Nx H3)
abbrev newS (w : World) : Obj := { cls := .type "set", dict := none, data := .set #[] 0 (.fresh 0 0 (!w.params.followText "set-order")) }
theorem scI_run {pins : List (Addr × Obj)} {s : Shared} {σ : L2.St} {H : Hp} {Q : VK} {elt tg iter : Expr} {ifs : List Expr} {scope : Scope} {own : List (PySem.Str × Nat)} {pos pos' : Pos} {wi : TI} {g : TG} {tt : TT} {te : TE} {use : Option (Value → Sem Unit)} {Qf : Value → Shared → Prop}
    (calm : X.calm = true) (nd : X.N.Nodup) (I : Inv X pins σ H s) (pit : PI X tg iter wi) (ok : BlkOk X.N X.env.scope scope own)
    (pg0 : ∀ (s : Shared) (H : Hp) (C : Addr) (cl : List (PySem.Str × Addr)) (fp : List Addr), PG (X.blk s H scope (compEnvC scope cl C X.env) fp) tg g)
    (pt0 : ∀ (s : Shared) (H : Hp) (C : Addr) (cl : List (PySem.Str × Addr)) (fp : List Addr), PTs (X.blk s H scope (compEnvC scope cl C X.env) fp) ifs tt)
    (pe0 : ∀ (s : Shared) (H : Hp) (C : Addr) (cl : List (PySem.Str × Addr)) (fp : List Addr), PE (X.blk s H scope (compEnvC scope cl C X.env) fp) elt te)
    (fold : ∀ x, foldedSetIterable iter X.env x = pure x) (h : tScI X.w wi g tt te (own.map (·.2)) σ H Q)
    (back : ∀ D C s' m H', Inv X pins σ H' s' → Q (.ref D) H' → s'.heap.Ns C m → FpOk X pins H' C → compPost (model X.prog X.w) X.A X.xe use Qf (.ref D) C (.ok .next) s') :
    wpAny (model X.prog X.w) X.A
      (comprehension (.SetComp elt [⟨tg, iter, ifs, 0⟩] scope pos) scope X.env pos' (newSet (.type "set")) false (eval iter X.env) use) Qf X.xe s := by
  have cellsOk : ∀ y ∈ scope.names, y.2 = .free → ∃ c, X.env.cells.lookup y.1 = some c := fun y hy e => (ok.free y hy e).elim (fun k => I.ok.has _ (.inl k)) fun k => I.ok.has _ (.inr k)
  refine wpAny_comprehension_free (use := use) rfl fold (closure_ok cellsOk) ok.kind (fun y hy e => by rw [ok.uniq y hy, e]) ?_
  refine thn (pit.run pins s σ H _ I h) fun x0 sA hA => thn hA fun itv sB ⟨it, fp, tn, J, HB, e, IB, T, stB, fB, q⟩ => ?_
  subst e
  refine PpSet.newSet_ok (newEnv_comp ?_)
  -- the set, at the heap's end
  generalize hD : sB.heap.objs.size = D
  obtain ⟨W, ⟨m0, w0⟩, turn⟩ := q D (IB.hok.fresh (Nat.le_of_eq hD))
  generalize hC : ({ sB with heap := sB.heap.push (newS X.w) } : Shared) = sC
  have heapC : sC.heap = sB.heap.push (newS X.w) := by rw [← hC]
  have IC : Inv X pins σ (upd HB D (SetO X.w D (fun _ => false) 0)) sC := by
    rw [← hC]
    refine IB.laid (t' := sB.toks) (fun b o z => Heap.get?_push_of_some _ z) (Nat.le_of_eq hD) ?_
    rw [← hD]
    exact setO_new (setR_fresh X.w)
  have small : ∀ b ∈ fp, b < sB.heap.objs.size := fun b hb => by
    obtain ⟨o, z, _⟩ := T.obj _ _ stB b hb
    exact Heap.lt_size z
  have fC : ∀ b ∈ fp, FpOk X pins (upd HB D (SetO X.w D (fun _ => false) 0)) b ∧ b < sC.heap.objs.size := fun b hb => by
    have lt := small b hb
    have ne : b ≠ D := by rw [← hD]; exact Nat.ne_of_lt lt
    exact ⟨⟨by rw [upd_ne ne]; exact (fB b hb).1, (fB b hb).2⟩, by rw [heapC, Heap.size_push]; exact Nat.lt_succ_of_lt lt⟩
  have stC : tn 0 sC.heap := T.keep _ _ _ stB fun b _ o z => by rw [heapC]; exact Heap.get?_push_of_some _ z
  have ID := block_start IC ok nd fC
  generalize hHC : upd HB D (SetO X.w D (fun _ => false) 0) = HC at IC ID w0 fC
  have noFp : ∀ b ∈ fp, HC b = none := fun b hb => (fC b hb).1.1
  generalize hcl : cellsFrom (sC.heap.objs.size + 1) scope.names (cloFrom X.env.cells scope.names []) = cl at ID
  have PGx := pg0 sC HC sC.heap.objs.size cl fp
  have PTx := pt0 sC HC sC.heap.objs.size cl fp
  have PEx := pe0 sC HC sC.heap.objs.size cl fp
  show codeAny (model X.prog X.w) X.A (.compStart (.SetComp elt [⟨tg, iter, ifs, 0⟩] scope pos) 0 (.ref it) (.ref D) (compEnvC scope cl sC.heap.objs.size X.env)) (compPost (model X.prog X.w) X.A X.xe use Qf (.ref D) sC.heap.objs.size) ({ sC with heap := pushCells (sC.heap.push { cls := .type "dict", data := .dict #[] }) scope.names } : Shared)
  generalize hce : compEnvC scope cl sC.heap.objs.size X.env = ce at ID PGx PTx PEx ⊢
  have locals_ : ce.locals = sC.heap.objs.size := by subst hce; rfl
  generalize hsD : ({ sC with heap := pushCells (sC.heap.push { cls := .type "dict", data := .dict #[] }) scope.names } : Shared) = sD at ID ⊢
  have stD : tn 0 sD.heap := T.keep _ _ _ stC fun b _ o z => by rw [← hsD]; exact pushCells_keeps _ _ _ _ (Heap.get?_push_of_some _ z)
  have stays : ∀ {τ : L2.St} {H' : Hp} {s' : Shared}, Inv (X.blk sC HC scope ce fp) [] τ H' s' → (∀ b ∈ fp, H' b = none) → ∀ b ∈ fp, FpOk (X.blk sC HC scope ce fp) [] H' b := fun Ib hn b hb =>
    ⟨hn b hb, (Ib.ok.exf b hb).1, Ib.ok.exfs b hb, .inl hb, fun x c z => (Ib.ok.exf b hb).2 x c z, fun p hp => by simp at hp⟩
  have walk : codeAny (model X.prog X.w) X.A (.compLoop (.SetComp elt [⟨tg, iter, ifs, 0⟩] scope pos) 0 (.ref it) (.ref D) ce) (compPost (model X.prog X.w) X.A X.xe use Qf (.ref D) sC.heap.objs.size) sD := by
    refine PpSet.compLoopS_any (fun n s' => ∃ i H', Inv (X.blk sC HC scope ce fp) [] (wipe σ (own.map (·.2))) H' s' ∧ tn i s'.heap ∧ (∀ b ∈ fp, H' b = none) ∧ W i n H') ?_ m0 ⟨0, HC, ID, stD, noFp, w0⟩
    rintro n sE ⟨i, HE, IE, stE, nE, wE⟩
    rcases turn i n HE wE with ⟨stop, done⟩ | ⟨go, Nx, less, step⟩
    · refine thnF (T.done (X.blk sC HC scope ce fp) rfl rfl rfl calm i [] sE _ HE (fun _ _ => False) IE (stays IE nE) stE stop) fun r s6 ⟨hr, I6⟩ => ?_
      subst hr
      have I7 : Inv X pins σ HE s6 := IC.call' (ch := fp) I6.os I6.base I6.hok I6.bare fun b hb => by
        obtain ⟨_, z1, _, z3, z4, z5⟩ := (fC b hb).1
        exact ⟨z3, z1, z4, z5⟩
      have free := I6.free
      obtain ⟨m, ns, _⟩ := I6.loc
      have free : HE ce.locals = none := free
      have ns : s6.heap.Ns ce.locals m := ns
      rw [locals_] at free ns
      exact back D sC.heap.objs.size s6 m HE I7 done ns (IC.fpOk (Nat.le_refl _) free)
    · refine thnF (T.item (X.blk sC HC scope ce fp) rfl rfl rfl calm i [] sE _ HE (fun _ _ => False) IE (stays IE nE) stE go) fun r s6 ⟨u, hr, h6⟩ => ?_
      subst hr
      refine thnF h6 fun _ s7 ⟨x, H7, I7, r7, y7, st7, nF⟩ => ?_
      have IP := I7.pinned (stays I7 nF) (T.obj _ _ st7)
      refine thnF (PGx.run _ s7 _ H7 x u _ IP r7 (step x H7 y7)) fun _ s8 ⟨σ8, H8, I8, keepW, q8⟩ => ?_
      refine thnF (PTx.run _ s8 σ8 H8 _ I8 q8) fun b s9 ⟨H9, I9, q9⟩ => ?_
      have next : ∀ {s' : Shared} {H' : Hp}, Inv (X.blk sC HC scope ce fp) ([] ++ pinsAt fp s7.heap) σ8 H' s' → Nx H' → ∃ m, m < n ∧ ∃ i H', Inv (X.blk sC HC scope ce fp) [] (wipe σ (own.map (·.2))) H' s' ∧ tn i s'.heap ∧ (∀ b ∈ fp, H' b = none) ∧ W i m H' := fun {s' H'} Iq nx => by
        obtain ⟨m', lt, w'⟩ := less H' nx
        have pin : ∀ b ∈ fp, ∀ o, s7.heap.get? b = some o → s'.heap.get? b = some o ∧ H' b = none := fun b hb o z => by
          have := Iq.pin (b, o) (List.mem_append_right _ (List.mem_append_right _ (mem_pinsAt hb z)))
          exact ⟨this.1, this.2.1⟩
        refine ⟨m', lt, i + 1, H', (Iq.unpinned (pins := [])).weak ?_ fun j v z => ?_, T.keep _ _ _ st7 fun b hb o z => (pin b hb o z).1, fun b hb => ?_, w'⟩
        · rw [← keepW]; exact wipe_length ..
        · rw [← keepW] at z; exact (wipe_some z).1
        · obtain ⟨o, z, _⟩ := T.obj _ _ st7 b hb
          exact (pin b hb o z).2
      cases b with
      | false => rw [if_neg (by simp)] at q9 ⊢; exact next I9 q9
      | true =>
        rw [if_pos rfl] at q9 ⊢
        exact thnF (PEx.run _ s9 σ8 H9 _ I9 q9) fun z s10 ⟨yv, H10, I10, r10, ad⟩ => addsI_run (X := X.blk sC HC scope ce fp) I10 r10 ad fun s' H' I' nx => next I' nx
  exact PpSet.codeAny_compStart_set walk (T.self X.A 0 _ _ _ stD walk)
theorem pe_scI {elt tg iter : Expr} {ifs : List Expr} {scope : Scope} {own : List (PySem.Str × Nat)} {pos : Pos} {wi : TI} {g : TG} {tt : TT} {te : TE} (calm : X.calm = true) (nd : X.N.Nodup) (pit : PI X tg iter wi) (ok : BlkOk X.N X.env.scope scope own)
    (pg0 : ∀ (s : Shared) (H : Hp) (C : Addr) (cl : List (PySem.Str × Addr)) (fp : List Addr), PG (X.blk s H scope (compEnvC scope cl C X.env) fp) tg g)
    (pt0 : ∀ (s : Shared) (H : Hp) (C : Addr) (cl : List (PySem.Str × Addr)) (fp : List Addr), PTs (X.blk s H scope (compEnvC scope cl C X.env) fp) ifs tt)
    (pe0 : ∀ (s : Shared) (H : Hp) (C : Addr) (cl : List (PySem.Str × Addr)) (fp : List Addr), PE (X.blk s H scope (compEnvC scope cl C X.env) fp) elt te)
    (fold : ∀ x, foldedSetIterable iter X.env x = pure x := by intro _; rfl) : PE X (.SetComp elt [⟨tg, iter, ifs, 0⟩] scope pos) (tScI X.w wi g tt te (own.map (·.2))) :=
  ⟨fun pins s σ H Q I h => by
    rw [PpSet.eval_SetComp]
    exact scI_run calm nd I pit ok pg0 pt0 pe0 fold h fun D C s' m H' I' q ns f => ⟨m, ns, fun h'' sb => ⟨.ref D, H', I'.turned (t' := s'.toks) (fun b o hb z => (sb.2 b hb).trans z) f.1 f.2.1 f.2.2.2.1 f.2.2.2.2.1 f.2.2.2.2.2, rfl, q⟩⟩⟩
end
/-! in order, each once -/
def insU (k : Int) : List Int → List Int
  | [] => [k]
  | x :: l => if k < x then k :: x :: l else if k = x then x :: l else x :: insU k l
def sortU : List Int → List Int
  | [] => []
  | k :: l => insU k (sortU l)
theorem mem_insU {j k : Int} : ∀ {l : List Int}, j ∈ insU k l ↔ j = k ∨ j ∈ l
  | [] => by simp [insU]
  | x :: l => by
    unfold insU
    split
    · simp
    · split
      · rename_i e; subst e; simp
      · simp only [List.mem_cons, mem_insU (l := l)]
        constructor
        · rintro (h | h | h) <;> simp [h]
        · rintro (h | h | h) <;> simp [h]
theorem mem_sortU {j : Int} : ∀ {l : List Int}, j ∈ sortU l ↔ j ∈ l
  | [] => by simp [sortU]
  | k :: l => by rw [sortU, mem_insU, mem_sortU (l := l), List.mem_cons]
theorem pw_insU {k : Int} : ∀ {l : List Int}, l.Pairwise (· < ·) → (insU k l).Pairwise (· < ·)
  | [], _ => by simp [insU]
  | x :: l, p => by
    obtain ⟨p1, p2⟩ := List.pairwise_cons.mp p
    unfold insU
    split
    · rename_i e
      refine List.pairwise_cons.mpr ⟨fun y hy => ?_, p⟩
      rcases List.mem_cons.mp hy with rfl | hy
      · exact e
      · exact Int.lt_trans e (p1 y hy)
    · split
      · exact p
      · rename_i e1 e2
        refine List.pairwise_cons.mpr ⟨fun y hy => ?_, pw_insU p2⟩
        rcases mem_insU.mp hy with rfl | hy
        · omega
        · exact p1 y hy
theorem pw_sortU : ∀ l : List Int, (sortU l).Pairwise (· < ·)
  | [] => .nil
  | k :: l => pw_insU (pw_sortU l)
theorem sortU_uniq : ∀ {a b : List Int}, a.Pairwise (· < ·) → b.Pairwise (· < ·) → (∀ k, k ∈ a ↔ k ∈ b) → a = b
  | [], [], _, _, _ => rfl
  | [], y :: b, _, _, h => by have := (h y).mpr (by simp); simp at this
  | x :: a, [], _, _, h => by have := (h x).mp (by simp); simp at this
  | x :: a, y :: b, p, q, h => by
    obtain ⟨p1, p2⟩ := List.pairwise_cons.mp p
    obtain ⟨q1, q2⟩ := List.pairwise_cons.mp q
    have e : x = y := by
      rcases List.mem_cons.mp ((h x).mp (by simp)) with e | h1
      · exact e
      · rcases List.mem_cons.mp ((h y).mpr (by simp)) with e | h2
        · exact e.symm
        · have := p1 y h2; have := q1 x h1; omega
    subst e
    rw [sortU_uniq p2 q2 fun k => ?_]
    constructor
    · intro hk
      rcases List.mem_cons.mp ((h k).mp (by simp [hk])) with e | h1
      · subst e; exact absurd (p1 k hk) (Int.lt_irrefl _)
      · exact h1
    · intro hk
      rcases List.mem_cons.mp ((h k).mpr (by simp [hk])) with e | h1
      · subst e; exact absurd (q1 k hk) (Int.lt_irrefl _)
      · exact h1
/-! sorted({..}) -/
def kSortS (xs : List D) (h : Hh) : R D := match intsOf xs with
  | some ks => if ks.length < 64 then .ok (.lst ((sortU ks).map D.int)) h else .stk
  | none => .stk
def eSortS (f : FnW) (g : FnG) (t : FnT) (e : FnE) (own : List Nat) : FnE := fun δ h => (f δ h).bind fun w h1 => (lcW g t e (wipeD δ own) w h1).bind kSortS
theorem intsOf_is : ∀ {xs : List D} {ks : List Int}, intsOf xs = some ks → xs = ks.map D.int
  | [], ks, e => by cases e; rfl
  | x :: xs, ks, e => by
    cases x with
    | int i =>
      unfold intsOf at e
      cases q : intsOf xs with
      | none => rw [q] at e; cases e
      | some l => rw [q] at e; cases e; rw [intsOf_is q]; rfl
    | _ => cases e
theorem intsOf_map : ∀ ks : List Int, intsOf (ks.map D.int) = some ks
  | [] => rfl
  | k :: ks => by
    show (intsOf (ks.map D.int)).map (k :: ·) = _
    rw [intsOf_map ks]; rfl
theorem rds_ints {K : PySem.W.Frag} {T : Tx} {G : Gst} : ∀ ks : List Int, RDs K T G (ks.map D.int) (ks.map V.int)
  | [] => .nil
  | k :: ks => .cons .int (rds_ints ks)
structure ScAt (K : PySem.W.Frag) (T : Tx) (w : World) (G1 : Gst) (p : Addr) (G : Gst) (acc : List Int) (h : Hh) (H : Hp) : Prop where
  ι : ∃ t, G.ι = G1.ι ++ t
  fz : ∀ a o, G1.fz a = some o → G.fz a = some o
  pr : ∃ S n, G.pr = upd G1.pr p (SetO w p S n) ∧ (∀ k, S k = true ↔ k ∈ acc) ∧ n ≤ acc.length
  rel : Rel K T G h H
theorem ScAt.step {K : PySem.W.Frag} {T : Tx} {w : World} {G1 G G' : Gst} {p : Addr} {acc : List Int} {h h' : Hh} {H H' : Hp} (l : ScAt K T w G1 p G acc h H) (x : Ext G G') (r : Rel K T G' h' H') : ScAt K T w G1 p G' acc h' H' := by
  obtain ⟨t, e⟩ := l.ι
  obtain ⟨u, e'⟩ := x.ι
  exact ⟨⟨t ++ u, by rw [e', e, List.append_assoc]⟩, fun a o q => x.fz a o (l.fz a o q), by rw [x.pr]; exact l.pr, r⟩
section
variable {X : Cx} {T : Tx} {W : WX} {pos : Pos}
theorem tE_sortS {f : FnW} {is : List Nat} {g : FnG} {t : FnT} {e : FnE} {own : List (Str × Nat)} (hin : ∀ i ∈ is, i ∈ own.map (·.2)) {σ : L2.St} {H : Hp} {Q : VK} (hh : tE X.K T W (eSortS f g t e (own.map (·.2))) σ H Q) :
    tScI X.w (tW4 X.K T W f) (tG X.K T is g) (tT X.K T W0 t) (tE X.K T W0 e) (own.map (·.2)) σ H fun v H1 => rSortedSet X.w [v] H1 Q := by
  obtain ⟨G, h0, δ, r, s, o⟩ := hh
  refine ⟨G, h0, δ, r, s, (okR.bind (rel := fun G w J => Walk4 X.K T J G w) o).mono ?_⟩
  rintro J H1 ⟨G1, wk, h1, e1, r1, w, o1⟩
  obtain ⟨k0, ek0⟩ := lcW_is g t e (wipeD δ (own.map (·.2))) wk h1
  rw [ek0] at o1
  intro Dn hD
  have s1 := (s.mono e1).wipe (own.map (·.2))
  refine ⟨fun i m H' => ∃ G2 h2 acc, ScAt X.K T X.w G1 Dn G2 acc h2 H' ∧ okR X.K T W G1 σ (RD X.K T) ((lcsN g t e (wipeD δ (own.map (·.2))) wk m i h2).bind fun ys h3 => kSortS (acc.map D.int ++ ys) h3) Q,
    ⟨k0, G1.guard Dn (SetO X.w Dn (fun _ => false) 0), h1, [], ⟨⟨[], by simp [Gst.guard]⟩, fun _ _ q => q, ⟨_, _, rfl, fun k => by simp, Nat.le_refl _⟩, r1.guard hD⟩, o1⟩, ?_⟩
  rintro i m H' ⟨G2, h2, acc, l, o2⟩
  have x02 : Ext0 G1 G2 := ⟨l.ι, l.fz⟩
  cases m with
  | zero => exact o2.elim
  | succ k =>
  unfold lcsN at o2
  cases ek : look wk h2 with
  | none => rw [ek] at o2; exact o2.elim
  | some items =>
  rw [ek] at o2
  dsimp only at o2
  cases ed : items[i]? with
  | some d0 =>
    rw [ed] at o2
    dsimp only at o2
    refine .inr ?_
    obtain ⟨go, yl⟩ := (w i G2 h2 H' items x02 l.rel ek).1 _ ed
    refine ⟨go, fun H3 => ∃ m', m' < k + 1 ∧ ∃ G2 h2 acc, ScAt X.K T X.w G1 Dn G2 acc h2 H3 ∧ okR X.K T W G1 σ (RD X.K T) ((lcsN g t e (wipeD δ (own.map (·.2))) wk m' (i + 1) h2).bind fun ys h3 => kSortS (acc.map D.int ++ ys) h3) Q,
      fun H3 ⟨m', a, b⟩ => ⟨m', a, b⟩, fun x H3 y => ?_⟩
    obtain ⟨G3, e3, r3, d3⟩ := yl x H3 y
    have l3 := l.step e3 r3
    have s3 : RSl X.K T G3 (wipeD δ (own.map (·.2))) (L2.wipe σ (own.map (·.2))) := ⟨s1.len, fun j d q => let ⟨v, a, b⟩ := s1.at_ j d q; ⟨v, a, b.mono0 ⟨l3.ι, l3.fz⟩⟩⟩
    cases eg : g d0 (wipeD δ (own.map (·.2))) with
    | none => rw [eg] at o2; exact o2.elim
    | some δ3 =>
      rw [eg] at o2
      dsimp only at o2
      refine ⟨G3, h2, _, d0, δ3, r3, s3, d3, eg, fun σ4 s4 so => ⟨wipe_same so hin, G3, h2, δ3, r3, s4, ?_⟩⟩
      cases et : t δ3 h2 with
      | stk => rw [et] at o2; exact o2.elim
      | exc c ds h' => rw [et] at o2; exact o2.elim
      | ok b h3 =>
        rw [et] at o2
        dsimp only at o2
        intro G4 H4 b' x4 r4 eb
        have eb' : b = b' := eb
        subst eb'
        have l4 := l3.step x4 r4
        cases b with
        | false =>
          rw [if_neg Bool.false_ne_true] at o2 ⊢
          exact ⟨k, by omega, G4, h3, acc, l4, o2⟩
        | true =>
          rw [if_pos rfl] at o2 ⊢
          refine ⟨G4, h3, δ3, r4, s4.mono x4, ?_⟩
          cases ee : e δ3 h3 with
          | stk => rw [ee] at o2; exact o2.elim
          | exc c ds h' => rw [ee] at o2; exact o2.elim
          | ok y h4 =>
            rw [ee] at o2
            dsimp only at o2
            intro G5 H5 v x5 r5 d5
            have l5 := l4.step x5 r5
            -- it is a whole number, and there are few
            have key : ∃ c : Int, y = .int c ∧ acc.length < 64 := by
              cases el : lcsN g t e (wipeD δ (own.map (·.2))) wk k (i + 1) h4 with
              | stk => rw [el] at o2; exact o2.elim
              | exc c ds h' => exact absurd el (lcsN_exc _ _ _ _ _ _ _ _ _ _ _)
              | ok ys h5 =>
                rw [el] at o2
                have o3 : okR X.K T W G1 σ (RD X.K T) (kSortS (acc.map D.int ++ y :: ys) h5) Q := o2
                unfold kSortS at o3
                cases ei : intsOf (acc.map D.int ++ y :: ys) with
                | none => rw [ei] at o3; exact o3.elim
                | some ks =>
                  rw [ei] at o3
                  dsimp only at o3
                  by_cases hl : ks.length < 64
                  · have em := intsOf_is ei
                    have lk : acc.length + (ys.length + 1) = ks.length := by
                      have := congrArg List.length em
                      simpa using this
                    have my : y ∈ ks.map D.int := by rw [← em]; simp
                    obtain ⟨c, _, ec⟩ := List.mem_map.mp my
                    exact ⟨c, ec.symm, by omega⟩
                  · rw [if_neg hl] at o3; exact o3.elim
            obtain ⟨c, rfl, hacc⟩ := key
            cases d5
            obtain ⟨S, n, ep, hS, hn⟩ := l5.pr
            have hpr : G5.pr Dn = some (SetO X.w Dn S n) := by rw [ep, upd_same]
            obtain ⟨q1, q2, q3⟩ := r5.pr Dn _ hpr
            refine ⟨c, S, n, rfl, q1, Nat.lt_of_lt_of_le (show n + 1 < 66 by omega) (by decide), k, by omega, { G5 with pr := upd G5.pr Dn (SetO X.w Dn (fun j => S j || decide (j = c)) (if S c = true then n else n + 1)) }, h4, acc ++ [c], ⟨l5.ι, l5.fz, ⟨fun j => S j || decide (j = c), (if S c = true then n else n + 1), ?_, fun j => ?_, ?_⟩, r5.reguard hpr⟩, ?_⟩
            · show upd G5.pr Dn _ = upd G1.pr Dn _
              rw [ep, upd_upd]
            · rw [Bool.or_eq_true, decide_eq_true_eq, hS j, List.mem_append, List.mem_singleton]
            · rw [List.length_append]
              split
              · show n ≤ _; omega
              · show n + 1 ≤ acc.length + 1; omega
            · have ea : ∀ (rr : R (List D)), ((rr.bind fun ys h3 => R.ok (D.int c :: ys) h3).bind fun ys h3 => kSortS (acc.map D.int ++ ys) h3) = rr.bind fun ys h3 => kSortS ((acc ++ [c]).map D.int ++ ys) h3 := fun rr => by
                cases rr with
                | ok a b => show kSortS (acc.map D.int ++ .int c :: a) b = kSortS ((acc ++ [c]).map D.int ++ a) b; rw [List.map_append, List.append_assoc]; rfl
                | exc _ _ _ => rfl
                | stk => rfl
              rw [ea] at o2
              exact o2
  | none =>
    rw [ed] at o2
    dsimp only at o2
    by_cases hend : i = items.length
    case neg => rw [if_neg hend] at o2; exact o2.elim
    rw [if_pos hend] at o2
    refine .inl ⟨(w i G2 h2 H' items x02 l.rel ek).2 hend, ?_⟩
    have o3 : okR X.K T W G1 σ (RD X.K T) (kSortS (acc.map D.int ++ []) h2) Q := o2
    rw [List.append_nil] at o3
    unfold kSortS at o3
    rw [intsOf_map] at o3
    dsimp only at o3
    by_cases hl : acc.length < 64
    · rw [if_pos hl] at o3
      obtain ⟨S, n, ep, hS, hn⟩ := l.pr
      have hpr : G2.pr Dn = some (SetO X.w Dn S n) := by rw [ep, upd_same]
      have pn : G1.pr Dn = none := by
        cases z : G1.pr Dn with
        | none => rfl
        | some u => have := (r1.pr Dn u z).1; rw [hD] at this; cases this
      obtain ⟨q1, q2, q3⟩ := l.rel.pr Dn _ hpr
      have hpr0 : ∀ a u, G1.pr a = some u → a ≠ Dn ∧ G2.pr a = some u := fun a u z => by
        have na : a ≠ Dn := fun y => by rw [y, pn] at z; cases z
        exact ⟨na, by rw [ep, upd_ne na]; exact z⟩
      have ru := l.rel.unguard hpr hpr0
      have xu : Ext G1 { G2 with pr := G1.pr, fz := upd G2.fz Dn (SetO X.w Dn S n) } := ⟨l.ι, fun a u z => by
        have na : a ≠ Dn := fun y => by
          have := l.fz a u z
          rw [y, q2] at this; cases this
        show upd G2.fz Dn (SetO X.w Dn S n) a = some u
        rw [upd_ne na]; exact l.fz a u z, rfl⟩
      refine ⟨Dn, S, n, rfl, q1, by omega, fun ns p pw mem _ hp => ?_⟩
      have en : ns = sortU acc := sortU_uniq pw (pw_sortU acc) fun k => by rw [mem, hS, mem_sortU]
      subst en
      exact newLst ru (rds_ints _) hp (o3.ext xu)
    · rw [if_neg hl] at o3; exact o3.elim
theorem fe_sortS {elt tg iter : Expr} {ifs : List Expr} {scope : Scope} {own : List (Str × Nat)} {f : FnW} {is : List Nat} {g : FnG} {t : FnT} {e : FnE} {p ps : Pos} (hG : Gl X "sorted") (hM : X.mg "sorted" = none) (hc : X.calm = true) (hN : X.N.Nodup) (hi : FWk X T W tg iter f) (ok : BlkOk X.N X.env.scope scope own)
    (hg : ∀ (s : Shared) (H : Hp) (C : Addr) (cl : List (Str × Addr)) (fp : List Addr), FG (X.blk s H scope (compEnvC scope cl C X.env) fp) T tg is g) (ht : ∀ (s : Shared) (H : Hp) (C : Addr) (cl : List (Str × Addr)) (fp : List Addr), FTs (X.blk s H scope (compEnvC scope cl C X.env) fp) T W0 ifs t)
    (he : ∀ (s : Shared) (H : Hp) (C : Addr) (cl : List (Str × Addr)) (fp : List Addr), FE (X.blk s H scope (compEnvC scope cl C X.env) fp) T W0 elt e) (hin : ∀ i ∈ is, i ∈ own.map (·.2)) (hs : ∀ x, foldedSetIterable iter X.env x = pure x := by intro _; rfl)
    (hst : starEach [.SetComp elt [⟨tg, iter, ifs, 0⟩] scope ps] X.env = (false, eval (.SetComp elt [⟨tg, iter, ifs, 0⟩] scope ps) X.env) :: starEach [] X.env := by rfl) (hpl : (backTo pos (starEach [] X.env)).any (·.1) = false := by rfl) :
    FE X T W (.Call (.Name "sorted" p) [.SetComp elt [⟨tg, iter, ifs, 0⟩] scope ps] [] pos) (eSortS f g t e (own.map (·.2))) :=
  PE.imp (pe_callB (cr_sortedSet hc) hG hM rfl (pa_cons (pe_scI hc hN hi ok hg ht he hs) pa_nil hst) (by decide) (by decide) hst hpl) fun _ _ _ hh => tE_sortS hin hh
end
end L3
set_option autoImplicit false
set_option maxHeartbeats 4000000
/-! L4B: three comparisons in a row; sorted and len(set(..)) of a list of whole numbers. -/
namespace L3
open PySem PySem.Spec L2 PySem.W PyProof.Rows
/-! a op b op c op d -/
section
variable {X : Cx} {T : Tx} {W : WX} {pos : Pos}
/-- what stands behind the first answer -/
def tMore (r : R2) (tb : TE) (k : V → Hp → VK → Prop) : V → L2.St → Hp → VK → Prop := fun x σ H Q => tb σ H fun y H1 => r x y H1 fun z H2 => ∃ b, z = .bl b ∧ (if b = true then k y H2 Q else Q (.bl false) H2)
def tChain3 (r r' r'' : R2) (ta tb tc td : TE) : TE := fun σ H Q => ta σ H fun x H1 => tMore r tb (fun y H2 Q => tMore r' tc (fun z H3 Q => td σ H3 fun w H4 => r'' z w H4 Q) y σ H2 Q) x σ H1 Q
theorem pe_chain3 {o1 o2 o3 : CmpOp} {r r' r'' : R2} {a b c d : Expr} {ta tb tc td : TE} (h1 : OpR X (compareOp o1) r) (h2 : OpR X (compareOp o2) r') (h3 : OpR X (compareOp o3) r'') (pa : PE X a ta) (pb : PE X b tb) (pc : PE X c tc) (pd : PE X d td) (hm : lastMarks [o1, o2, o3] [b, c, d] = false) :
    PE X (.Compare a [o1, o2, o3] [b, c, d] pos) (tChain3 r r' r'' ta tb tc td) := by
  refine ⟨fun pins s σ H Q I h => Compare_chain (thn (pa.run pins s σ H _ I h) fun v s1 ⟨x, Ha, Ia, ra, qa⟩ => ?_) hm⟩
  refine chain_link (thn (pb.run pins s1 σ Ha _ Ia qa) fun u s2 ⟨y, Hb, Ib, rb, qb⟩ => thn (h1 pins s2 σ Hb x y v u _ Ib ra rb qb) fun e s3 ⟨z, Hc, Ic, rc, k, ez, qc⟩ => ?_)
  subst ez
  cases rc
  refine wpAny_truthy_bool ?_
  cases k with
  | false => exact ite_ff ⟨.bl false, Hc, Ic, rfl, qc⟩
  | true =>
    refine ite_tt (chain_link (thn (pc.run pins s3 σ Hc _ Ic qc) fun u2 s4 ⟨y2, Hd, Id, rd, qd⟩ => thn (h2 pins s4 σ Hd y y2 u u2 _ Id rb rd qd) fun e2 s5 ⟨z2, He, Ie, re, k2, ez2, qe⟩ => ?_))
    subst ez2
    cases re
    refine wpAny_truthy_bool ?_
    cases k2 with
    | false => exact ite_ff ⟨.bl false, He, Ie, rfl, qe⟩
    | true => exact ite_tt (chain_last (thn (pd.run pins s5 σ He _ Ie qe) fun u3 s6 ⟨y3, Hf, If, rf, qf⟩ => h3 pins s6 σ Hf y2 y3 u2 u3 Q If rd rf qf))
def kMore (g : F2) (x : D) (k : D → Hh → R D) (y : D) (h : Hh) : R D := (g x y h).bind fun z h1 => match z with
  | .bl true => k y h1
  | .bl false => .ok (.bl false) h1
  | _ => .stk
def eChain3 (g g' g'' : F2) (fa fb fc fd : FnE) : FnE := fun δ h => (fa δ h).bind fun x h1 => (fb δ h1).bind fun y h2 => kMore g x (fun y h3 => (fc δ h3).bind fun z h4 => kMore g' y (fun z h5 => (fd δ h5).bind fun w h6 => g'' z w h6) z h4) y h2
theorem more_ok {r : R2} {g : F2} (hs : OpS X T r g) {G : Gst} {h : Hh} {H : Hp} {σ : L2.St} {x y : D} {v w : V} {Q : VK} {k : D → Hh → R D} {K : V → Hp → VK → Prop} (rl : Rel X.K T G h H) (dx : RD X.K T G x v) (dy : RD X.K T G y w) (o : okR X.K T W G σ (RD X.K T) (kMore g x k y h) Q)
    (hk : ∀ G' h' H', Ext G G' → Rel X.K T G' h' H' → okR X.K T W G' σ (RD X.K T) (k y h') Q → K w H' Q) : r v w H fun z H2 => ∃ b, z = .bl b ∧ (if b = true then K w H2 Q else Q (.bl false) H2) := by
  refine hs W G h H σ x y v w _ rl dx dy ((okR.bind (rel := RD X.K T) o).mono ?_)
  rintro z H2 ⟨G2, z', h2, e2, r2, d2, o2⟩
  cases d2 with
  | @bl b =>
    refine ⟨b, rfl, ?_⟩
    cases b with
    | false => exact okR.at o2 r2 .bl
    | true => exact hk G2 h2 H2 e2 r2 o2
  | _ => exact o2.elim
theorem fe_chain3 {o1 o2 o3 : CmpOp} {r r' r'' : R2} {g g' g'' : F2} {a b c d : Expr} {fa fb fc fd : FnE} (h1 : OpR X (compareOp o1) r) (h2 : OpR X (compareOp o2) r') (h3 : OpR X (compareOp o3) r'') (k1 : OpS X T r g) (k2 : OpS X T r' g') (k3 : OpS X T r'' g'') (hm : lastMarks [o1, o2, o3] [b, c, d] = false)
    (ha : FE X T W a fa) (hb : FE X T W b fb) (hc : FE X T W c fc) (hd : FE X T W d fd) : FE X T W (.Compare a [o1, o2, o3] [b, c, d] pos) (eChain3 g g' g'' fa fb fc fd) := by
  refine PE.imp (pe_chain3 h1 h2 h3 ha hb hc hd hm) fun σ H Q => ?_
  rintro ⟨G, h0, δ, r, s, o⟩
  refine ⟨G, h0, δ, r, s, (okR.bind (rel := RD X.K T) o).mono ?_⟩
  rintro v H1 ⟨G1, x, h1, e1, r1, d1, p1⟩
  refine ⟨G1, h1, δ, r1, s.mono e1, (okR.bind (rel := RD X.K T) p1).mono ?_⟩
  rintro w H2 ⟨G2, y, h2, e2, r2, d2, p2⟩
  refine more_ok (K := fun y H2 Q => tMore r' (tE X.K T W fc) (fun z H3 Q => tE X.K T W fd σ H3 fun w H4 => r'' z w H4 Q) y σ H2 Q) k1 r2 (d1.mono e2) d2 p2 fun G3 h3 H3 e3 r3 p3 => ?_
  refine ⟨G3, h3, δ, r3, s.mono (e1.trans (e2.trans e3)), (okR.bind (rel := RD X.K T) p3).mono ?_⟩
  rintro u H4 ⟨G4, z, h4, e4, r4, d4, p4⟩
  refine more_ok (K := fun z H3 Q => tE X.K T W fd σ H3 fun w H4 => r'' z w H4 Q) k2 r4 (d2.mono (e3.trans e4)) d4 p4 fun G5 h5 H5 e5 r5 p5 => ?_
  refine ⟨G5, h5, δ, r5, s.mono (e1.trans (e2.trans (e3.trans (e4.trans e5)))), (okR.bind (rel := RD X.K T) p5).mono ?_⟩
  rintro t H6 ⟨G6, q, h6, e6, r6, d6, p6⟩
  exact k3 W G6 h6 H6 σ z q u t Q r6 (d4.mono (e5.trans e6)) d6 p6
end
/-! in order -/
def insI (k : Int) : List Int → List Int
  | [] => [k]
  | x :: l => if k ≤ x then k :: x :: l else x :: insI k l
def sortI : List Int → List Int
  | [] => []
  | k :: l => insI k (sortI l)
theorem insI_perm (k : Int) : ∀ l : List Int, (insI k l).Perm (k :: l)
  | [] => .refl _
  | x :: l => by
    unfold insI
    split
    · exact .refl _
    · exact ((insI_perm k l).cons x).trans (.swap k x l)
theorem sortI_perm : ∀ l : List Int, (sortI l).Perm l
  | [] => .refl _
  | k :: l => (insI_perm k _).trans ((sortI_perm l).cons k)
theorem insI_pw {k : Int} : ∀ {l : List Int}, l.Pairwise (· ≤ ·) → (insI k l).Pairwise (· ≤ ·)
  | [], _ => by simp [insI]
  | x :: l, p => by
    obtain ⟨p1, p2⟩ := List.pairwise_cons.mp p
    unfold insI
    split
    · rename_i e
      refine List.pairwise_cons.mpr ⟨fun y hy => ?_, p⟩
      rcases List.mem_cons.mp hy with rfl | hm
      · exact e
      · exact Int.le_trans e (p1 y hm)
    · rename_i e
      refine List.pairwise_cons.mpr ⟨fun y hy => ?_, insI_pw p2⟩
      rcases List.mem_cons.mp ((insI_perm k l).mem_iff.mp hy) with rfl | hm
      · omega
      · exact p1 y hm
theorem sortI_pw : ∀ l : List Int, (sortI l).Pairwise (· ≤ ·)
  | [] => .nil
  | k :: l => insI_pw (sortI_pw l)
theorem sorted_uniq : ∀ {a b : List Int}, a.Perm b → a.Pairwise (· ≤ ·) → b.Pairwise (· ≤ ·) → a = b
  | [], b, p, _, _ => p.nil_eq
  | x :: a, [], p, _, _ => (p.symm.nil_eq).symm
  | x :: a, y :: b, p, u, v => by
    obtain ⟨u1, u2⟩ := List.pairwise_cons.mp u
    obtain ⟨v1, v2⟩ := List.pairwise_cons.mp v
    have e : x = y := by
      rcases List.mem_cons.mp (p.mem_iff.mp (List.mem_cons_self ..)) with e | h1
      · exact e
      · rcases List.mem_cons.mp (p.mem_iff.mpr (List.mem_cons_self ..)) with e | h2
        · exact e.symm
        · exact Int.le_antisymm (u1 y h2) (v1 x h1)
    subst e
    rw [sorted_uniq (p.cons_inv) u2 v2]
section
variable {X : Cx} {T : Tx} {W : WX} {pos : Pos}
def sortIB : FB := fun ds h => match ds with
  | [x] => match (asL h x).bind intsOf with
    | some ns => .ok (.lst ((sortI ns).map D.int)) h
    | none => .stk
  | _ => .stk
theorem ints_vs {K : PySem.W.Frag} {G : Gst} : ∀ {ns : List Int} {vs : List V}, RDs K T G (ns.map D.int) vs → vs = ns.map V.int
  | [], _, .nil => rfl
  | n :: ns, _, .cons h t => by
    cases h
    rw [ints_vs t]
    rfl
theorem cs_sortI : CallS X T (rSortedI X.K) sortIB := by
  intro W G h H σ ds vs Q r d o
  match ds, vs, d with
  | [], _, _ => exact o.elim
  | _ :: _ :: _, _, _ => exact o.elim
  | [x], [v], .cons d1 .nil =>
    unfold sortIB at o
    dsimp only at o
    cases ex : asL h x with
    | none => rw [ex] at o; exact o.elim
    | some xs =>
      rw [ex, Option.bind_some] at o
      cases ei : intsOf xs with
      | none => rw [ei] at o; exact o.elim
      | some ns =>
        rw [ei] at o
        obtain ⟨a, ws, rfl, q1, q2⟩ := asL_ok r d1 ex
        have := intsOf_is ei
        subst this
        have := ints_vs q2
        subst this
        refine ⟨a, ns, rfl, .inl (.inl q1), fun ns' p pm pw hp => ?_⟩
        have e : ns' = sortI ns := sorted_uniq (pm.trans (sortI_perm ns).symm) pw (sortI_pw ns)
        subst e
        exact newLst r (rds_ints _) hp o
/-! len(set(xs)) -/
def dedI (ns : List Int) : List Int := ns.foldl step_dedup []
theorem firstMet_is (ns : List Int) : firstMet (fun i => ns.getD i 0) ns.length = dedI ns := by
  unfold firstMet dedI
  congr 1
  refine List.ext_getElem (by simp) fun i hi hj => ?_
  simp only [List.getElem_map, List.getElem_range]
  rw [List.getD_eq_getElem?_getD, List.getElem?_eq_getElem hj, Option.getD_some]
def tLenSetA (K : PySem.W.Frag) (ta : TE) : TE := fun σ H Q => ta σ H fun x H1 => ∃ (l : Addr) (ns : List Int), x = .ref l ∧ SqL K H1 l (ns.map V.int) ∧ ns.length ≤ 4000 ∧ Q (.int ((dedI ns).length : Nat)) H1
theorem pe_lenSetA {a : Expr} {ta : TE} {p p2 q pos : Pos} (hg : Gl X "len") (hm : X.mg "len" = none) (hg2 : Gl X "set") (hm2 : X.mg "set" = none) (ha : PE X a ta) (hc : X.calm = true)
    (na : starEach [a] X.env = (false, eval a X.env) :: starEach [] X.env := by rfl) : PE X (.Call (.Name "len" p) [.Call (.Name "set" p2) [a] [] q] [] pos) (tLenSetA X.K ta) := by
  refine ⟨fun pins s σ H Q I h => Call_ (ld_blt I hg hm boot_len ?_)⟩
  refine PyProof.Rows.callWith_builtin1 (PyProof.Rows.args_cons (Call_ (ld_blt I hg2 hm2 boot_set ?_)) rfl) rfl rfl
  refine PyProof.Rows.callWith_type1 (PyProof.Rows.args_cons (thn (ha.run pins s σ H _ I h) fun v s1 ⟨x, H1, I1, r1, l, ns, ex, hq, hl, q1⟩ => PyProof.Rows.args_nil ?_) na) na rfl
  subst ex
  cases r1
  obtain ⟨us, ru, pu, _⟩ := I1.list hq
  have size : us.toArray.size = ns.length := by simpa using ru.length.symm
  have dl : (dedI ns).length ≤ ns.length := by rw [← firstMet_is]; exact firstMet_length_le _ _
  refine call_set_list (I1.ok.hd hc) pu.isList (ns := ns) (by simpa using RZ.intsAre_vals ru) (by rw [size]; unfold scanBound; omega) fun hp k S kept => PyProof.Rows.args_nil ?_
  rw [size, firstMet_is ns] at S
  obtain ⟨ob, el, _, st, at_, exact_, data, _, _, _, fit, num⟩ := S
  have I2 : Inv X pins σ H1 { s1 with heap := hp, toks := k } := I1.kept fun b o e => kept b o (Heap.lt_size e) e
  exact call_len_set at_ exact_ data fit (by rw [num] <;> omega) ⟨.int (dedI ns).length, H1, I2.tok _, ⟨_, by rw [num]⟩, q1⟩
def kLenSet (x : D) (h : Hh) : R D := match (asL h x).bind intsOf with
  | some ns => if ns.length ≤ 4000 then .ok (.int ((dedI ns).length : Nat)) h else .stk
  | none => .stk
def eLenSet (f : FnE) : FnE := fun δ h => (f δ h).bind kLenSet
theorem fe_lenSet {a : Expr} {f : FnE} {p p2 q pos : Pos} (hc : X.calm = true) (hg : Gl X "len") (hm : X.mg "len" = none) (hg2 : Gl X "set") (hm2 : X.mg "set" = none) (ha : FE X T W a f)
    (na : starEach [a] X.env = (false, eval a X.env) :: starEach [] X.env := by rfl) : FE X T W (.Call (.Name "len" p) [.Call (.Name "set" p2) [a] [] q] [] pos) (eLenSet f) := by
  refine PE.imp (pe_lenSetA hg hm hg2 hm2 ha hc na) fun σ H Q => ?_
  rintro ⟨G, h0, δ, r, s, o⟩
  refine ⟨G, h0, δ, r, s, (okR.bind (rel := RD X.K T) o).mono ?_⟩
  rintro v H1 ⟨G1, x, h1, e1, r1, d1, o1⟩
  unfold kLenSet at o1
  cases ex : asL h1 x with
  | none => rw [ex] at o1; exact o1.elim
  | some xs =>
    rw [ex, Option.bind_some] at o1
    cases ei : intsOf xs with
    | none => rw [ei] at o1; exact o1.elim
    | some ns =>
      rw [ei] at o1
      dsimp only at o1
      by_cases hl : ns.length ≤ 4000
      · rw [if_pos hl] at o1
        obtain ⟨a, ws, rfl, q1, q2⟩ := asL_ok r1 d1 ex
        have := intsOf_is ei
        subst this
        have := ints_vs q2
        subst this
        exact ⟨a, ns, rfl, .inl (.inl q1), hl, okR.at o1 r1 .int⟩
      · rw [if_neg hl] at o1; exact o1.elim
end
end L3
set_option autoImplicit false
set_option maxHeartbeats 8000000
namespace Lw
open PySem PySem.Spec L2 L3
open He (ga ma)
abbrev fuel : Nat := 4611686018427387904
def c_MAX_NUMBER : D := .int 1000
def c_DEPTHS : D := .int 8
def c_COLORS : D := .int 8
def ix_corners : Nat → Option Nat := fun c => match c with
  | 0 => some 0
  | _ => none
def ix_own_size : Nat → Option Nat := fun c => match c with
  | 0 => some 1
  | _ => none
def ix_own_edges : Nat → Option Nat := fun c => match c with
  | 0 => some 2
  | _ => none
/-- _law_begun -/
def u__law_begun_1 : FnS := (sRet (eDic true [((eC (.str [99, 101, 108, 108, 115])), (eB listMB (aCons (eVar 0) aNil))), ((eC (.str [108, 101, 102, 116])), (eLcW true (wSeq (eVar 0)) (gSet 1) (eTest (eBin geD (eVar 1) (eBin powD (eC (.int 10)) (eC (.int 18))))) (eVar 1) [1])), ((eC (.str [97, 116])), (eC (.int 0)))]))
def u__law_begun : FnS := u__law_begun_1
def f__law_begun : Sem3 := runD 2 u__law_begun
/-- _law_next -/
def u__law_next_1_1 : FnS := (sIxS (eVar 0) (eC (.str [108, 101, 102, 116])) (eSliceM (eBin ixA (eVar 0) (eC (.str [108, 101, 102, 116]))) (oSome (eC (.int 1))) oNone))
def u__law_next_1 : FnS := (whileN (tAnd3 (eTest (eBin neD (eBin ixA (eVar 0) (eC (.str [108, 101, 102, 116]))) (eLst aNil))) (eTest (eBin eqD (eBin ixA (eBin ixA (eVar 0) (eC (.str [108, 101, 102, 116]))) (eC (.int 0))) (eC (.int 0))))) u__law_next_1_1 fuel)
def u__law_next_2_a_1 : FnS := (sSet 2 (eB intB (aCons (eBin ixA (eBin ixA (eVar 0) (eC (.str [108, 101, 102, 116]))) (eC (.int 0))) aNil)))
def u__law_next_2_a_2 : FnS := (sIxS (eBin ixA (eVar 0) (eC (.str [108, 101, 102, 116]))) (eC (.int 0)) (eBin divD (eVar 2) (eVar 1)))
def u__law_next_2_a_3 : FnS := (sRet (eBin modD (eVar 2) (eVar 1)))
def u__law_next_2 : FnS := (sIf (eTest (eBin neD (eBin ixA (eVar 0) (eC (.str [108, 101, 102, 116]))) (eLst aNil))) (sSeq u__law_next_2_a_1 (sSeq u__law_next_2_a_2 u__law_next_2_a_3)) sNil)
def u__law_next_3 : FnS := (sSet 3 (eBin addD (eBin ixA (eVar 0) (eC (.str [97, 116]))) (eC (.int 1))))
def u__law_next_4 : FnS := (sIxS (eVar 0) (eC (.str [97, 116])) (eVar 3))
def u__law_next_5 : FnS := (sSet 4 (eIf (eTest (eBin neD (eBin ixA (eVar 0) (eC (.str [99, 101, 108, 108, 115]))) (eLst aNil))) (eBin ixA (eBin ixA (eVar 0) (eC (.str [99, 101, 108, 108, 115]))) (eBin modD (eB intB (aCons (eVar 3) aNil)) (eB lenB (aCons (eBin ixA (eVar 0) (eC (.str [99, 101, 108, 108, 115]))) aNil)))) (eC (.int 5))))
def u__law_next_6 : FnS := (sSet 5 (eBin mulD (eB intB (aCons (eBin addD (eBin addD (eBin modD (eB intB (aCons (eVar 4) aNil)) (eC (.int 2147483629))) (eBin mulD (eC (.int 7919)) (eVar 3))) (eBin mulD (eBin mulD (eC (.int 17)) (eVar 3)) (eVar 3))) aNil)) (eC (.int 48271))))
def u__law_next_7 : FnS := (sSet 5 (eBin mulD (eB intB (aCons (eBin addD (eBin modD (eB intB (aCons (eVar 5) aNil)) (eC (.int 2147483647))) (eBin mulD (eC (.int 104729)) (eVar 3))) aNil)) (eC (.int 69621))))
def u__law_next_8 : FnS := (sRet (eBin modD (eB intB (aCons (eBin divD (eBin modD (eB intB (aCons (eVar 5) aNil)) (eC (.int 2147483587))) (eC (.int 13))) aNil)) (eVar 1)))
def u__law_next : FnS := (sSeq u__law_next_1 (sSeq u__law_next_2 (sSeq u__law_next_3 (sSeq u__law_next_4 (sSeq u__law_next_5 (sSeq u__law_next_6 (sSeq u__law_next_7 u__law_next_8)))))))
def f__law_next : Sem3 := runD 6 u__law_next
/-- _law_plane -/
def u__law_plane_1 : FnS := (sSet 1 (eTup (aCons (eBin subD (eCall 2 f__law_next (aCons (eVar 0) (aCons (eC (.int 40)) aNil)) []) (eC (.int 8))) (aCons (eBin subD (eCall 2 f__law_next (aCons (eVar 0) (aCons (eC (.int 7)) aNil)) []) (eC (.int 3))) (aCons (eBin subD (eCall 2 f__law_next (aCons (eVar 0) (aCons (eC (.int 7)) aNil)) []) (eC (.int 3))) aNil)))))
def u__law_plane_2 : FnS := (sSet 2 (eTup (aCons (eBin subD (eCall 2 f__law_next (aCons (eVar 0) (aCons (eC (.int 40)) aNil)) []) (eC (.int 8))) (aCons (eBin subD (eCall 2 f__law_next (aCons (eVar 0) (aCons (eC (.int 7)) aNil)) []) (eC (.int 3))) (aCons (eBin subD (eCall 2 f__law_next (aCons (eVar 0) (aCons (eC (.int 7)) aNil)) []) (eC (.int 3))) aNil)))))
def u__law_plane_3 : FnS := (sRet (eTup (aCons (eVar 1) (aCons (eVar 2) aNil))))
def u__law_plane : FnS := (sSeq u__law_plane_1 (sSeq u__law_plane_2 u__law_plane_3))
def f__law_plane : Sem3 := runD 3 u__law_plane
/-- _law_nodes -/
def u__law_nodes_1 : FnS := (sSet 4 eDicT)
def u__law_nodes_2_1_1 : FnS := (sPar [7, 8] (aCons (eBin mulD (eBin mulD (eC (.int 2)) (eVar 3)) (eVar 6)) (aCons (eBin mulD (eBin mulD (eC (.int 2)) (eVar 3)) (eVar 5)) aNil)))
def u__law_nodes_2_1_2_a_1 : FnS := (sPar [7, 8] (aCons (eBin subD (eBin addD (eVar 7) (eCall 2 f__law_next (aCons (eVar 0) (aCons (eC (.int 3)) aNil)) [])) (eC (.int 1))) (aCons (eBin subD (eBin addD (eVar 8) (eCall 2 f__law_next (aCons (eVar 0) (aCons (eC (.int 3)) aNil)) [])) (eC (.int 1))) aNil)))
def u__law_nodes_2_1_2 : FnS := (sIf (tAnd3 (eTest (eBin eqD (eVar 3) (eC (.int 3)))) (tAnd3 (eTest (eChain ltD ltD (eC (.int 0)) (eVar 5) (eVar 2))) (eTest (eChain ltD ltD (eC (.int 0)) (eVar 6) (eVar 1))))) u__law_nodes_2_1_2_a_1 sNil)
def u__law_nodes_2_1_3 : FnS := (sIxT (eVar 4) (aCons (eVar 6) (aCons (eVar 5) aNil)) (eTup (aCons (eVar 7) (aCons (eVar 8) aNil))))
def u__law_nodes_2_1 : FnS := (sFor (iRg1 (eBin addD (eVar 1) (eC (.int 1)))) (gSet 6) (sSeq u__law_nodes_2_1_1 (sSeq u__law_nodes_2_1_2 u__law_nodes_2_1_3)))
def u__law_nodes_2 : FnS := (sFor (iRg1 (eBin addD (eVar 2) (eC (.int 1)))) (gSet 5) u__law_nodes_2_1)
def u__law_nodes_3 : FnS := (sRet (eVar 4))
def u__law_nodes : FnS := (sSeq u__law_nodes_1 (sSeq u__law_nodes_2 u__law_nodes_3))
def f__law_nodes : Sem3 := runD 9 u__law_nodes
/-- _law_cells -/
def u__law_cells_1 : FnS := (sSet 4 (eLst aNil))
def u__law_cells_2_1_1 : FnS := (sPar [7, 8] (aCons (eIxT (eVar 1) (aCons (eVar 6) (aCons (eVar 5) aNil))) (aCons (eIxT (eVar 1) (aCons (eBin addD (eVar 6) (eC (.int 1))) (aCons (eVar 5) aNil))) aNil)))
def u__law_cells_2_1_2 : FnS := (sPar [9, 10] (aCons (eIxT (eVar 1) (aCons (eBin addD (eVar 6) (eC (.int 1))) (aCons (eBin addD (eVar 5) (eC (.int 1))) aNil))) (aCons (eIxT (eVar 1) (aCons (eVar 6) (aCons (eBin addD (eVar 5) (eC (.int 1))) aNil))) aNil)))
def u__law_cells_2_1_3_a_1 : FnS := (sSet 4 (eBin addD (eVar 4) (eLst (aCons (eTup (aCons (eVar 7) (aCons (eVar 8) (aCons (eVar 9) aNil)))) (aCons (eTup (aCons (eVar 7) (aCons (eVar 9) (aCons (eVar 10) aNil)))) aNil)))))
def u__law_cells_2_1_3_b_1 : FnS := (sSet 4 (eBin addD (eVar 4) (eLst (aCons (eTup (aCons (eVar 7) (aCons (eVar 8) (aCons (eVar 10) aNil)))) (aCons (eTup (aCons (eVar 8) (aCons (eVar 9) (aCons (eVar 10) aNil)))) aNil)))))
def u__law_cells_2_1_3 : FnS := (sIf (eTest (eBin eqD (eCall 2 f__law_next (aCons (eVar 0) (aCons (eC (.int 2)) aNil)) []) (eC (.int 0)))) u__law_cells_2_1_3_a_1 u__law_cells_2_1_3_b_1)
def u__law_cells_2_1 : FnS := (sFor (iRg1 (eVar 2)) (gSet 6) (sSeq u__law_cells_2_1_1 (sSeq u__law_cells_2_1_2 u__law_cells_2_1_3)))
def u__law_cells_2 : FnS := (sFor (iRg1 (eVar 3)) (gSet 5) u__law_cells_2_1)
def u__law_cells_3 : FnS := (sRet (eVar 4))
def u__law_cells : FnS := (sSeq u__law_cells_1 (sSeq u__law_cells_2 u__law_cells_3))
def f__law_cells : Sem3 := runD 11 u__law_cells
/-- _law_worth -/
def u__law_worth_1 : FnS := (sRet (eBin addD (eBin addD (eBin ixA (eVar 0) (eC (.int 0))) (eBin mulD (eBin ixA (eVar 0) (eC (.int 1))) (eBin ixA (eVar 1) (eC (.int 0))))) (eBin mulD (eBin ixA (eVar 0) (eC (.int 2))) (eBin ixA (eVar 1) (eC (.int 1))))))
def u__law_worth : FnS := u__law_worth_1
def f__law_worth : Sem3 := runD 2 u__law_worth
/-- _law_corner -/
def u__law_corner_1 : FnS := (sSet 3 (eBin addD (eC (.int 1)) (eCall 2 f__law_next (aCons (eVar 0) (aCons (eC (.int 3)) aNil)) [])))
def u__law_corner_2 : FnS := (sPar [4, 5] (aCons (eCall 2 f__law_worth (aCons (eBin ixA (eVar 2) (eC (.int 0))) (aCons (eVar 1) aNil)) []) (aCons (eCall 2 f__law_worth (aCons (eBin ixA (eVar 2) (eC (.int 1))) (aCons (eVar 1) aNil)) []) aNil)))
def u__law_corner_3 : FnS := (sRet (eTup (aCons (eBin mulD (eBin mulD (eC (.int 4)) (eVar 3)) (eBin ixA (eVar 1) (eC (.int 0)))) (aCons (eBin mulD (eBin mulD (eC (.int 4)) (eVar 3)) (eBin ixA (eVar 1) (eC (.int 1)))) (aCons (eBin mulD (eBin mulD (eC (.int 2)) (eVar 3)) (eVar 4)) (aCons (eBin mulD (eC (.int 8)) (eVar 3)) (aCons (eBin mulD (eVar 3) (eVar 5)) (aCons (eBin mulD (eC (.int 4)) (eVar 3)) aNil))))))))
def u__law_corner : FnS := (sSeq u__law_corner_1 (sSeq u__law_corner_2 u__law_corner_3))
def f__law_corner : Sem3 := runD 6 u__law_corner
/-- is_whole_in -/
def u_is_whole_in_1 : FnS := (sRet (eAnd (eIsi .int (eVar 0)) (eAnd (eNot (eIsi .bool (eVar 0))) (eChain leD leD (eVar 1) (eVar 0) (eVar 2)))))
def u_is_whole_in : FnS := u_is_whole_in_1
def f_is_whole_in : Sem3 := runD 3 u_is_whole_in
/-- are_whole_in -/
def u_are_whole_in_1_a_1 : FnS := (sRet (eC (.bl false)))
def u_are_whole_in_1 : FnS := (sIf (tOr3 (tNot3 (eTest (eIsi .tuple (eVar 0)))) (eTest (eBin neD (eB lenB (aCons (eVar 0) aNil)) (eVar 1)))) u_are_whole_in_1_a_1 sNil)
def u_are_whole_in_2 : FnS := (sRet (eB allB (aCons (eLcW false (wSeq (eVar 0)) (gSet 4) tYes3 (eCall 3 f_is_whole_in (aCons (eVar 4) (aCons (eVar 2) (aCons (eVar 3) aNil))) []) [4]) aNil)))
def u_are_whole_in : FnS := (sSeq u_are_whole_in_1 u_are_whole_in_2)
def f_are_whole_in : Sem3 := runD 5 u_are_whole_in
/-- is_corner -/
def u_is_corner_1 : FnS := (sRet (eAnd (eCall 4 f_are_whole_in (aCons (eVar 0) (aCons (eC (.int 6)) (aCons (eUn negD (eC c_MAX_NUMBER)) (aCons (eC c_MAX_NUMBER) aNil)))) []) (eBin geD (eBin ixA (eVar 0) (eC (.int 5))) (eC (.int 1)))))
def u_is_corner : FnS := u_is_corner_1
def f_is_corner : Sem3 := runD 1 u_is_corner
/-- eye_row -/
def u_eye_row_1 : FnS := (sRet (eTup (aCons (eBin ixA (eVar 0) (eC (.int 0))) (aCons (eBin ixA (eVar 0) (eC (.int 1))) (aCons (eBin ixA (eVar 0) (eC (.int 3))) aNil)))))
def u_eye_row : FnS := u_eye_row_1
def f_eye_row : Sem3 := runD 1 u_eye_row
/-- crossed_rows -/
def u_crossed_rows_1 : FnS := (sRet (eTup (aCons (eBin subD (eBin mulD (eBin ixA (eVar 0) (eC (.int 1))) (eBin ixA (eVar 1) (eC (.int 2)))) (eBin mulD (eBin ixA (eVar 0) (eC (.int 2))) (eBin ixA (eVar 1) (eC (.int 1))))) (aCons (eBin subD (eBin mulD (eBin ixA (eVar 0) (eC (.int 2))) (eBin ixA (eVar 1) (eC (.int 0)))) (eBin mulD (eBin ixA (eVar 0) (eC (.int 0))) (eBin ixA (eVar 1) (eC (.int 2))))) (aCons (eBin subD (eBin mulD (eBin ixA (eVar 0) (eC (.int 0))) (eBin ixA (eVar 1) (eC (.int 1)))) (eBin mulD (eBin ixA (eVar 0) (eC (.int 1))) (eBin ixA (eVar 1) (eC (.int 0))))) aNil)))))
def u_crossed_rows : FnS := u_crossed_rows_1
def f_crossed_rows : Sem3 := runD 2 u_crossed_rows
/-- linear_edge -/
def u_linear_edge_1 : FnS := (sAsg (gTupD 3 (gsCons (gSet 3) (gsCons (gSet 4) (gsCons (gSet 5) gsNil)))) (eCall 2 f_crossed_rows (aCons (eVar 0) (aCons (eVar 1) aNil)) []))
def u_linear_edge_2 : FnS := (sRet (eTup (aCons (eBin mulD (eBin mulD (eVar 2) (eC (.int 2))) (eVar 3)) (aCons (eBin mulD (eBin mulD (eVar 2) (eC (.int 2))) (eVar 4)) (aCons (eBin mulD (eVar 2) (eBin addD (eBin addD (eVar 3) (eVar 4)) (eBin mulD (eC (.int 2)) (eVar 5)))) aNil)))))
def u_linear_edge : FnS := (sSeq u_linear_edge_1 u_linear_edge_2)
def f_linear_edge : Sem3 := runD 6 u_linear_edge
/-- Triangle.__init__ -/
def u_Triangle___init___1_a_1 : FnS := (sRaise 0 (eC (.str [110, 111, 32, 99, 111, 114, 110, 101, 114])))
def u_Triangle___init___1 : FnS := (sIf (tNot3 (eTest (eB allB (aCons (eLcW false (wSeq (eTup (aCons (eVar 1) (aCons (eVar 2) (aCons (eVar 3) aNil))))) (gSet 7) tYes3 (eCall 1 f_is_corner (aCons (eVar 7) aNil) []) [7]) aNil)))) u_Triangle___init___1_a_1 sNil)
def u_Triangle___init___2 : FnS := (sFld ix_corners (eVar 0) (eTup (aCons (eVar 1) (aCons (eVar 2) (aCons (eVar 3) aNil)))))
def u_Triangle___init___3 : FnS := (sSet 4 (eLcW false (wSeq (eFld ix_corners (eVar 0))) (gSet 7) tYes3 (eCall 1 f_eye_row (aCons (eVar 7) aNil) []) [7]))
def u_Triangle___init___4 : FnS := (sSet 5 (eCall 2 f_crossed_rows (aCons (eBin ixA (eVar 4) (eC (.int 1))) (aCons (eBin ixA (eVar 4) (eC (.int 2))) aNil)) []))
def u_Triangle___init___5 : FnS := (sFld ix_own_size (eVar 0) (eBin addD (eBin addD (eBin mulD (eBin ixA (eBin ixA (eVar 4) (eC (.int 0))) (eC (.int 0))) (eBin ixA (eVar 5) (eC (.int 0)))) (eBin mulD (eBin ixA (eBin ixA (eVar 4) (eC (.int 0))) (eC (.int 1))) (eBin ixA (eVar 5) (eC (.int 1))))) (eBin mulD (eBin ixA (eBin ixA (eVar 4) (eC (.int 0))) (eC (.int 2))) (eBin ixA (eVar 5) (eC (.int 2))))))
def u_Triangle___init___6 : FnS := (sSet 6 (eIf (eTest (eBin ltD (eFld ix_own_size (eVar 0)) (eC (.int 0)))) (eUn negD (eC (.int 1))) (eC (.int 1))))
def u_Triangle___init___7 : FnS := (sFld ix_own_edges (eVar 0) (eTup (aCons (eCall 3 f_linear_edge (aCons (eBin ixA (eVar 4) (eC (.int 1))) (aCons (eBin ixA (eVar 4) (eC (.int 2))) (aCons (eVar 6) aNil))) []) (aCons (eCall 3 f_linear_edge (aCons (eBin ixA (eVar 4) (eC (.int 2))) (aCons (eBin ixA (eVar 4) (eC (.int 0))) (aCons (eVar 6) aNil))) []) (aCons (eCall 3 f_linear_edge (aCons (eBin ixA (eVar 4) (eC (.int 0))) (aCons (eBin ixA (eVar 4) (eC (.int 1))) (aCons (eVar 6) aNil))) []) aNil)))))
def u_Triangle___init__ : FnS := (sSeq u_Triangle___init___1 (sSeq u_Triangle___init___2 (sSeq u_Triangle___init___3 (sSeq u_Triangle___init___4 (sSeq u_Triangle___init___5 (sSeq u_Triangle___init___6 u_Triangle___init___7))))))
def f_Triangle___init__ : Sem3 := runD 8 u_Triangle___init__
/-- Triangle.facing -/
def u_Triangle_facing_1 : FnS := (sRet (eBin subD (eB intB (aCons (eBin gtD (eFld ix_own_size (eVar 0)) (eC (.int 0))) aNil)) (eB intB (aCons (eBin ltD (eFld ix_own_size (eVar 0)) (eC (.int 0))) aNil))))
def u_Triangle_facing : FnS := u_Triangle_facing_1
def f_Triangle_facing : Sem3 := runD 1 u_Triangle_facing
/-- need_whole_place -/
def u_need_whole_place_1_a_1 : FnS := (sRaise 1 (eC (.str [110, 111, 32, 112, 97, 105, 114, 32, 111, 102, 32, 105, 110, 116, 101, 103, 101, 114, 115])))
def u_need_whole_place_1 : FnS := (sIf (tNot3 (eTest (eCall 4 f_are_whole_in (aCons (eVar 0) (aCons (eC (.int 2)) (aCons (eUn negD (eC c_MAX_NUMBER)) (aCons (eC c_MAX_NUMBER) aNil)))) []))) u_need_whole_place_1_a_1 sNil)
def u_need_whole_place : FnS := u_need_whole_place_1
def f_need_whole_place : Sem3 := runD 1 u_need_whole_place
/-- Triangle.values_at -/
def u_Triangle_values_at_1 : FnS := (sAsg (gTupD 2 (gsCons (gSet 2) (gsCons (gSet 3) gsNil))) (eVar 1))
def u_Triangle_values_at_2 : FnS := (sRet (eLcW false (wSeq (eFld ix_own_edges (eVar 0))) (gTupD 3 (gsCons (gSet 4) (gsCons (gSet 5) (gsCons (gSet 6) gsNil)))) tYes3 (eBin addD (eBin addD (eBin mulD (eVar 4) (eVar 2)) (eBin mulD (eVar 5) (eVar 3))) (eVar 6)) [4, 5, 6]))
def u_Triangle_values_at : FnS := (sSeq u_Triangle_values_at_1 u_Triangle_values_at_2)
def f_Triangle_values_at : Sem3 := runD 7 u_Triangle_values_at
/-- is_let_in -/
def u_is_let_in_1 : FnS := (sRet (eOr (eBin gtD (eVar 1) (eC (.int 0))) (eAnd (eBin eqD (eVar 1) (eC (.int 0))) (eOr (eBin gtD (eBin ixA (eVar 0) (eC (.int 0))) (eC (.int 0))) (eAnd (eBin eqD (eBin ixA (eVar 0) (eC (.int 0))) (eC (.int 0))) (eBin gtD (eBin ixA (eVar 0) (eC (.int 1))) (eC (.int 0))))))))
def u_is_let_in : FnS := u_is_let_in_1
def f_is_let_in : Sem3 := runD 2 u_is_let_in
/-- Triangle.is_over -/
def u_Triangle_is_over_1 : FnS := (sRet (eAnd (eBin neD (eFld ix_own_size (eVar 0)) (eC (.int 0))) (eB allB (aCons (eLcW false (wZip (aCons (eFld ix_own_edges (eVar 0)) (aCons (eVar 1) aNil))) (gTupD 2 (gsCons (gSet 2) (gsCons (gSet 3) gsNil))) tYes3 (eCall 2 f_is_let_in (aCons (eVar 2) (aCons (eVar 3) aNil)) []) [2, 3]) aNil))))
def u_Triangle_is_over : FnS := u_Triangle_is_over_1
def f_Triangle_is_over : Sem3 := runD 4 u_Triangle_is_over
/-- Triangle.covers -/
def u_Triangle_covers_1 : FnS := (sExpr (eCall 1 f_need_whole_place (aCons (eVar 1) aNil) []))
def u_Triangle_covers_2 : FnS := (sRet (eMeth 0 2 f_Triangle_is_over (eVar 0) (aCons (eMeth 0 2 f_Triangle_values_at (eVar 0) (aCons (eVar 1) aNil) []) aNil) []))
def u_Triangle_covers : FnS := (sSeq u_Triangle_covers_1 u_Triangle_covers_2)
def f_Triangle_covers : Sem3 := runD 2 u_Triangle_covers
/-- Triangle.depth_by -/
def u_Triangle_depth_by_1 : FnS := (sSet 2 (eB sumB (aCons (eLcW false (wZip (aCons (eVar 1) (aCons (eFld ix_corners (eVar 0)) aNil))) (gTupD 2 (gsCons (gSet 3) (gsCons (gSet 4) gsNil))) tYes3 (eBin mulD (eVar 3) (eBin ixA (eVar 4) (eC (.int 2)))) [3, 4]) aNil)))
def u_Triangle_depth_by_2 : FnS := (sRet (eBin divD (eVar 2) (eBin mulD (eC (.int 2)) (eB absB (aCons (eFld ix_own_size (eVar 0)) aNil)))))
def u_Triangle_depth_by : FnS := (sSeq u_Triangle_depth_by_1 u_Triangle_depth_by_2)
def f_Triangle_depth_by : Sem3 := runD 5 u_Triangle_depth_by
/-- Triangle.fragment_so -/
def u_Triangle_fragment_so_1 : FnS := (sSet 2 (eMeth 0 2 f_Triangle_values_at (eVar 0) (aCons (eVar 1) aNil) []))
def u_Triangle_fragment_so_2_a_1 : FnS := (sRet (eC .non))
def u_Triangle_fragment_so_2 : FnS := (sIf (tNot3 (eTest (eMeth 0 2 f_Triangle_is_over (eVar 0) (aCons (eVar 2) aNil) []))) u_Triangle_fragment_so_2_a_1 sNil)
def u_Triangle_fragment_so_3 : FnS := (sSet 3 (eMeth 0 2 f_Triangle_depth_by (eVar 0) (aCons (eVar 2) aNil) []))
def u_Triangle_fragment_so_4_a_1 : FnS := (sRet (eC .non))
def u_Triangle_fragment_so_4 : FnS := (sIf (tNot3 (eTest (eChain leD ltD (eC (.int 0)) (eVar 3) (eC c_DEPTHS)))) u_Triangle_fragment_so_4_a_1 sNil)
def u_Triangle_fragment_so_5 : FnS := (sSet 4 (eB sumB (aCons (eLcW false (wZip (aCons (eVar 2) (aCons (eFld ix_corners (eVar 0)) aNil))) (gTupD 2 (gsCons (gSet 5) (gsCons (gSet 6) gsNil))) tYes3 (eBin mulD (eVar 5) (eBin ixA (eVar 6) (eC (.int 4)))) [5, 6]) aNil)))
def u_Triangle_fragment_so_6 : FnS := (sSet 4 (eBin divD (eVar 4) (eB sumB (aCons (eLcW false (wZip (aCons (eVar 2) (aCons (eFld ix_corners (eVar 0)) aNil))) (gTupD 2 (gsCons (gSet 5) (gsCons (gSet 6) gsNil))) tYes3 (eBin mulD (eVar 5) (eBin ixA (eVar 6) (eC (.int 5)))) [5, 6]) aNil))))
def u_Triangle_fragment_so_7 : FnS := (sRet (eTup (aCons (eB max2B (aCons (eC (.int 0)) (aCons (eB min2B (aCons (eBin subD (eC c_COLORS) (eC (.int 1))) (aCons (eVar 4) aNil))) aNil))) (aCons (eVar 3) aNil))))
def u_Triangle_fragment_so : FnS := (sSeq u_Triangle_fragment_so_1 (sSeq u_Triangle_fragment_so_2 (sSeq u_Triangle_fragment_so_3 (sSeq u_Triangle_fragment_so_4 (sSeq u_Triangle_fragment_so_5 (sSeq u_Triangle_fragment_so_6 u_Triangle_fragment_so_7))))))
def f_Triangle_fragment_so : Sem3 := runD 7 u_Triangle_fragment_so
/-- Triangle.fragment_at -/
def u_Triangle_fragment_at_1 : FnS := (sExpr (eCall 1 f_need_whole_place (aCons (eVar 1) aNil) []))
def u_Triangle_fragment_at_2 : FnS := (sRet (eMeth 0 2 f_Triangle_fragment_so (eVar 0) (aCons (eVar 1) aNil) []))
def u_Triangle_fragment_at : FnS := (sSeq u_Triangle_fragment_at_1 u_Triangle_fragment_at_2)
def f_Triangle_fragment_at : Sem3 := runD 2 u_Triangle_fragment_at
/-- _law_due -/
def u__law_due_1 : FnS := (sSet 2 (eTup (aCons (eBin addD (eBin mulD (eC (.int 2)) (eBin ixA (eVar 1) (eC (.int 0)))) (eC (.int 1))) (aCons (eBin addD (eBin mulD (eC (.int 2)) (eBin ixA (eVar 1) (eC (.int 1)))) (eC (.int 1))) aNil))))
def u__law_due_2 : FnS := (sSet 3 (eBin divD (eCall 2 f__law_worth (aCons (eBin ixA (eVar 0) (eC (.int 0))) (aCons (eVar 2) aNil)) []) (eC (.int 4))))
def u__law_due_3 : FnS := (sSet 4 (eBin divD (eCall 2 f__law_worth (aCons (eBin ixA (eVar 0) (eC (.int 1))) (aCons (eVar 2) aNil)) []) (eC (.int 4))))
def u__law_due_4 : FnS := (sRet (eIf (eTest (eChain leD ltD (eC (.int 0)) (eVar 3) (eC (.int 8)))) (eTup (aCons (eB max2B (aCons (eC (.int 0)) (aCons (eB min2B (aCons (eC (.int 7)) (aCons (eVar 4) aNil))) aNil))) (aCons (eVar 3) aNil))) (eC .non)))
def u__law_due : FnS := (sSeq u__law_due_1 (sSeq u__law_due_2 (sSeq u__law_due_3 u__law_due_4)))
def f__law_due : Sem3 := runD 5 u__law_due
/-- _law_right -/
def u__law_right_1 : FnS := (sSet 4 (eLcW false (wSeq (eVar 0)) (gSet 5) (eTest (eMeth 0 2 f_Triangle_covers (eVar 5) (aCons (eVar 2) aNil) [])) (eVar 5) [5]))
def u__law_right_2_a_1 : FnS := (sRet (eC (.bl false)))
def u__law_right_2 : FnS := (sIf (eTest (eBin neD (eB lenB (aCons (eVar 4) aNil)) (eB intB (aCons (eVar 3) aNil)))) u__law_right_2_a_1 sNil)
def u__law_right_3 : FnS := (sRet (eOr (eNot (eVar 3)) (eBin eqD (eB reprB (aCons (eMeth 0 2 f_Triangle_fragment_at (eBin ixA (eVar 4) (eC (.int 0))) (aCons (eVar 2) aNil) []) aNil)) (eB reprB (aCons (eCall 2 f__law_due (aCons (eVar 1) (aCons (eVar 2) aNil)) []) aNil)))))
def u__law_right : FnS := (sSeq u__law_right_1 (sSeq u__law_right_2 u__law_right_3))
def f__law_right : Sem3 := runD 6 u__law_right
/-- law -/
def u_law_1 : FnS := (sSet 1 (eCall 1 f__law_begun (aCons (eVar 0) aNil) []))
def u_law_2_1 : FnS := (sPar [3, 4, 5] (aCons (eBin addD (eC (.int 1)) (eCall 2 f__law_next (aCons (eVar 1) (aCons (eC (.int 3)) aNil)) [])) (aCons (eBin addD (eC (.int 1)) (eCall 2 f__law_next (aCons (eVar 1) (aCons (eC (.int 3)) aNil)) [])) (aCons (eBin addD (eC (.int 1)) (eCall 2 f__law_next (aCons (eVar 1) (aCons (eC (.int 2)) aNil)) [])) aNil))))
def u_law_2_2 : FnS := (sAsg (gTupD 3 (gsCons (gSet 6) (gsCons (gSet 7) (gsCons (gSet 8) gsNil)))) (eTup (aCons (eCall 4 f__law_nodes (aCons (eVar 1) (aCons (eVar 4) (aCons (eVar 5) (aCons (eVar 3) aNil)))) []) (aCons (eCall 1 f__law_plane (aCons (eVar 1) aNil) []) (aCons (eCall 2 f__law_next (aCons (eVar 1) (aCons (eC (.int 2)) aNil)) []) aNil)))))
def u_law_2_3 : FnS := (sSet 9 (eLstM aNil))
def u_law_2_4_1 : FnS := (sSet 11 (eLcW false (wSeq (eVar 10)) (gSet 16) tYes3 (eCall 3 f__law_corner (aCons (eVar 1) (aCons (eVar 16) (aCons (eVar 7) aNil))) []) [16]))
def u_law_2_4_2_a_1 : FnS := (sSet 11 (eLst (aCons (eBin ixA (eVar 11) (eC (.int 0))) (aCons (eBin ixA (eVar 11) (eC (.int 2))) (aCons (eBin ixA (eVar 11) (eC (.int 1))) aNil)))))
def u_law_2_4_2 : FnS := (sIf (eTest (eBin eqD (eVar 8) (eC (.int 1)))) u_law_2_4_2_a_1 sNil)
def u_law_2_4_3 : FnS := (sSet 12 (eMake 0 3 4 f_Triangle___init__ (aCons (eBin ixA (eVar 11) (eC (.int 0))) (aCons (eBin ixA (eVar 11) (eC (.int 1))) (aCons (eBin ixA (eVar 11) (eC (.int 2))) aNil))) []))
def u_law_2_4_4_a_1 : FnS := (sRet (eC (.bl false)))
def u_law_2_4_4 : FnS := (sIf (eTest (eBin neD (eProp 0 1 f_Triangle_facing (eVar 12)) (eBin ixA (eLst (aCons (eC (.int 1)) (aCons (eUn negD (eC (.int 1))) aNil))) (eVar 8)))) u_law_2_4_4_a_1 sNil)
def u_law_2_4_5 : FnS := (sExpr (eM appendM (eVar 9) (aCons (eVar 12) aNil)))
def u_law_2_4 : FnS := (sForW (wSeq (eCall 4 f__law_cells (aCons (eVar 1) (aCons (eVar 6) (aCons (eVar 4) (aCons (eVar 5) aNil)))) [])) (gSet 10) (sSeq u_law_2_4_1 (sSeq u_law_2_4_2 (sSeq u_law_2_4_3 (sSeq u_law_2_4_4 u_law_2_4_5)))))
def u_law_2_5_1_1 : FnS := (sSet 15 (eAnd (eChain leD ltD (eC (.int 0)) (eVar 14) (eBin mulD (eVar 4) (eVar 3))) (eChain leD ltD (eC (.int 0)) (eVar 13) (eBin mulD (eVar 5) (eVar 3)))))
def u_law_2_5_1_2_a_1 : FnS := (sRet (eC (.bl false)))
def u_law_2_5_1_2 : FnS := (sIf (tNot3 (eTest (eCall 4 f__law_right (aCons (eVar 9) (aCons (eVar 7) (aCons (eTup (aCons (eVar 14) (aCons (eVar 13) aNil))) (aCons (eVar 15) aNil)))) []))) u_law_2_5_1_2_a_1 sNil)
def u_law_2_5_1 : FnS := (sFor (iRg2 (eUn negD (eC (.int 1))) (eBin addD (eBin mulD (eVar 4) (eVar 3)) (eC (.int 1)))) (gSet 14) (sSeq u_law_2_5_1_1 u_law_2_5_1_2))
def u_law_2_5 : FnS := (sFor (iRg2 (eUn negD (eC (.int 1))) (eBin addD (eBin mulD (eVar 5) (eVar 3)) (eC (.int 1)))) (gSet 13) u_law_2_5_1)
def u_law_2 : FnS := (sFor (iRg1 (eBin addD (eC (.int 1)) (eB min2B (aCons (eB lenB (aCons (eVar 0) aNil)) (aCons (eC (.int 2)) aNil))))) (gSet 2) (sSeq u_law_2_1 (sSeq u_law_2_2 (sSeq u_law_2_3 (sSeq u_law_2_4 u_law_2_5)))))
def u_law_3 : FnS := (sRet (eC (.bl true)))
def u_law : FnS := (sSeq u_law_1 (sSeq u_law_2 u_law_3))
def f_law : Sem3 := runD 17 u_law
end Lw
set_option autoImplicit false
set_option maxHeartbeats 8000000
set_option autoImplicit true
namespace Lw
open PySem PySem.Spec L2 L3
/-! the source of draws: cells, left, at -/
abbrev ck : D := .str [99, 101, 108, 108, 115]
abbrev lk : D := .str [108, 101, 102, 116]
abbrev ak : D := .str [97, 116]
structure Src (h : Hh) (b : Nat) (cells left : List Int) (t : Int) : Prop where
  c : h[0]? = some (.lst (cells.map .int))
  d : h[2]? = some (.dic [ck, lk, ak] [.ref 0, .ref b, .int t])
  l : h[b]? = some (.lst (left.map .int))
  b0 : b ≠ 0
  b2 : b ≠ 2
  pos : ∀ x ∈ left, 0 ≤ x
  t0 : 0 ≤ t
  t1 : t < 1073741824
theorem geti {xs : List Int} {x : Int} {r : List Int} (e : xs = x :: r) : (xs.map D.int)[(0 : Int).toNat]? = some (.int x) := by
  subst e; rfl
theorem Src.left_ (s : Src h b cells left t) : ixA (.ref 2) lk h = .ok (.ref b) h := by
  rw [ixDic s.d rfl]; rfl
theorem Src.at_ (s : Src h b cells left t) : ixA (.ref 2) ak h = .ok (.int t) h := by
  rw [ixDic s.d rfl]; rfl
theorem Src.cells_ (s : Src h b cells left t) : ixA (.ref 2) ck h = .ok (.ref 0) h := by
  rw [ixDic s.d rfl]; rfl
/-- what one draw leaves -/
structure Fr (h : Hh) (b : Nat) (h' : Hh) (b' : Nat) : Prop where
  len : h.length ≤ h'.length
  bb : b' = b ∨ h.length ≤ b'
  old : ∀ j, j < h.length → j ≠ 2 → j ≠ b → h'[j]? = h[j]?
theorem Fr.refl (h : Hh) (b : Nat) : Fr h b h b := ⟨Nat.le_refl _, .inl rfl, fun _ _ _ _ => rfl⟩
theorem Fr.trans {h h1 h2 : Hh} {b b1 b2 : Nat} (x : Fr h b h1 b1) (y : Fr h1 b1 h2 b2) : Fr h b h2 b2 := by
  refine ⟨Nat.le_trans x.len y.len, ?_, fun j hj h2 hb => ?_⟩
  · rcases y.bb with e | e
    · rw [e]; exact x.bb
    · exact .inr (Nat.le_trans x.len e)
  · have hb1 : j ≠ b1 := by
      rcases x.bb with e | e
      · rw [e]; exact hb
      · omega
    rw [y.old j (Nat.lt_of_lt_of_le hj x.len) h2 hb1]
    exact x.old j hj h2 hb
def tW : FnT := (tAnd3 (eTest (eBin neD (eBin ixA (eVar 0) (eC (.str [108, 101, 102, 116]))) (eLst aNil))) (eTest (eBin eqD (eBin ixA (eBin ixA (eVar 0) (eC (.str [108, 101, 102, 116]))) (eC (.int 0))) (eC (.int 0)))))
def uW : FnS := (sIxS (eVar 0) (eC (.str [108, 101, 102, 116])) (eSliceM (eBin ixA (eVar 0) (eC (.str [108, 101, 102, 116]))) (oSome (eC (.int 1))) oNone))
theorem tW_ok (s : Src h b cells left t) (x : Option D) (r : De) : tW (some (.ref 2) :: r) h = .ok (match left with | [] => false | y :: _ => decide (y = 0)) h := by
  cases left with
  | nil => simp [tW, tAnd3, eTest, eBin, eVar, eC, eLst, aNil, R.bind, s.left_, lineOk, neNil s.l]
  | cons y ys =>
    have i0 : ixA (.ref b) (.int 0) h = .ok (.int y) h := ixRefAt s.l (by omega) (geti rfl)
    simp [tW, tAnd3, eTest, eBin, eVar, eC, eLst, aNil, R.bind, s.left_, lineOk, neNil s.l, i0, eqI]
theorem cutTail (ds : List D) (d : D) : cutL (d :: ds) (some 1) none = ds := by
  have e : HT.sIx (d :: ds).length 0 (some 1) = 1 := by
    show HT.sIx (d :: ds).length 0 (some ((1 : Nat) : Int)) = 1
    rw [HT.sIx_nat]; simp
  have e2 : HT.sIx (d :: ds).length (d :: ds).length none = ds.length + 1 := rfl
  unfold cutL
  rw [e, e2]
  simp
theorem Src.lt (s : Src h b cells left t) : b < h.length := (List.getElem?_eq_some_iff.mp s.l).1
theorem Src.lt2 (s : Src h b cells left t) : 2 < h.length := (List.getElem?_eq_some_iff.mp s.d).1
/-- another list stands for left -/
theorem Src.relist (s : Src h b cells left t) (ys : List Int) (hp : ∀ x ∈ ys, 0 ≤ x) : Src ((h ++ [O.lst (ys.map D.int)]).set 2 (O.dic [ck, lk, ak] [.ref 0, .ref h.length, .int t])) h.length cells ys t ∧
    Fr h b ((h ++ [O.lst (ys.map D.int)]).set 2 (O.dic [ck, lk, ak] [.ref 0, .ref h.length, .int t])) h.length := by
  have h2 := s.lt2
  refine ⟨⟨?_, ?_, ?_, by omega, by omega, hp, s.t0, s.t1⟩, ⟨by simp, .inr (Nat.le_refl _), fun j hj j2 jb => ?_⟩⟩
  · rw [List.getElem?_set_ne (by omega), List.getElem?_append_left (by omega)]; exact s.c
  · rw [List.getElem?_set_self (by simp; omega)]
  · rw [List.getElem?_set_ne (by omega)]; simp
  · rw [List.getElem?_set_ne (by omega), List.getElem?_append_left hj]
theorem wloop : ∀ (left : List Int) (h : Hh) (b : Nat) (cells : List Int) (t : Int) (r : De), Src h b cells left t → ∃ h' b' left' n, n ≤ left.length + 1 ∧ left'.length ≤ left.length ∧ whileN tW uW n (some (.ref 2) :: r) h = .nx (some (.ref 2) :: r) h' ∧ Src h' b' cells left' t ∧ Fr h b h' b' ∧ (left' = [] ∨ ∃ y ys, left' = y :: ys ∧ 0 < y)
  | [], h, b, cells, t, r, s => ⟨h, b, [], 1, by simp, by simp, by simp [whileN, tW_ok s none, R.toS], s, Fr.refl h b, .inl rfl⟩
  | y :: ys, h, b, cells, t, r, s => by
    by_cases hy : y = 0
    · subst hy
      obtain ⟨s1, f1⟩ := s.relist ys fun x hx => s.pos x (List.mem_cons_of_mem _ hx)
      obtain ⟨h', b', left', n, hn, hl, e, s', f', k⟩ := wloop ys _ _ cells t r s1
      refine ⟨h', b', left', n + 1, by simpa using hn, by simp; omega, ?_, s', f1.trans f', k⟩
      have el : asL h (.ref b) = some (((0 : Int) :: ys).map .int) := by unfold asL; dsimp only; rw [s.l]
      have eu : uW (some (.ref 2) :: r) h = .nx (some (.ref 2) :: r) ((h ++ [O.lst (ys.map D.int)]).set 2 (O.dic [ck, lk, ak] [.ref 0, .ref h.length, .int t])) := by
        have hd : (h ++ [O.lst (ys.map D.int)])[2]? = some (O.dic [ck, lk, ak] [.ref 0, .ref b, .int t]) := by rw [List.getElem?_append_left s.lt2]; exact s.d
        have so := setDic (i := lk) (y := .ref h.length) hd rfl (by simp)
        have e1 : putKs [ck, lk, ak] lk = [ck, lk, ak] := rfl
        have e2 : putVs [ck, lk, ak] [.ref 0, .ref b, .int t] lk (.ref h.length) = [.ref 0, .ref h.length, .int t] := rfl
        rw [e1, e2] at so
        simp [uW, sIxS, eSliceM, eBin, eVar, eC, R.toS, R.bind, s.left_, oSome, oNone, sliceM, el, cutTail, kSet, so]
      unfold whileN
      simp only [tW_ok s none, R.toS, decide_true, if_true, eu]
      exact e
    · refine ⟨h, b, y :: ys, 1, by simp, by simp, by simp [whileN, tW_ok s none, R.toS, hy], s, Fr.refl h b, .inr ⟨y, ys, rfl, ?_⟩⟩
      have := s.pos y (by simp)
      omega
def restN : FnS := (sSeq (sIf (eTest (eBin neD (eBin ixA (eVar 0) (eC (.str [108, 101, 102, 116]))) (eLst aNil))) (sSeq (sSet 2 (eB intB (aCons (eBin ixA (eBin ixA (eVar 0) (eC (.str [108, 101, 102, 116]))) (eC (.int 0))) aNil))) (sSeq (sIxS (eBin ixA (eVar 0) (eC (.str [108, 101, 102, 116]))) (eC (.int 0)) (eBin divD (eVar 2) (eVar 1))) (sRet (eBin modD (eVar 2) (eVar 1))))) sNil) (sSeq (sSet 3 (eBin addD (eBin ixA (eVar 0) (eC (.str [97, 116]))) (eC (.int 1)))) (sSeq (sIxS (eVar 0) (eC (.str [97, 116])) (eVar 3)) (sSeq (sSet 4 (eIf (eTest (eBin neD (eBin ixA (eVar 0) (eC (.str [99, 101, 108, 108, 115]))) (eLst aNil))) (eBin ixA (eBin ixA (eVar 0) (eC (.str [99, 101, 108, 108, 115]))) (eBin modD (eB intB (aCons (eVar 3) aNil)) (eB lenB (aCons (eBin ixA (eVar 0) (eC (.str [99, 101, 108, 108, 115]))) aNil)))) (eC (.int 5)))) (sSeq (sSet 5 (eBin mulD (eB intB (aCons (eBin addD (eBin addD (eBin modD (eB intB (aCons (eVar 4) aNil)) (eC (.int 2147483629))) (eBin mulD (eC (.int 7919)) (eVar 3))) (eBin mulD (eBin mulD (eC (.int 17)) (eVar 3)) (eVar 3))) aNil)) (eC (.int 48271)))) (sSeq (sSet 5 (eBin mulD (eB intB (aCons (eBin addD (eBin modD (eB intB (aCons (eVar 5) aNil)) (eC (.int 2147483647))) (eBin mulD (eC (.int 104729)) (eVar 3))) aNil)) (eC (.int 69621)))) (sRet (eBin modD (eB intB (aCons (eBin divD (eBin modD (eB intB (aCons (eVar 5) aNil)) (eC (.int 2147483587))) (eC (.int 13))) aNil)) (eVar 1)))))))))
theorem next_is : u__law_next = sSeq (whileN tW uW fuel) restN := rfl
def Good (h : Hh) (b : Nat) (N : Nat) : Prop := ∃ cells left t, Src h b cells left t ∧ left.length ≤ 1000 ∧ t + (N : Int) < 1073741824
theorem next_ok (g : Good h b (N + 1)) (k : Int) (k0 : 0 < k) (k1 : k < 1073741824) : ∃ v h' b', f__law_next [.ref 2, .int k] h = .ok (.int v) h' ∧ 0 ≤ v ∧ v < k ∧ Good h' b' N ∧ Fr h b h' b' := by
  obtain ⟨cells, left, t, s, hl, ht⟩ := g
  obtain ⟨h1, b1, left1, n, hn, hl1, e, s1, f1, fin⟩ := wloop left h b cells t [some (.int k), none, none, none, none] s
  have t1 := s.t0
  have ew : whileN tW uW fuel [some (.ref 2), some (.int k), none, none, none, none] h = .nx [some (.ref 2), some (.int k), none, none, none, none] h1 := by
    have := whileN_mono (t := tW) (u := uW) n fuel [some (.ref 2), some (.int k), none, none, none, none] h (by show n ≤ 4611686018427387904; omega) (by rw [e]; simp)
    rw [this, e]
  have run : f__law_next [.ref 2, .int k] h = endD (restN [some (.ref 2), some (.int k), none, none, none, none] h1) := by
    unfold f__law_next runD startD
    rw [next_is]
    show endD (sSeq (whileN tW uW fuel) restN [some (.ref 2), some (.int k), none, none, none, none] h) = _
    unfold sSeq
    rw [ew]
  rw [run]
  rcases fin with rfl | ⟨y, ys, rfl, hy⟩
  · -- no great numbers left
    have hd := setDic (i := ak) (y := .int (t + 1)) s1.d rfl (by simp)
    have e1 : putKs [ck, lk, ak] ak = [ck, lk, ak] := rfl
    have e2 : putVs [ck, lk, ak] [.ref 0, .ref b1, .int t] ak (.int (t + 1)) = [.ref 0, .ref b1, .int (t + 1)] := rfl
    rw [e1, e2] at hd
    have h2 := s1.lt2
    have s2 : Src (h1.set 2 (.dic [ck, lk, ak] [.ref 0, .ref b1, .int (t + 1)])) b1 cells [] (t + 1) :=
      ⟨by rw [List.getElem?_set_ne (by omega)]; exact s1.c, by rw [List.getElem?_set_self h2], by rw [List.getElem?_set_ne (Ne.symm s1.b2)]; exact s1.l, s1.b0, s1.b2, s1.pos, by omega, by omega⟩
    have f2 : Fr h1 b1 (h1.set 2 (.dic [ck, lk, ak] [.ref 0, .ref b1, .int (t + 1)])) b1 := ⟨by simp, .inl rfl, fun j hj j2 jb => by rw [List.getElem?_set_ne (by omega)]⟩
    have cell : ∃ c : Int, (eIf (eTest (eBin neD (eBin ixA (eVar 0) (eC (.str [99, 101, 108, 108, 115]))) (eLst aNil))) (eBin ixA (eBin ixA (eVar 0) (eC (.str [99, 101, 108, 108, 115]))) (eBin modD (eB intB (aCons (eVar 3) aNil)) (eB lenB (aCons (eBin ixA (eVar 0) (eC (.str [99, 101, 108, 108, 115]))) aNil)))) (eC (.int 5)))
        [some (.ref 2), some (.int k), none, some (.int (t + 1)), none, none] (h1.set 2 (.dic [ck, lk, ak] [.ref 0, .ref b1, .int (t + 1)])) = .ok (.int c) (h1.set 2 (.dic [ck, lk, ak] [.ref 0, .ref b1, .int (t + 1)])) := by
      cases cells with
      | nil => exact ⟨5, by simp [eIf, eTest, eBin, eVar, eC, eLst, aNil, R.bind, s2.cells_, lineOk, neNil s2.c]⟩
      | cons c cs =>
        have hp : (0 : Int) < ((List.map D.int (c :: cs)).length : Int) := by simp
        have hm := Int.emod_nonneg (t + 1) (Int.ne_of_gt hp)
        have hm2 := Int.emod_lt_of_pos (t + 1) hp
        have hlt : ((t + 1) % ((List.map D.int (c :: cs)).length : Int)).toNat < (c :: cs).length := by
          simp only [List.length_map] at hm hm2 ⊢
          omega
        refine ⟨(c :: cs)[((t + 1) % ((List.map D.int (c :: cs)).length : Int)).toNat], ?_⟩
        have ga : ixA (.ref 0) (.int ((t + 1) % ((List.map D.int (c :: cs)).length : Int))) (h1.set 2 (.dic [ck, lk, ak] [.ref 0, .ref b1, .int (t + 1)])) = .ok (.int ((c :: cs)[((t + 1) % ((List.map D.int (c :: cs)).length : Int)).toNat])) (h1.set 2 (.dic [ck, lk, ak] [.ref 0, .ref b1, .int (t + 1)])) :=
          ixRefAt s2.c hm (by rw [List.getElem?_map, List.getElem?_eq_getElem hlt]; rfl)
        simp only [eIf, eTest, eBin, eVar, eC, eLst, aNil, aCons, eB, R.bind, s2.cells_, lineOk, neNil s2.c, List.isEmpty_cons, Bool.not_false, if_true, List.getElem?_cons_zero, List.getElem?_cons_succ, intB1, lenRef s2.c, modI _ hp, ga, List.length_nil, Nat.zero_le, decide_true]
    obtain ⟨c, hc⟩ := cell
    have hv : ∃ v, endD (restN [some (.ref 2), some (.int k), none, none, none, none] h1) = .ok (.int (v % k)) (h1.set 2 (.dic [ck, lk, ak] [.ref 0, .ref b1, .int (t + 1)])) := by
      simp (disch := omega) only [restN, sSeq, sIf, eTest, eBin, eVar, eC, eLst, aNil, aCons, eB, R.bind, R.toS, s1.left_, s1.at_, lineOk, neNil s1.l, List.isEmpty_nil, Bool.not_true, if_false, Bool.false_eq_true, List.getElem?_cons_zero, List.getElem?_cons_succ, sNil, sSet, addI, List.set_cons_zero, List.set_cons_succ, sIxS, kSet, hd, hc, intB1, modI, mulL, mulR, divI, sRet, endD, List.length_nil, Nat.zero_le, decide_true, if_true]
      exact ⟨_, rfl⟩
    obtain ⟨v, hv⟩ := hv
    exact ⟨_, _, b1, hv, Int.emod_nonneg _ (by omega), Int.emod_lt_of_pos _ k0, ⟨cells, [], t + 1, s2, by simp, by push_cast at ht; omega⟩, f1.trans f2⟩
  · -- the first of the great numbers is used up
    have i0 : ixA (.ref b1) (.int 0) h1 = .ok (.int y) h1 := ixRefAt s1.l (by omega) (geti rfl)
    have so := setRef (i := 0) (y := .int (y / k)) s1.l (by omega) (by simp)
    have es : (((y :: ys).map D.int).set (0 : Int).toNat (.int (y / k))) = ((y / k) :: ys).map D.int := rfl
    rw [es] at so
    have bl := s1.lt
    have s2 : Src (h1.set b1 (.lst (((y / k) :: ys).map D.int))) b1 cells ((y / k) :: ys) t :=
      ⟨by rw [List.getElem?_set_ne s1.b0]; exact s1.c, by rw [List.getElem?_set_ne s1.b2]; exact s1.d, by rw [List.getElem?_set_self bl], s1.b0, s1.b2, fun x hx => by
        rcases List.mem_cons.mp hx with rfl | hx
        · exact Int.ediv_nonneg (by omega) (by omega)
        · exact s1.pos x (List.mem_cons_of_mem _ hx), s1.t0, s1.t1⟩
    have f2 : Fr h1 b1 (h1.set b1 (.lst (((y / k) :: ys).map D.int))) b1 := ⟨by simp, .inl rfl, fun j hj j2 jb => by rw [List.getElem?_set_ne (Ne.symm jb)]⟩
    have hv : endD (restN [some (.ref 2), some (.int k), none, none, none, none] h1) = .ok (.int (y % k)) (h1.set b1 (.lst (((y / k) :: ys).map D.int))) := by
      simp (disch := omega) only [restN, sSeq, sIf, eTest, eBin, eVar, eC, eLst, aNil, aCons, eB, R.bind, R.toS, s1.left_, lineOk, neNil s1.l, List.isEmpty_cons, Bool.not_false, List.getElem?_cons_zero, List.getElem?_cons_succ, sSet, List.set_cons_zero, List.set_cons_succ, sIxS, kSet, i0, so, intB1, modI, divI, sRet, endD, List.length_nil, Nat.zero_le, decide_true, if_true]
    exact ⟨_, _, b1, hv, Int.emod_nonneg _ (by omega), Int.emod_lt_of_pos _ k0, ⟨cells, _, t, s2, by simp at hl1 ⊢; omega, by push_cast at ht; omega⟩, f1.trans f2⟩
theorem Good.app {h : Hh} {b N : Nat} (g : Good h b N) (t : Hh) : Good (h ++ t) b N := by
  obtain ⟨cells, left, tt, s, h1, h2⟩ := g
  have l2 := s.lt2
  have lb := s.lt
  exact ⟨cells, left, tt, ⟨by rw [List.getElem?_append_left (by omega)]; exact s.c, by rw [List.getElem?_append_left (by omega)]; exact s.d, by rw [List.getElem?_append_left (by omega)]; exact s.l, s.b0, s.b2, s.pos, s.t0, s.t1⟩, h1, h2⟩
theorem Good.weak {h : Hh} {b N M : Nat} (g : Good h b N) (hm : M ≤ N) : Good h b M := by
  obtain ⟨cells, left, t, s, h1, h2⟩ := g
  exact ⟨cells, left, t, s, h1, by omega⟩
/-! the source is made -/
theorem pow18 (h : Hh) : powD (.int 10) (.int 18) h = .ok (.int 1000000000000000000) h := by simp [powD]
theorem filt (a b : Option D) (h : Hh) : ∀ ns : List Int, lcs (gSet 1) (eTest (eBin geD (eVar 1) (eBin powD (eC (.int 10)) (eC (.int 18))))) (eVar 1) [a, b] (ns.map D.int) h = .ok ((ns.filter fun x => decide (1000000000000000000 ≤ x)).map D.int) h
  | [] => rfl
  | n :: ns => by
    have ih := filt a b h ns
    rw [List.map_cons, lcCons]
    by_cases hn : 1000000000000000000 ≤ n
    · simp [pow18, hn, ih, runD, startD, endRt, endNx, endExc, seqE, seqNx, seqRt, seqExc, sNil, sPass, sIf, sRet, sRetN, sExpr, sSet, sAsg, sPar, kPar, setAll, sIxS, kSet, L3.sFld, eVar, eC, eBin, eTest, eChain, eUn, tAnd3, tOr3, tNot3, eAnd, eOr, eNot, eIf, aNil, aCons, eTup, eLst, eLstM, eCall, kCall, eMeth, kMeth, clsObj, eB, one, eFld, fldD, fieldAt, L3.putAt, eProp, kProp, noX, eMake, eLc, kLst, iSeq, L3.iZip, kZip, zipL, immS, iRg1, lcNil, lcCons, lcAS, lcBT, lcBF, lcCO, loNil, loCons, loAS, loNx, loCt, loBk, loRt, L3.sFor, sForW, eLcW, wSeq, wZip, kZipW, loopW, lcW, optS, wipeD, gSet, gTupD, gsNil, gsCons, tYes3, eIsi, isiD, kdOf, isK, allB, anyB, sumB, L3.listOf, blsOf, intsOf, asL, bindOk, bindExc, bindStk, toSOk, toSExc, lineOk, addI, subI, negI, mulL, mulR, divI, modI, ltI, leI, gtI, geI, eqI, neI, intB1, intB2, lenTup, lenLst, lenScr, tup0, tup1, tup2, tup3, tup4, tup5, lst0, lst1, lst2, lst3, List.getElem?_cons_zero, List.getElem?_cons_succ, List.getElem?_nil, List.set_cons_zero, List.set_cons_succ, List.length_cons, List.length_nil, List.map_cons, List.map_nil, List.replicate_succ, List.replicate_zero, List.cons_append, List.nil_append, List.append_nil, if_true, if_false, ite_true, ite_false, Bool.false_eq_true, Bool.not_true, Bool.not_false, Bool.true_and, Bool.and_true, Bool.false_and, Bool.and_false, Bool.or_true, Bool.true_or, Bool.false_or, Bool.or_false, and_self, and_true, true_and, Nat.sub_zero, Nat.sub_self, Nat.reduceSub, Nat.reduceAdd, Nat.reduceLeDiff, Nat.reduceEqDiff, decide_true, decide_false, Nat.zero_le]
    · simp [pow18, hn, ih, runD, startD, endRt, endNx, endExc, seqE, seqNx, seqRt, seqExc, sNil, sPass, sIf, sRet, sRetN, sExpr, sSet, sAsg, sPar, kPar, setAll, sIxS, kSet, L3.sFld, eVar, eC, eBin, eTest, eChain, eUn, tAnd3, tOr3, tNot3, eAnd, eOr, eNot, eIf, aNil, aCons, eTup, eLst, eLstM, eCall, kCall, eMeth, kMeth, clsObj, eB, one, eFld, fldD, fieldAt, L3.putAt, eProp, kProp, noX, eMake, eLc, kLst, iSeq, L3.iZip, kZip, zipL, immS, iRg1, lcNil, lcCons, lcAS, lcBT, lcBF, lcCO, loNil, loCons, loAS, loNx, loCt, loBk, loRt, L3.sFor, sForW, eLcW, wSeq, wZip, kZipW, loopW, lcW, optS, wipeD, gSet, gTupD, gsNil, gsCons, tYes3, eIsi, isiD, kdOf, isK, allB, anyB, sumB, L3.listOf, blsOf, intsOf, asL, bindOk, bindExc, bindStk, toSOk, toSExc, lineOk, addI, subI, negI, mulL, mulR, divI, modI, ltI, leI, gtI, geI, eqI, neI, intB1, intB2, lenTup, lenLst, lenScr, tup0, tup1, tup2, tup3, tup4, tup5, lst0, lst1, lst2, lst3, List.getElem?_cons_zero, List.getElem?_cons_succ, List.getElem?_nil, List.set_cons_zero, List.set_cons_succ, List.length_cons, List.length_nil, List.map_cons, List.map_nil, List.replicate_succ, List.replicate_zero, List.cons_append, List.nil_append, List.append_nil, if_true, if_false, ite_true, ite_false, Bool.false_eq_true, Bool.not_true, Bool.not_false, Bool.true_and, Bool.and_true, Bool.false_and, Bool.and_false, Bool.or_true, Bool.true_or, Bool.false_or, Bool.or_false, and_self, and_true, true_and, Nat.sub_zero, Nat.sub_self, Nat.reduceSub, Nat.reduceAdd, Nat.reduceLeDiff, Nat.reduceEqDiff, decide_true, decide_false, Nat.zero_le]
theorem begun_ok (ns : List Int) (hl : ns.length ≤ 63) : ∃ h', f__law_begun [.scr (ns.map D.int)] [] = .ok (.ref 2) h' ∧ Good h' 1 1000000 := by
  refine ⟨[.lst (ns.map D.int), .lst ((ns.filter fun x => decide (1000000000000000000 ≤ x)).map D.int), .dic [ck, lk, ak] [.ref 0, .ref 1, .int 0]], ?_, ?_⟩
  · have hf := List.length_filter_le (fun x => decide ((1000000000000000000 : Int) ≤ x)) ns
    have h1 : (List.filter (fun x => decide ((1000000000000000000 : Int) ≤ x)) ns).length ≤ 16777216 := by omega
    simp [f__law_begun, u__law_begun_1, u__law_begun, eDic, dPairs, noXP, kDic, keysOk, isKey, hasK, keyEq, listMB, asSeq, filt, h1, runD, startD, endRt, endNx, endExc, seqE, seqNx, seqRt, seqExc, sNil, sPass, sIf, sRet, sRetN, sExpr, sSet, sAsg, sPar, kPar, setAll, sIxS, kSet, L3.sFld, eVar, eC, eBin, eTest, eChain, eUn, tAnd3, tOr3, tNot3, eAnd, eOr, eNot, eIf, aNil, aCons, eTup, eLst, eLstM, eCall, kCall, eMeth, kMeth, clsObj, eB, one, eFld, fldD, fieldAt, L3.putAt, eProp, kProp, noX, eMake, eLc, kLst, iSeq, L3.iZip, kZip, zipL, immS, iRg1, lcNil, lcCons, lcAS, lcBT, lcBF, lcCO, loNil, loCons, loAS, loNx, loCt, loBk, loRt, L3.sFor, sForW, eLcW, wSeq, wZip, kZipW, loopW, lcW, optS, wipeD, gSet, gTupD, gsNil, gsCons, tYes3, eIsi, isiD, kdOf, isK, allB, anyB, sumB, L3.listOf, blsOf, intsOf, asL, bindOk, bindExc, bindStk, toSOk, toSExc, lineOk, addI, subI, negI, mulL, mulR, divI, modI, ltI, leI, gtI, geI, eqI, neI, intB1, intB2, lenTup, lenLst, lenScr, tup0, tup1, tup2, tup3, tup4, tup5, lst0, lst1, lst2, lst3, List.getElem?_cons_zero, List.getElem?_cons_succ, List.getElem?_nil, List.set_cons_zero, List.set_cons_succ, List.length_cons, List.length_nil, List.map_cons, List.map_nil, List.replicate_succ, List.replicate_zero, List.cons_append, List.nil_append, List.append_nil, if_true, if_false, ite_true, ite_false, Bool.false_eq_true, Bool.not_true, Bool.not_false, Bool.true_and, Bool.and_true, Bool.false_and, Bool.and_false, Bool.or_true, Bool.true_or, Bool.false_or, Bool.or_false, and_self, and_true, true_and, Nat.sub_zero, Nat.sub_self, Nat.reduceSub, Nat.reduceAdd, Nat.reduceLeDiff, Nat.reduceEqDiff, decide_true, decide_false, Nat.zero_le]
  · refine ⟨ns, ns.filter fun x => decide (1000000000000000000 ≤ x), 0, ⟨rfl, rfl, rfl, by decide, by decide, fun x hx => ?_, by decide, by decide⟩, ?_, by decide⟩
    · have := List.mem_filter.mp hx
      have := of_decide_eq_true this.2
      omega
    · have hf := List.length_filter_le (fun x => decide ((1000000000000000000 : Int) ≤ x)) ns
      omega
theorem turns_ok (c k : Nat) (hc : c ≤ 100) (hk : k ≤ 100) (ns : List Int) (r : De) (h : Hh) : iRg1 (eBin addD (eC (.int (c : Int))) (eB min2B (aCons (eB lenB (aCons (eVar 0) aNil)) (aCons (eC (.int (k : Int))) aNil)))) (some (.scr (ns.map D.int)) :: r) h = .ok (rgD 0 (c + min ns.length k)) h := by
  have e : ((c : Int) + (if (k : Int) < (ns.length : Int) then (k : Int) else (ns.length : Int))) = ((c + min ns.length k : Nat) : Int) := by
    by_cases hh : k < ns.length
    · rw [if_pos (by omega), Nat.min_eq_right (by omega)]; rfl
    · rw [if_neg (by omega), Nat.min_eq_left (by omega)]; rfl
  have b : ((c + min ns.length k : Nat) : Int) ≤ 200 := by omega
  show (if -(2 ^ 62) ≤ (c : Int) + (if (k : Int) < (((ns.map D.int).length : Nat) : Int) then (k : Int) else (((ns.map D.int).length : Nat) : Int)) ∧ (c : Int) + (if (k : Int) < (((ns.map D.int).length : Nat) : Int) then (k : Int) else (((ns.map D.int).length : Nat) : Int)) < 2 ^ 62 then R.ok (rgD 0 ((c : Int) + (if (k : Int) < (((ns.map D.int).length : Nat) : Int) then (k : Int) else (((ns.map D.int).length : Nat) : Int))).toNat) h else .stk) = _
  rw [List.length_map, e, if_pos ⟨by omega, by omega⟩]
  rfl
end Lw
set_option autoImplicit false
set_option maxHeartbeats 8000000
set_option autoImplicit true
namespace Lw
open PySem PySem.Spec L2 L3
/-! triangles: what the functions answer -/
def int3 (a b c : Int) : D := .tup [.int a, .int b, .int c]
def int6 (a b c d e f : Int) : D := .tup [.int a, .int b, .int c, .int d, .int e, .int f]
def betw (lo x hi : Int) : Bool := decide (lo ≤ x) && decide (x ≤ hi)
theorem whole_ok (x lo hi : Int) (h : Hh) : f_is_whole_in [.int x, .int lo, .int hi] h = .ok (.bl (betw lo x hi)) h := by
  by_cases h1 : lo ≤ x <;> simp (disch := omega) [f_is_whole_in, u_is_whole_in_1, u_is_whole_in, betw, h1, runD, startD, endRt, endNx, endExc, seqE, seqNx, seqRt, seqExc, sNil, sPass, sIf, sRet, sRetN, sExpr, sSet, sAsg, sPar, kPar, setAll, sIxS, kSet, L3.sFld, eVar, eC, eBin, eTest, eChain, eUn, tAnd3, tOr3, tNot3, eAnd, eOr, eNot, eIf, aNil, aCons, eTup, eLst, eLstM, eCall, kCall, eMeth, kMeth, clsObj, eB, one, eFld, fldD, fieldAt, L3.putAt, eProp, kProp, noX, eMake, eLc, kLst, iSeq, L3.iZip, kZip, zipL, immS, iRg1, lcNil, lcCons, lcAS, lcBT, lcBF, lcCO, loNil, loCons, loAS, loNx, loCt, loBk, loRt, L3.sFor, sForW, eLcW, wSeq, wZip, kZipW, loopW, lcW, optS, wipeD, gSet, gTupD, gsNil, gsCons, tYes3, eIsi, isiD, kdOf, isK, allB, anyB, sumB, L3.listOf, blsOf, intsOf, asL, bindOk, bindExc, bindStk, toSOk, toSExc, lineOk, addI, subI, negI, mulL, mulR, divI, modI, ltI, leI, gtI, geI, eqI, neI, intB1, intB2, lenTup, lenLst, lenScr, tup0, tup1, tup2, tup3, tup4, tup5, lst0, lst1, lst2, lst3, List.getElem?_cons_zero, List.getElem?_cons_succ, List.getElem?_nil, List.set_cons_zero, List.set_cons_succ, List.length_cons, List.length_nil, List.map_cons, List.map_nil, List.replicate_succ, List.replicate_zero, List.cons_append, List.nil_append, List.append_nil, if_true, if_false, ite_true, ite_false, Bool.false_eq_true, Bool.not_true, Bool.not_false, Bool.true_and, Bool.and_true, Bool.false_and, Bool.and_false, Bool.or_true, Bool.true_or, Bool.false_or, Bool.or_false, and_self, and_true, true_and, Nat.sub_zero, Nat.sub_self, Nat.reduceSub, Nat.reduceAdd, Nat.reduceLeDiff, Nat.reduceEqDiff, decide_true, decide_false, Nat.zero_le]
theorem are6_ok (a b c d e f lo hi : Int) (h : Hh) : f_are_whole_in [int6 a b c d e f, .int 6, .int lo, .int hi] h = .ok (.bl (betw lo a hi && (betw lo b hi && (betw lo c hi && (betw lo d hi && (betw lo e hi && betw lo f hi)))))) h := by
  simp (disch := omega) [f_are_whole_in, u_are_whole_in_1_a_1, u_are_whole_in_1, u_are_whole_in_2, u_are_whole_in, int6, whole_ok, runD, startD, endRt, endNx, endExc, seqE, seqNx, seqRt, seqExc, sNil, sPass, sIf, sRet, sRetN, sExpr, sSet, sAsg, sPar, kPar, setAll, sIxS, kSet, L3.sFld, eVar, eC, eBin, eTest, eChain, eUn, tAnd3, tOr3, tNot3, eAnd, eOr, eNot, eIf, aNil, aCons, eTup, eLst, eLstM, eCall, kCall, eMeth, kMeth, clsObj, eB, one, eFld, fldD, fieldAt, L3.putAt, eProp, kProp, noX, eMake, eLc, kLst, iSeq, L3.iZip, kZip, zipL, immS, iRg1, lcNil, lcCons, lcAS, lcBT, lcBF, lcCO, loNil, loCons, loAS, loNx, loCt, loBk, loRt, L3.sFor, sForW, eLcW, wSeq, wZip, kZipW, loopW, lcW, optS, wipeD, gSet, gTupD, gsNil, gsCons, tYes3, eIsi, isiD, kdOf, isK, allB, anyB, sumB, L3.listOf, blsOf, intsOf, asL, bindOk, bindExc, bindStk, toSOk, toSExc, lineOk, addI, subI, negI, mulL, mulR, divI, modI, ltI, leI, gtI, geI, eqI, neI, intB1, intB2, lenTup, lenLst, lenScr, tup0, tup1, tup2, tup3, tup4, tup5, lst0, lst1, lst2, lst3, List.getElem?_cons_zero, List.getElem?_cons_succ, List.getElem?_nil, List.set_cons_zero, List.set_cons_succ, List.length_cons, List.length_nil, List.map_cons, List.map_nil, List.replicate_succ, List.replicate_zero, List.cons_append, List.nil_append, List.append_nil, if_true, if_false, ite_true, ite_false, Bool.false_eq_true, Bool.not_true, Bool.not_false, Bool.true_and, Bool.and_true, Bool.false_and, Bool.and_false, Bool.or_true, Bool.true_or, Bool.false_or, Bool.or_false, and_self, and_true, true_and, Nat.sub_zero, Nat.sub_self, Nat.reduceSub, Nat.reduceAdd, Nat.reduceLeDiff, Nat.reduceEqDiff, decide_true, decide_false, Nat.zero_le]
theorem are2_ok (a b lo hi : Int) (h : Hh) : f_are_whole_in [.tup [.int a, .int b], .int 2, .int lo, .int hi] h = .ok (.bl (betw lo a hi && betw lo b hi)) h := by
  simp (disch := omega) [f_are_whole_in, u_are_whole_in_1_a_1, u_are_whole_in_1, u_are_whole_in_2, u_are_whole_in, whole_ok, runD, startD, endRt, endNx, endExc, seqE, seqNx, seqRt, seqExc, sNil, sPass, sIf, sRet, sRetN, sExpr, sSet, sAsg, sPar, kPar, setAll, sIxS, kSet, L3.sFld, eVar, eC, eBin, eTest, eChain, eUn, tAnd3, tOr3, tNot3, eAnd, eOr, eNot, eIf, aNil, aCons, eTup, eLst, eLstM, eCall, kCall, eMeth, kMeth, clsObj, eB, one, eFld, fldD, fieldAt, L3.putAt, eProp, kProp, noX, eMake, eLc, kLst, iSeq, L3.iZip, kZip, zipL, immS, iRg1, lcNil, lcCons, lcAS, lcBT, lcBF, lcCO, loNil, loCons, loAS, loNx, loCt, loBk, loRt, L3.sFor, sForW, eLcW, wSeq, wZip, kZipW, loopW, lcW, optS, wipeD, gSet, gTupD, gsNil, gsCons, tYes3, eIsi, isiD, kdOf, isK, allB, anyB, sumB, L3.listOf, blsOf, intsOf, asL, bindOk, bindExc, bindStk, toSOk, toSExc, lineOk, addI, subI, negI, mulL, mulR, divI, modI, ltI, leI, gtI, geI, eqI, neI, intB1, intB2, lenTup, lenLst, lenScr, tup0, tup1, tup2, tup3, tup4, tup5, lst0, lst1, lst2, lst3, List.getElem?_cons_zero, List.getElem?_cons_succ, List.getElem?_nil, List.set_cons_zero, List.set_cons_succ, List.length_cons, List.length_nil, List.map_cons, List.map_nil, List.replicate_succ, List.replicate_zero, List.cons_append, List.nil_append, List.append_nil, if_true, if_false, ite_true, ite_false, Bool.false_eq_true, Bool.not_true, Bool.not_false, Bool.true_and, Bool.and_true, Bool.false_and, Bool.and_false, Bool.or_true, Bool.true_or, Bool.false_or, Bool.or_false, and_self, and_true, true_and, Nat.sub_zero, Nat.sub_self, Nat.reduceSub, Nat.reduceAdd, Nat.reduceLeDiff, Nat.reduceEqDiff, decide_true, decide_false, Nat.zero_le]
theorem corner_ok {a b c d e f : Int} {h : Hh} (ha : -1000 ≤ a ∧ a ≤ 1000) (hb : -1000 ≤ b ∧ b ≤ 1000) (hc : -1000 ≤ c ∧ c ≤ 1000) (hd : -1000 ≤ d ∧ d ≤ 1000) (he : -1000 ≤ e ∧ e ≤ 1000) (hf : 1 ≤ f ∧ f ≤ 1000) : f_is_corner [int6 a b c d e f] h = .ok (.bl true) h := by
  have h1 : f_are_whole_in [int6 a b c d e f, .int 6, .int (-1000), .int 1000] h = .ok (.bl true) h := by
    rw [are6_ok]
    simp [betw, ha, hb, hc, hd, he, hf, show -1000 ≤ f by omega]
  simp (disch := omega) [f_is_corner, u_is_corner_1, u_is_corner, c_MAX_NUMBER, h1, runD, startD, endRt, endNx, endExc, seqE, seqNx, seqRt, seqExc, sNil, sPass, sIf, sRet, sRetN, sExpr, sSet, sAsg, sPar, kPar, setAll, sIxS, kSet, L3.sFld, eVar, eC, eBin, eTest, eChain, eUn, tAnd3, tOr3, tNot3, eAnd, eOr, eNot, eIf, aNil, aCons, eTup, eLst, eLstM, eCall, kCall, eMeth, kMeth, clsObj, eB, one, eFld, fldD, fieldAt, L3.putAt, eProp, kProp, noX, eMake, eLc, kLst, iSeq, L3.iZip, kZip, zipL, immS, iRg1, lcNil, lcCons, lcAS, lcBT, lcBF, lcCO, loNil, loCons, loAS, loNx, loCt, loBk, loRt, L3.sFor, sForW, eLcW, wSeq, wZip, kZipW, loopW, lcW, optS, wipeD, gSet, gTupD, gsNil, gsCons, tYes3, eIsi, isiD, kdOf, isK, allB, anyB, sumB, L3.listOf, blsOf, intsOf, asL, bindOk, bindExc, bindStk, toSOk, toSExc, lineOk, addI, subI, negI, mulL, mulR, divI, modI, ltI, leI, gtI, geI, eqI, neI, intB1, intB2, lenTup, lenLst, lenScr, tup0, tup1, tup2, tup3, tup4, tup5, lst0, lst1, lst2, lst3, List.getElem?_cons_zero, List.getElem?_cons_succ, List.getElem?_nil, List.set_cons_zero, List.set_cons_succ, List.length_cons, List.length_nil, List.map_cons, List.map_nil, List.replicate_succ, List.replicate_zero, List.cons_append, List.nil_append, List.append_nil, if_true, if_false, ite_true, ite_false, Bool.false_eq_true, Bool.not_true, Bool.not_false, Bool.true_and, Bool.and_true, Bool.false_and, Bool.and_false, Bool.or_true, Bool.true_or, Bool.false_or, Bool.or_false, and_self, and_true, true_and, Nat.sub_zero, Nat.sub_self, Nat.reduceSub, Nat.reduceAdd, Nat.reduceLeDiff, Nat.reduceEqDiff, decide_true, decide_false, Nat.zero_le]
  simp [int6, hf, runD, startD, endRt, endNx, endExc, seqE, seqNx, seqRt, seqExc, sNil, sPass, sIf, sRet, sRetN, sExpr, sSet, sAsg, sPar, kPar, setAll, sIxS, kSet, L3.sFld, eVar, eC, eBin, eTest, eChain, eUn, tAnd3, tOr3, tNot3, eAnd, eOr, eNot, eIf, aNil, aCons, eTup, eLst, eLstM, eCall, kCall, eMeth, kMeth, clsObj, eB, one, eFld, fldD, fieldAt, L3.putAt, eProp, kProp, noX, eMake, eLc, kLst, iSeq, L3.iZip, kZip, zipL, immS, iRg1, lcNil, lcCons, lcAS, lcBT, lcBF, lcCO, loNil, loCons, loAS, loNx, loCt, loBk, loRt, L3.sFor, sForW, eLcW, wSeq, wZip, kZipW, loopW, lcW, optS, wipeD, gSet, gTupD, gsNil, gsCons, tYes3, eIsi, isiD, kdOf, isK, allB, anyB, sumB, L3.listOf, blsOf, intsOf, asL, bindOk, bindExc, bindStk, toSOk, toSExc, lineOk, addI, subI, negI, mulL, mulR, divI, modI, ltI, leI, gtI, geI, eqI, neI, intB1, intB2, lenTup, lenLst, lenScr, tup0, tup1, tup2, tup3, tup4, tup5, lst0, lst1, lst2, lst3, List.getElem?_cons_zero, List.getElem?_cons_succ, List.getElem?_nil, List.set_cons_zero, List.set_cons_succ, List.length_cons, List.length_nil, List.map_cons, List.map_nil, List.replicate_succ, List.replicate_zero, List.cons_append, List.nil_append, List.append_nil, if_true, if_false, ite_true, ite_false, Bool.false_eq_true, Bool.not_true, Bool.not_false, Bool.true_and, Bool.and_true, Bool.false_and, Bool.and_false, Bool.or_true, Bool.true_or, Bool.false_or, Bool.or_false, and_self, and_true, true_and, Nat.sub_zero, Nat.sub_self, Nat.reduceSub, Nat.reduceAdd, Nat.reduceLeDiff, Nat.reduceEqDiff, decide_true, decide_false, Nat.zero_le]
theorem row_ok (a b c d e f : Int) (h : Hh) : f_eye_row [int6 a b c d e f] h = .ok (int3 a b d) h := by
  simp (disch := omega) [f_eye_row, u_eye_row_1, u_eye_row, int6, int3, runD, startD, endRt, endNx, endExc, seqE, seqNx, seqRt, seqExc, sNil, sPass, sIf, sRet, sRetN, sExpr, sSet, sAsg, sPar, kPar, setAll, sIxS, kSet, L3.sFld, eVar, eC, eBin, eTest, eChain, eUn, tAnd3, tOr3, tNot3, eAnd, eOr, eNot, eIf, aNil, aCons, eTup, eLst, eLstM, eCall, kCall, eMeth, kMeth, clsObj, eB, one, eFld, fldD, fieldAt, L3.putAt, eProp, kProp, noX, eMake, eLc, kLst, iSeq, L3.iZip, kZip, zipL, immS, iRg1, lcNil, lcCons, lcAS, lcBT, lcBF, lcCO, loNil, loCons, loAS, loNx, loCt, loBk, loRt, L3.sFor, sForW, eLcW, wSeq, wZip, kZipW, loopW, lcW, optS, wipeD, gSet, gTupD, gsNil, gsCons, tYes3, eIsi, isiD, kdOf, isK, allB, anyB, sumB, L3.listOf, blsOf, intsOf, asL, bindOk, bindExc, bindStk, toSOk, toSExc, lineOk, addI, subI, negI, mulL, mulR, divI, modI, ltI, leI, gtI, geI, eqI, neI, intB1, intB2, lenTup, lenLst, lenScr, tup0, tup1, tup2, tup3, tup4, tup5, lst0, lst1, lst2, lst3, List.getElem?_cons_zero, List.getElem?_cons_succ, List.getElem?_nil, List.set_cons_zero, List.set_cons_succ, List.length_cons, List.length_nil, List.map_cons, List.map_nil, List.replicate_succ, List.replicate_zero, List.cons_append, List.nil_append, List.append_nil, if_true, if_false, ite_true, ite_false, Bool.false_eq_true, Bool.not_true, Bool.not_false, Bool.true_and, Bool.and_true, Bool.false_and, Bool.and_false, Bool.or_true, Bool.true_or, Bool.false_or, Bool.or_false, and_self, and_true, true_and, Nat.sub_zero, Nat.sub_self, Nat.reduceSub, Nat.reduceAdd, Nat.reduceLeDiff, Nat.reduceEqDiff, decide_true, decide_false, Nat.zero_le]
structure Sm (a b c : Int) : Prop where
  a : -1000 ≤ a ∧ a ≤ 1000
  b : -1000 ≤ b ∧ b ≤ 1000
  c : -1000 ≤ c ∧ c ≤ 1000
theorem crossed_ok {a b c x y z : Int} {h : Hh} (s : Sm a b c) : f_crossed_rows [int3 a b c, int3 x y z] h = .ok (int3 (b * z - c * y) (c * x - a * z) (a * y - b * x)) h := by
  obtain ⟨h1, h2, h3⟩ := s
  simp (disch := omega) [f_crossed_rows, u_crossed_rows_1, u_crossed_rows, int3, runD, startD, endRt, endNx, endExc, seqE, seqNx, seqRt, seqExc, sNil, sPass, sIf, sRet, sRetN, sExpr, sSet, sAsg, sPar, kPar, setAll, sIxS, kSet, L3.sFld, eVar, eC, eBin, eTest, eChain, eUn, tAnd3, tOr3, tNot3, eAnd, eOr, eNot, eIf, aNil, aCons, eTup, eLst, eLstM, eCall, kCall, eMeth, kMeth, clsObj, eB, one, eFld, fldD, fieldAt, L3.putAt, eProp, kProp, noX, eMake, eLc, kLst, iSeq, L3.iZip, kZip, zipL, immS, iRg1, lcNil, lcCons, lcAS, lcBT, lcBF, lcCO, loNil, loCons, loAS, loNx, loCt, loBk, loRt, L3.sFor, sForW, eLcW, wSeq, wZip, kZipW, loopW, lcW, optS, wipeD, gSet, gTupD, gsNil, gsCons, tYes3, eIsi, isiD, kdOf, isK, allB, anyB, sumB, L3.listOf, blsOf, intsOf, asL, bindOk, bindExc, bindStk, toSOk, toSExc, lineOk, addI, subI, negI, mulL, mulR, divI, modI, ltI, leI, gtI, geI, eqI, neI, intB1, intB2, lenTup, lenLst, lenScr, tup0, tup1, tup2, tup3, tup4, tup5, lst0, lst1, lst2, lst3, List.getElem?_cons_zero, List.getElem?_cons_succ, List.getElem?_nil, List.set_cons_zero, List.set_cons_succ, List.length_cons, List.length_nil, List.map_cons, List.map_nil, List.replicate_succ, List.replicate_zero, List.cons_append, List.nil_append, List.append_nil, if_true, if_false, ite_true, ite_false, Bool.false_eq_true, Bool.not_true, Bool.not_false, Bool.true_and, Bool.and_true, Bool.false_and, Bool.and_false, Bool.or_true, Bool.true_or, Bool.false_or, Bool.or_false, and_self, and_true, true_and, Nat.sub_zero, Nat.sub_self, Nat.reduceSub, Nat.reduceAdd, Nat.reduceLeDiff, Nat.reduceEqDiff, decide_true, decide_false, Nat.zero_le]
theorem edge_ok {a b c x y z g : Int} {h : Hh} (s : Sm a b c) (hg : g = 1 ∨ g = -1) : f_linear_edge [int3 a b c, int3 x y z, .int g] h = .ok (int3 (g * 2 * (b * z - c * y)) (g * 2 * (c * x - a * z)) (g * (b * z - c * y + (c * x - a * z) + 2 * (a * y - b * x)))) h := by
  have hg1 : -18446744073709551616 < g ∧ g < 18446744073709551616 := by omega
  simp (disch := omega) [f_linear_edge, u_linear_edge_1, u_linear_edge_2, u_linear_edge, crossed_ok s, runD, startD, endRt, endNx, endExc, seqE, seqNx, seqRt, seqExc, sNil, sPass, sIf, sRet, sRetN, sExpr, sSet, sAsg, sPar, kPar, setAll, sIxS, kSet, L3.sFld, eVar, eC, eBin, eTest, eChain, eUn, tAnd3, tOr3, tNot3, eAnd, eOr, eNot, eIf, aNil, aCons, eTup, eLst, eLstM, eCall, kCall, eMeth, kMeth, clsObj, eB, one, eFld, fldD, fieldAt, L3.putAt, eProp, kProp, noX, eMake, eLc, kLst, iSeq, L3.iZip, kZip, zipL, immS, iRg1, lcNil, lcCons, lcAS, lcBT, lcBF, lcCO, loNil, loCons, loAS, loNx, loCt, loBk, loRt, L3.sFor, sForW, eLcW, wSeq, wZip, kZipW, loopW, lcW, optS, wipeD, gSet, gTupD, gsNil, gsCons, tYes3, eIsi, isiD, kdOf, isK, allB, anyB, sumB, L3.listOf, blsOf, intsOf, asL, bindOk, bindExc, bindStk, toSOk, toSExc, lineOk, addI, subI, negI, mulL, mulR, divI, modI, ltI, leI, gtI, geI, eqI, neI, intB1, intB2, lenTup, lenLst, lenScr, tup0, tup1, tup2, tup3, tup4, tup5, lst0, lst1, lst2, lst3, List.getElem?_cons_zero, List.getElem?_cons_succ, List.getElem?_nil, List.set_cons_zero, List.set_cons_succ, List.length_cons, List.length_nil, List.map_cons, List.map_nil, List.replicate_succ, List.replicate_zero, List.cons_append, List.nil_append, List.append_nil, if_true, if_false, ite_true, ite_false, Bool.false_eq_true, Bool.not_true, Bool.not_false, Bool.true_and, Bool.and_true, Bool.false_and, Bool.and_false, Bool.or_true, Bool.true_or, Bool.false_or, Bool.or_false, and_self, and_true, true_and, Nat.sub_zero, Nat.sub_self, Nat.reduceSub, Nat.reduceAdd, Nat.reduceLeDiff, Nat.reduceEqDiff, decide_true, decide_false, Nat.zero_le]
  simp (disch := omega) [int3, gTupD, gsCons, gSet, gsNil, runD, startD, endRt, endNx, endExc, seqE, seqNx, seqRt, seqExc, sNil, sPass, sIf, sRet, sRetN, sExpr, sSet, sAsg, sPar, kPar, setAll, sIxS, kSet, L3.sFld, eVar, eC, eBin, eTest, eChain, eUn, tAnd3, tOr3, tNot3, eAnd, eOr, eNot, eIf, aNil, aCons, eTup, eLst, eLstM, eCall, kCall, eMeth, kMeth, clsObj, eB, one, eFld, fldD, fieldAt, L3.putAt, eProp, kProp, noX, eMake, eLc, kLst, iSeq, L3.iZip, kZip, zipL, immS, iRg1, lcNil, lcCons, lcAS, lcBT, lcBF, lcCO, loNil, loCons, loAS, loNx, loCt, loBk, loRt, L3.sFor, sForW, eLcW, wSeq, wZip, kZipW, loopW, lcW, optS, wipeD, gSet, gTupD, gsNil, gsCons, tYes3, eIsi, isiD, kdOf, isK, allB, anyB, sumB, L3.listOf, blsOf, intsOf, asL, bindOk, bindExc, bindStk, toSOk, toSExc, lineOk, addI, subI, negI, mulL, mulR, divI, modI, ltI, leI, gtI, geI, eqI, neI, intB1, intB2, lenTup, lenLst, lenScr, tup0, tup1, tup2, tup3, tup4, tup5, lst0, lst1, lst2, lst3, List.getElem?_cons_zero, List.getElem?_cons_succ, List.getElem?_nil, List.set_cons_zero, List.set_cons_succ, List.length_cons, List.length_nil, List.map_cons, List.map_nil, List.replicate_succ, List.replicate_zero, List.cons_append, List.nil_append, List.append_nil, if_true, if_false, ite_true, ite_false, Bool.false_eq_true, Bool.not_true, Bool.not_false, Bool.true_and, Bool.and_true, Bool.false_and, Bool.and_false, Bool.or_true, Bool.true_or, Bool.false_or, Bool.or_false, and_self, and_true, true_and, Nat.sub_zero, Nat.sub_self, Nat.reduceSub, Nat.reduceAdd, Nat.reduceLeDiff, Nat.reduceEqDiff, decide_true, decide_false, Nat.zero_le]
def size9 (a b c x y z u v w : Int) : Int := a * (y * w - z * v) + b * (z * u - x * w) + c * (x * v - y * u)
def sg (n : Int) : Int := if n < 0 then -1 else 1
theorem sg_or (n : Int) : sg n = 1 ∨ sg n = -1 := by unfold sg; split <;> simp
def edg (g a b c x y z : Int) : D := int3 (g * 2 * (b * z - c * y)) (g * 2 * (c * x - a * z)) (g * (b * z - c * y + (c * x - a * z) + 2 * (a * y - b * x)))
/-- a triangle, frozen -/
def triD (p q r : D) (a b c x y z u v w : Int) : D := .obj 0 [.tup [p, q, r], .int (size9 a b c x y z u v w), .tup [edg (sg (size9 a b c x y z u v w)) x y z u v w, edg (sg (size9 a b c x y z u v w)) u v w a b c, edg (sg (size9 a b c x y z u v w)) a b c x y z]]
theorem i30 (a b c : Int) (h : Hh) : ixA (int3 a b c) (.int 0) h = .ok (.int a) h := tup0
theorem i31 (a b c : Int) (h : Hh) : ixA (int3 a b c) (.int 1) h = .ok (.int b) h := tup1
theorem i32 (a b c : Int) (h : Hh) : ixA (int3 a b c) (.int 2) h = .ok (.int c) h := tup2
theorem make_ok {a b c x y z u v w a1 a2 a3 x1 x2 x3 u1 u2 u3 : Int} {h : Hh} (s1 : Sm a b c) (s2 : Sm x y z) (s3 : Sm u v w)
    (k1 : f_is_corner [int6 a b a1 c a2 a3] (h ++ [.obj 0 []]) = .ok (.bl true) (h ++ [.obj 0 []])) (k2 : f_is_corner [int6 x y x1 z x2 x3] (h ++ [.obj 0 []]) = .ok (.bl true) (h ++ [.obj 0 []])) (k3 : f_is_corner [int6 u v u1 w u2 u3] (h ++ [.obj 0 []]) = .ok (.bl true) (h ++ [.obj 0 []])) :
    kMake 0 3 4 f_Triangle___init__ [] [int6 a b a1 c a2 a3, int6 x y x1 z x2 x3, int6 u v u1 w u2 u3] h = .ok (triD (int6 a b a1 c a2 a3) (int6 x y x1 z x2 x3) (int6 u v u1 w u2 u3) a b c x y z u v w) (h ++ [.dead]) := by
  have q1 := s1.a
  have q2 := s1.b
  have q3 := s1.c
  have one1 : (1 : Int) = 1 ∨ (1 : Int) = -1 := .inl rfl
  have one2 : (-1 : Int) = 1 ∨ (-1 : Int) = -1 := .inr rfl
  by_cases hs : a * (y * w - z * v) + b * (z * u - x * w) + c * (x * v - y * u) < 0
  · simp (disch := omega) [kMake, endMake, f_Triangle___init__, u_Triangle___init___1_a_1, u_Triangle___init___1, u_Triangle___init___2, u_Triangle___init___3, u_Triangle___init___4, u_Triangle___init___5, u_Triangle___init___6, u_Triangle___init___7, u_Triangle___init__, k1, k2, k3, ix_corners, ix_own_size, ix_own_edges, set_last, get_last, i30, i31, i32, hs, row_ok, crossed_ok s2, edge_ok s2 one2, edge_ok s3 one2, edge_ok s1 one2, runD, startD, endRt, endNx, endExc, seqE, seqNx, seqRt, seqExc, sNil, sPass, sIf, sRet, sRetN, sExpr, sSet, sAsg, sPar, kPar, setAll, sIxS, kSet, L3.sFld, eVar, eC, eBin, eTest, eChain, eUn, tAnd3, tOr3, tNot3, eAnd, eOr, eNot, eIf, aNil, aCons, eTup, eLst, eLstM, eCall, kCall, eMeth, kMeth, clsObj, eB, one, eFld, fldD, fieldAt, L3.putAt, eProp, kProp, noX, eMake, eLc, kLst, iSeq, L3.iZip, kZip, zipL, immS, iRg1, lcNil, lcCons, lcAS, lcBT, lcBF, lcCO, loNil, loCons, loAS, loNx, loCt, loBk, loRt, L3.sFor, sForW, eLcW, wSeq, wZip, kZipW, loopW, lcW, optS, wipeD, gSet, gTupD, gsNil, gsCons, tYes3, eIsi, isiD, kdOf, isK, allB, anyB, sumB, L3.listOf, blsOf, intsOf, asL, bindOk, bindExc, bindStk, toSOk, toSExc, lineOk, addI, subI, negI, mulL, mulR, divI, modI, ltI, leI, gtI, geI, eqI, neI, intB1, intB2, lenTup, lenLst, lenScr, tup0, tup1, tup2, tup3, tup4, tup5, lst0, lst1, lst2, lst3, List.getElem?_cons_zero, List.getElem?_cons_succ, List.getElem?_nil, List.set_cons_zero, List.set_cons_succ, List.length_cons, List.length_nil, List.map_cons, List.map_nil, List.replicate_succ, List.replicate_zero, List.cons_append, List.nil_append, List.append_nil, if_true, if_false, ite_true, ite_false, Bool.false_eq_true, Bool.not_true, Bool.not_false, Bool.true_and, Bool.and_true, Bool.false_and, Bool.and_false, Bool.or_true, Bool.true_or, Bool.false_or, Bool.or_false, and_self, and_true, true_and, Nat.sub_zero, Nat.sub_self, Nat.reduceSub, Nat.reduceAdd, Nat.reduceLeDiff, Nat.reduceEqDiff, decide_true, decide_false, Nat.zero_le]
    simp [triD, edg, size9, sg, hs]
  · simp (disch := omega) [kMake, endMake, f_Triangle___init__, u_Triangle___init___1_a_1, u_Triangle___init___1, u_Triangle___init___2, u_Triangle___init___3, u_Triangle___init___4, u_Triangle___init___5, u_Triangle___init___6, u_Triangle___init___7, u_Triangle___init__, k1, k2, k3, ix_corners, ix_own_size, ix_own_edges, set_last, get_last, i30, i31, i32, hs, row_ok, crossed_ok s2, edge_ok s2 one1, edge_ok s3 one1, edge_ok s1 one1, runD, startD, endRt, endNx, endExc, seqE, seqNx, seqRt, seqExc, sNil, sPass, sIf, sRet, sRetN, sExpr, sSet, sAsg, sPar, kPar, setAll, sIxS, kSet, L3.sFld, eVar, eC, eBin, eTest, eChain, eUn, tAnd3, tOr3, tNot3, eAnd, eOr, eNot, eIf, aNil, aCons, eTup, eLst, eLstM, eCall, kCall, eMeth, kMeth, clsObj, eB, one, eFld, fldD, fieldAt, L3.putAt, eProp, kProp, noX, eMake, eLc, kLst, iSeq, L3.iZip, kZip, zipL, immS, iRg1, lcNil, lcCons, lcAS, lcBT, lcBF, lcCO, loNil, loCons, loAS, loNx, loCt, loBk, loRt, L3.sFor, sForW, eLcW, wSeq, wZip, kZipW, loopW, lcW, optS, wipeD, gSet, gTupD, gsNil, gsCons, tYes3, eIsi, isiD, kdOf, isK, allB, anyB, sumB, L3.listOf, blsOf, intsOf, asL, bindOk, bindExc, bindStk, toSOk, toSExc, lineOk, addI, subI, negI, mulL, mulR, divI, modI, ltI, leI, gtI, geI, eqI, neI, intB1, intB2, lenTup, lenLst, lenScr, tup0, tup1, tup2, tup3, tup4, tup5, lst0, lst1, lst2, lst3, List.getElem?_cons_zero, List.getElem?_cons_succ, List.getElem?_nil, List.set_cons_zero, List.set_cons_succ, List.length_cons, List.length_nil, List.map_cons, List.map_nil, List.replicate_succ, List.replicate_zero, List.cons_append, List.nil_append, List.append_nil, if_true, if_false, ite_true, ite_false, Bool.false_eq_true, Bool.not_true, Bool.not_false, Bool.true_and, Bool.and_true, Bool.false_and, Bool.and_false, Bool.or_true, Bool.true_or, Bool.false_or, Bool.or_false, and_self, and_true, true_and, Nat.sub_zero, Nat.sub_self, Nat.reduceSub, Nat.reduceAdd, Nat.reduceLeDiff, Nat.reduceEqDiff, decide_true, decide_false, Nat.zero_le]
    simp [triD, edg, size9, sg, hs]
/-! covering -/
def letB (e0 e1 v : Int) : Bool := decide (0 < v) || (decide (v = 0) && (decide (0 < e0) || (decide (e0 = 0) && decide (0 < e1))))
theorem let_ok (a b c v : Int) (h : Hh) : f_is_let_in [int3 a b c, .int v] h = .ok (.bl (letB a b v)) h := by
  by_cases h1 : 0 < v <;> by_cases h2 : v = 0 <;> by_cases h3 : 0 < a <;> by_cases h4 : a = 0 <;> first
    | (exfalso; omega)
    | (simp (disch := omega) [f_is_let_in, u_is_let_in_1, u_is_let_in, letB, i30, i31, h1, h2, h3, h4, runD, startD, endRt, endNx, endExc, seqE, seqNx, seqRt, seqExc, sNil, sPass, sIf, sRet, sRetN, sExpr, sSet, sAsg, sPar, kPar, setAll, sIxS, kSet, L3.sFld, eVar, eC, eBin, eTest, eChain, eUn, tAnd3, tOr3, tNot3, eAnd, eOr, eNot, eIf, aNil, aCons, eTup, eLst, eLstM, eCall, kCall, eMeth, kMeth, clsObj, eB, one, eFld, fldD, fieldAt, L3.putAt, eProp, kProp, noX, eMake, eLc, kLst, iSeq, L3.iZip, kZip, zipL, immS, iRg1, lcNil, lcCons, lcAS, lcBT, lcBF, lcCO, loNil, loCons, loAS, loNx, loCt, loBk, loRt, L3.sFor, sForW, eLcW, wSeq, wZip, kZipW, loopW, lcW, optS, wipeD, gSet, gTupD, gsNil, gsCons, tYes3, eIsi, isiD, kdOf, isK, allB, anyB, sumB, L3.listOf, blsOf, intsOf, asL, bindOk, bindExc, bindStk, toSOk, toSExc, lineOk, addI, subI, negI, mulL, mulR, divI, modI, ltI, leI, gtI, geI, eqI, neI, intB1, intB2, lenTup, lenLst, lenScr, tup0, tup1, tup2, tup3, tup4, tup5, lst0, lst1, lst2, lst3, List.getElem?_cons_zero, List.getElem?_cons_succ, List.getElem?_nil, List.set_cons_zero, List.set_cons_succ, List.length_cons, List.length_nil, List.map_cons, List.map_nil, List.replicate_succ, List.replicate_zero, List.cons_append, List.nil_append, List.append_nil, if_true, if_false, ite_true, ite_false, Bool.false_eq_true, Bool.not_true, Bool.not_false, Bool.true_and, Bool.and_true, Bool.false_and, Bool.and_false, Bool.or_true, Bool.true_or, Bool.false_or, Bool.or_false, and_self, and_true, true_and, Nat.sub_zero, Nat.sub_self, Nat.reduceSub, Nat.reduceAdd, Nat.reduceLeDiff, Nat.reduceEqDiff, decide_true, decide_false, Nat.zero_le]; done)
theorem place_ok {i j : Int} {h : Hh} (hi : -1000 ≤ i ∧ i ≤ 1000) (hj : -1000 ≤ j ∧ j ≤ 1000) : f_need_whole_place [.tup [.int i, .int j]] h = .ok .non h := by
  have h1 : f_are_whole_in [.tup [.int i, .int j], .int 2, .int (-1000), .int 1000] h = .ok (.bl true) h := by
    rw [are2_ok]
    simp [betw, hi, hj]
  simp (disch := omega) [f_need_whole_place, u_need_whole_place_1_a_1, u_need_whole_place_1, u_need_whole_place, c_MAX_NUMBER, h1, runD, startD, endRt, endNx, endExc, seqE, seqNx, seqRt, seqExc, sNil, sPass, sIf, sRet, sRetN, sExpr, sSet, sAsg, sPar, kPar, setAll, sIxS, kSet, L3.sFld, eVar, eC, eBin, eTest, eChain, eUn, tAnd3, tOr3, tNot3, eAnd, eOr, eNot, eIf, aNil, aCons, eTup, eLst, eLstM, eCall, kCall, eMeth, kMeth, clsObj, eB, one, eFld, fldD, fieldAt, L3.putAt, eProp, kProp, noX, eMake, eLc, kLst, iSeq, L3.iZip, kZip, zipL, immS, iRg1, lcNil, lcCons, lcAS, lcBT, lcBF, lcCO, loNil, loCons, loAS, loNx, loCt, loBk, loRt, L3.sFor, sForW, eLcW, wSeq, wZip, kZipW, loopW, lcW, optS, wipeD, gSet, gTupD, gsNil, gsCons, tYes3, eIsi, isiD, kdOf, isK, allB, anyB, sumB, L3.listOf, blsOf, intsOf, asL, bindOk, bindExc, bindStk, toSOk, toSExc, lineOk, addI, subI, negI, mulL, mulR, divI, modI, ltI, leI, gtI, geI, eqI, neI, intB1, intB2, lenTup, lenLst, lenScr, tup0, tup1, tup2, tup3, tup4, tup5, lst0, lst1, lst2, lst3, List.getElem?_cons_zero, List.getElem?_cons_succ, List.getElem?_nil, List.set_cons_zero, List.set_cons_succ, List.length_cons, List.length_nil, List.map_cons, List.map_nil, List.replicate_succ, List.replicate_zero, List.cons_append, List.nil_append, List.append_nil, if_true, if_false, ite_true, ite_false, Bool.false_eq_true, Bool.not_true, Bool.not_false, Bool.true_and, Bool.and_true, Bool.false_and, Bool.and_false, Bool.or_true, Bool.true_or, Bool.false_or, Bool.or_false, and_self, and_true, true_and, Nat.sub_zero, Nat.sub_self, Nat.reduceSub, Nat.reduceAdd, Nat.reduceLeDiff, Nat.reduceEqDiff, decide_true, decide_false, Nat.zero_le]
/-- a triangle by its edges -/
def objD (cs : D) (n : Int) (a b c x y z u v w : Int) : D := .obj 0 [cs, .int n, .tup [int3 a b c, int3 x y z, int3 u v w]]
theorem values_ok {cs : D} {n a b c x y z u v w i j : Int} {h : Hh} (hi : -1000 ≤ i ∧ i ≤ 1000) (hj : -1000 ≤ j ∧ j ≤ 1000) :
    f_Triangle_values_at [objD cs n a b c x y z u v w, .tup [.int i, .int j]] h = .ok (.lst [.int (a * i + b * j + c), .int (x * i + y * j + z), .int (u * i + v * j + w)]) h := by
  simp (disch := omega) [f_Triangle_values_at, u_Triangle_values_at_1, u_Triangle_values_at_2, u_Triangle_values_at, objD, int3, ix_own_edges, runD, startD, endRt, endNx, endExc, seqE, seqNx, seqRt, seqExc, sNil, sPass, sIf, sRet, sRetN, sExpr, sSet, sAsg, sPar, kPar, setAll, sIxS, kSet, L3.sFld, eVar, eC, eBin, eTest, eChain, eUn, tAnd3, tOr3, tNot3, eAnd, eOr, eNot, eIf, aNil, aCons, eTup, eLst, eLstM, eCall, kCall, eMeth, kMeth, clsObj, eB, one, eFld, fldD, fieldAt, L3.putAt, eProp, kProp, noX, eMake, eLc, kLst, iSeq, L3.iZip, kZip, zipL, immS, iRg1, lcNil, lcCons, lcAS, lcBT, lcBF, lcCO, loNil, loCons, loAS, loNx, loCt, loBk, loRt, L3.sFor, sForW, eLcW, wSeq, wZip, kZipW, loopW, lcW, optS, wipeD, gSet, gTupD, gsNil, gsCons, tYes3, eIsi, isiD, kdOf, isK, allB, anyB, sumB, L3.listOf, blsOf, intsOf, asL, bindOk, bindExc, bindStk, toSOk, toSExc, lineOk, addI, subI, negI, mulL, mulR, divI, modI, ltI, leI, gtI, geI, eqI, neI, intB1, intB2, lenTup, lenLst, lenScr, tup0, tup1, tup2, tup3, tup4, tup5, lst0, lst1, lst2, lst3, List.getElem?_cons_zero, List.getElem?_cons_succ, List.getElem?_nil, List.set_cons_zero, List.set_cons_succ, List.length_cons, List.length_nil, List.map_cons, List.map_nil, List.replicate_succ, List.replicate_zero, List.cons_append, List.nil_append, List.append_nil, if_true, if_false, ite_true, ite_false, Bool.false_eq_true, Bool.not_true, Bool.not_false, Bool.true_and, Bool.and_true, Bool.false_and, Bool.and_false, Bool.or_true, Bool.true_or, Bool.false_or, Bool.or_false, and_self, and_true, true_and, Nat.sub_zero, Nat.sub_self, Nat.reduceSub, Nat.reduceAdd, Nat.reduceLeDiff, Nat.reduceEqDiff, decide_true, decide_false, Nat.zero_le]
theorem over_ok (cs : D) (n a b c x y z u v w p q r : Int) (h : Hh) : f_Triangle_is_over [objD cs n a b c x y z u v w, .lst [.int p, .int q, .int r]] h = .ok (.bl (!decide (n = 0) && (letB a b p && (letB x y q && letB u v r)))) h := by
  by_cases hn : n = 0
  · simp (disch := omega) [f_Triangle_is_over, u_Triangle_is_over_1, u_Triangle_is_over, objD, ix_own_size, hn, runD, startD, endRt, endNx, endExc, seqE, seqNx, seqRt, seqExc, sNil, sPass, sIf, sRet, sRetN, sExpr, sSet, sAsg, sPar, kPar, setAll, sIxS, kSet, L3.sFld, eVar, eC, eBin, eTest, eChain, eUn, tAnd3, tOr3, tNot3, eAnd, eOr, eNot, eIf, aNil, aCons, eTup, eLst, eLstM, eCall, kCall, eMeth, kMeth, clsObj, eB, one, eFld, fldD, fieldAt, L3.putAt, eProp, kProp, noX, eMake, eLc, kLst, iSeq, L3.iZip, kZip, zipL, immS, iRg1, lcNil, lcCons, lcAS, lcBT, lcBF, lcCO, loNil, loCons, loAS, loNx, loCt, loBk, loRt, L3.sFor, sForW, eLcW, wSeq, wZip, kZipW, loopW, lcW, optS, wipeD, gSet, gTupD, gsNil, gsCons, tYes3, eIsi, isiD, kdOf, isK, allB, anyB, sumB, L3.listOf, blsOf, intsOf, asL, bindOk, bindExc, bindStk, toSOk, toSExc, lineOk, addI, subI, negI, mulL, mulR, divI, modI, ltI, leI, gtI, geI, eqI, neI, intB1, intB2, lenTup, lenLst, lenScr, tup0, tup1, tup2, tup3, tup4, tup5, lst0, lst1, lst2, lst3, List.getElem?_cons_zero, List.getElem?_cons_succ, List.getElem?_nil, List.set_cons_zero, List.set_cons_succ, List.length_cons, List.length_nil, List.map_cons, List.map_nil, List.replicate_succ, List.replicate_zero, List.cons_append, List.nil_append, List.append_nil, if_true, if_false, ite_true, ite_false, Bool.false_eq_true, Bool.not_true, Bool.not_false, Bool.true_and, Bool.and_true, Bool.false_and, Bool.and_false, Bool.or_true, Bool.true_or, Bool.false_or, Bool.or_false, and_self, and_true, true_and, Nat.sub_zero, Nat.sub_self, Nat.reduceSub, Nat.reduceAdd, Nat.reduceLeDiff, Nat.reduceEqDiff, decide_true, decide_false, Nat.zero_le]
  · simp (disch := omega) [f_Triangle_is_over, u_Triangle_is_over_1, u_Triangle_is_over, objD, ix_own_size, ix_own_edges, hn, let_ok, runD, startD, endRt, endNx, endExc, seqE, seqNx, seqRt, seqExc, sNil, sPass, sIf, sRet, sRetN, sExpr, sSet, sAsg, sPar, kPar, setAll, sIxS, kSet, L3.sFld, eVar, eC, eBin, eTest, eChain, eUn, tAnd3, tOr3, tNot3, eAnd, eOr, eNot, eIf, aNil, aCons, eTup, eLst, eLstM, eCall, kCall, eMeth, kMeth, clsObj, eB, one, eFld, fldD, fieldAt, L3.putAt, eProp, kProp, noX, eMake, eLc, kLst, iSeq, L3.iZip, kZip, zipL, immS, iRg1, lcNil, lcCons, lcAS, lcBT, lcBF, lcCO, loNil, loCons, loAS, loNx, loCt, loBk, loRt, L3.sFor, sForW, eLcW, wSeq, wZip, kZipW, loopW, lcW, optS, wipeD, gSet, gTupD, gsNil, gsCons, tYes3, eIsi, isiD, kdOf, isK, allB, anyB, sumB, L3.listOf, blsOf, intsOf, asL, bindOk, bindExc, bindStk, toSOk, toSExc, lineOk, addI, subI, negI, mulL, mulR, divI, modI, ltI, leI, gtI, geI, eqI, neI, intB1, intB2, lenTup, lenLst, lenScr, tup0, tup1, tup2, tup3, tup4, tup5, lst0, lst1, lst2, lst3, List.getElem?_cons_zero, List.getElem?_cons_succ, List.getElem?_nil, List.set_cons_zero, List.set_cons_succ, List.length_cons, List.length_nil, List.map_cons, List.map_nil, List.replicate_succ, List.replicate_zero, List.cons_append, List.nil_append, List.append_nil, if_true, if_false, ite_true, ite_false, Bool.false_eq_true, Bool.not_true, Bool.not_false, Bool.true_and, Bool.and_true, Bool.false_and, Bool.and_false, Bool.or_true, Bool.true_or, Bool.false_or, Bool.or_false, and_self, and_true, true_and, Nat.sub_zero, Nat.sub_self, Nat.reduceSub, Nat.reduceAdd, Nat.reduceLeDiff, Nat.reduceEqDiff, decide_true, decide_false, Nat.zero_le]
def covB (n a b c x y z u v w i j : Int) : Bool := !decide (n = 0) && (letB a b (a * i + b * j + c) && (letB x y (x * i + y * j + z) && letB u v (u * i + v * j + w)))
theorem covers_ok {cs : D} {n a b c x y z u v w i j : Int} {h : Hh} (hi : -1000 ≤ i ∧ i ≤ 1000) (hj : -1000 ≤ j ∧ j ≤ 1000) :
    f_Triangle_covers [objD cs n a b c x y z u v w, .tup [.int i, .int j]] h = .ok (.bl (covB n a b c x y z u v w i j)) h := by
  have e : clsOf h (objD cs n a b c x y z u v w) = some 0 := rfl
  simp (disch := omega) [f_Triangle_covers, u_Triangle_covers_1, u_Triangle_covers_2, u_Triangle_covers, place_ok hi hj, values_ok hi hj, over_ok, e, covB, runD, startD, endRt, endNx, endExc, seqE, seqNx, seqRt, seqExc, sNil, sPass, sIf, sRet, sRetN, sExpr, sSet, sAsg, sPar, kPar, setAll, sIxS, kSet, L3.sFld, eVar, eC, eBin, eTest, eChain, eUn, tAnd3, tOr3, tNot3, eAnd, eOr, eNot, eIf, aNil, aCons, eTup, eLst, eLstM, eCall, kCall, eMeth, kMeth, clsObj, eB, one, eFld, fldD, fieldAt, L3.putAt, eProp, kProp, noX, eMake, eLc, kLst, iSeq, L3.iZip, kZip, zipL, immS, iRg1, lcNil, lcCons, lcAS, lcBT, lcBF, lcCO, loNil, loCons, loAS, loNx, loCt, loBk, loRt, L3.sFor, sForW, eLcW, wSeq, wZip, kZipW, loopW, lcW, optS, wipeD, gSet, gTupD, gsNil, gsCons, tYes3, eIsi, isiD, kdOf, isK, allB, anyB, sumB, L3.listOf, blsOf, intsOf, asL, bindOk, bindExc, bindStk, toSOk, toSExc, lineOk, addI, subI, negI, mulL, mulR, divI, modI, ltI, leI, gtI, geI, eqI, neI, intB1, intB2, lenTup, lenLst, lenScr, tup0, tup1, tup2, tup3, tup4, tup5, lst0, lst1, lst2, lst3, List.getElem?_cons_zero, List.getElem?_cons_succ, List.getElem?_nil, List.set_cons_zero, List.set_cons_succ, List.length_cons, List.length_nil, List.map_cons, List.map_nil, List.replicate_succ, List.replicate_zero, List.cons_append, List.nil_append, List.append_nil, if_true, if_false, ite_true, ite_false, Bool.false_eq_true, Bool.not_true, Bool.not_false, Bool.true_and, Bool.and_true, Bool.false_and, Bool.and_false, Bool.or_true, Bool.true_or, Bool.false_or, Bool.or_false, and_self, and_true, true_and, Nat.sub_zero, Nat.sub_self, Nat.reduceSub, Nat.reduceAdd, Nat.reduceLeDiff, Nat.reduceEqDiff, decide_true, decide_false, Nat.zero_le]
theorem facing_ok (cs : D) (n a b c x y z u v w : Int) (h : Hh) : f_Triangle_facing [objD cs n a b c x y z u v w] h = .ok (.int ((if 0 < n then 1 else 0) - (if n < 0 then 1 else 0))) h := by
  simp (disch := omega) [f_Triangle_facing, u_Triangle_facing_1, u_Triangle_facing, objD, ix_own_size, runD, startD, endRt, endNx, endExc, seqE, seqNx, seqRt, seqExc, sNil, sPass, sIf, sRet, sRetN, sExpr, sSet, sAsg, sPar, kPar, setAll, sIxS, kSet, L3.sFld, eVar, eC, eBin, eTest, eChain, eUn, tAnd3, tOr3, tNot3, eAnd, eOr, eNot, eIf, aNil, aCons, eTup, eLst, eLstM, eCall, kCall, eMeth, kMeth, clsObj, eB, one, eFld, fldD, fieldAt, L3.putAt, eProp, kProp, noX, eMake, eLc, kLst, iSeq, L3.iZip, kZip, zipL, immS, iRg1, lcNil, lcCons, lcAS, lcBT, lcBF, lcCO, loNil, loCons, loAS, loNx, loCt, loBk, loRt, L3.sFor, sForW, eLcW, wSeq, wZip, kZipW, loopW, lcW, optS, wipeD, gSet, gTupD, gsNil, gsCons, tYes3, eIsi, isiD, kdOf, isK, allB, anyB, sumB, L3.listOf, blsOf, intsOf, asL, bindOk, bindExc, bindStk, toSOk, toSExc, lineOk, addI, subI, negI, mulL, mulR, divI, modI, ltI, leI, gtI, geI, eqI, neI, intB1, intB2, lenTup, lenLst, lenScr, tup0, tup1, tup2, tup3, tup4, tup5, lst0, lst1, lst2, lst3, List.getElem?_cons_zero, List.getElem?_cons_succ, List.getElem?_nil, List.set_cons_zero, List.set_cons_succ, List.length_cons, List.length_nil, List.map_cons, List.map_nil, List.replicate_succ, List.replicate_zero, List.cons_append, List.nil_append, List.append_nil, if_true, if_false, ite_true, ite_false, Bool.false_eq_true, Bool.not_true, Bool.not_false, Bool.true_and, Bool.and_true, Bool.false_and, Bool.and_false, Bool.or_true, Bool.true_or, Bool.false_or, Bool.or_false, and_self, and_true, true_and, Nat.sub_zero, Nat.sub_self, Nat.reduceSub, Nat.reduceAdd, Nat.reduceLeDiff, Nat.reduceEqDiff, decide_true, decide_false, Nat.zero_le]
end Lw
set_option autoImplicit false
set_option maxHeartbeats 8000000
set_option autoImplicit true
namespace Lw
open PySem PySem.Spec L2 L3
def pos3 (l x y : Int) : Prop := 0 < l ∨ (l = 0 ∧ (0 < x ∨ (x = 0 ∧ 0 < y)))
instance (l x y : Int) : Decidable (pos3 l x y) := by unfold pos3; infer_instance
theorem letB_pos (e0 e1 v : Int) : letB e0 e1 v = decide (pos3 v e0 e1) := by
  rw [Bool.eq_iff_iff, decide_eq_true_iff]
  simp [letB, pos3]
/-! fragments -/
def absI' (n : Int) : Int := if n < 0 then -n else n
def bnd7 (t : Int) : Int := if (if t < 7 then t else 7) > 0 then (if t < 7 then t else 7) else 0
/-- the fragment by values, where the triangle is over the place -/
def fragV (n p q r z1 z2 z3 c1 c2 c3 t1 t2 t3 : Int) : D :=
  if 0 ≤ (p * z1 + (q * z2 + r * z3)) / (2 * absI' n) ∧ (p * z1 + (q * z2 + r * z3)) / (2 * absI' n) < 8
  then .tup [.int (bnd7 ((p * c1 + (q * c2 + r * c3)) / (p * t1 + (q * t2 + r * t3)))), .int ((p * z1 + (q * z2 + r * z3)) / (2 * absI' n))] else .non
structure Wo (z c t : Int) : Prop where
  z : -1000 ≤ z ∧ z ≤ 1000
  c : -1000 ≤ c ∧ c ≤ 1000
  t : 1 ≤ t ∧ t ≤ 1000
theorem i62 (a b c d e f : Int) (h : Hh) : ixA (int6 a b c d e f) (.int 2) h = .ok (.int c) h := tup2
theorem i64 (a b c d e f : Int) (h : Hh) : ixA (int6 a b c d e f) (.int 4) h = .ok (.int e) h := tup4
theorem i65 (a b c d e f : Int) (h : Hh) : ixA (int6 a b c d e f) (.int 5) h = .ok (.int f) h := tup5
theorem depth_ok {n a b c x y z u v w p q r : Int} {h : Hh} {p1 p2 p3 p4 p5 p6 q1 q2 q3 q4 q5 q6 r1 r2 r3 r4 r5 r6 : Int} (w1 : Wo p3 p5 p6) (w2 : Wo q3 q5 q6) (w3 : Wo r3 r5 r6) (hn : 0 < absI' n) (hm : absI' n < 9000000000000000000) :
    f_Triangle_depth_by [objD (.tup [int6 p1 p2 p3 p4 p5 p6, int6 q1 q2 q3 q4 q5 q6, int6 r1 r2 r3 r4 r5 r6]) n a b c x y z u v w, .lst [.int p, .int q, .int r]] h = .ok (.int ((p * p3 + (q * q3 + r * r3)) / (2 * absI' n))) h := by
  obtain ⟨⟨z1, z2⟩, _, _⟩ := w1
  obtain ⟨⟨z3, z4⟩, _, _⟩ := w2
  obtain ⟨⟨z5, z6⟩, _, _⟩ := w3
  simp (disch := omega) [f_Triangle_depth_by, u_Triangle_depth_by_1, u_Triangle_depth_by_2, u_Triangle_depth_by, objD, ix_corners, ix_own_size, i62, absI, absI'.eq_1 n |>.symm, runD, startD, endRt, endNx, endExc, seqE, seqNx, seqRt, seqExc, sNil, sPass, sIf, sRet, sRetN, sExpr, sSet, sAsg, sPar, kPar, setAll, sIxS, kSet, L3.sFld, eVar, eC, eBin, eTest, eChain, eUn, tAnd3, tOr3, tNot3, eAnd, eOr, eNot, eIf, aNil, aCons, eTup, eLst, eLstM, eCall, kCall, eMeth, kMeth, clsObj, eB, one, eFld, fldD, fieldAt, L3.putAt, eProp, kProp, noX, eMake, eLc, kLst, iSeq, L3.iZip, kZip, zipL, immS, iRg1, lcNil, lcCons, lcAS, lcBT, lcBF, lcCO, loNil, loCons, loAS, loNx, loCt, loBk, loRt, L3.sFor, sForW, eLcW, wSeq, wZip, kZipW, loopW, lcW, optS, wipeD, gSet, gTupD, gsNil, gsCons, tYes3, eIsi, isiD, kdOf, isK, allB, anyB, sumB, L3.listOf, blsOf, intsOf, asL, bindOk, bindExc, bindStk, toSOk, toSExc, lineOk, addI, subI, negI, mulL, mulR, divI, modI, ltI, leI, gtI, geI, eqI, neI, intB1, intB2, lenTup, lenLst, lenScr, tup0, tup1, tup2, tup3, tup4, tup5, lst0, lst1, lst2, lst3, List.getElem?_cons_zero, List.getElem?_cons_succ, List.getElem?_nil, List.set_cons_zero, List.set_cons_succ, List.length_cons, List.length_nil, List.map_cons, List.map_nil, List.replicate_succ, List.replicate_zero, List.cons_append, List.nil_append, List.append_nil, if_true, if_false, ite_true, ite_false, Bool.false_eq_true, Bool.not_true, Bool.not_false, Bool.true_and, Bool.and_true, Bool.false_and, Bool.and_false, Bool.or_true, Bool.true_or, Bool.false_or, Bool.or_false, and_self, and_true, true_and, Nat.sub_zero, Nat.sub_self, Nat.reduceSub, Nat.reduceAdd, Nat.reduceLeDiff, Nat.reduceEqDiff, decide_true, decide_false, Nat.zero_le]
theorem so_no {n a b c x y z u v w i j : Int} {cs : D} {h : Hh} (hi : -1000 ≤ i ∧ i ≤ 1000) (hj : -1000 ≤ j ∧ j ≤ 1000) (k : covB n a b c x y z u v w i j = false) : f_Triangle_fragment_so [objD cs n a b c x y z u v w, .tup [.int i, .int j]] h = .ok .non h := by
  have e : clsOf h (objD cs n a b c x y z u v w) = some 0 := rfl
  unfold covB at k
  simp (disch := omega) [f_Triangle_fragment_so, u_Triangle_fragment_so_1, u_Triangle_fragment_so_2_a_1, u_Triangle_fragment_so_2, u_Triangle_fragment_so_3, u_Triangle_fragment_so_4_a_1, u_Triangle_fragment_so_4, u_Triangle_fragment_so_5, u_Triangle_fragment_so_6, u_Triangle_fragment_so_7, u_Triangle_fragment_so, values_ok hi hj, over_ok, e, k, runD, startD, endRt, endNx, endExc, seqE, seqNx, seqRt, seqExc, sNil, sPass, sIf, sRet, sRetN, sExpr, sSet, sAsg, sPar, kPar, setAll, sIxS, kSet, L3.sFld, eVar, eC, eBin, eTest, eChain, eUn, tAnd3, tOr3, tNot3, eAnd, eOr, eNot, eIf, aNil, aCons, eTup, eLst, eLstM, eCall, kCall, eMeth, kMeth, clsObj, eB, one, eFld, fldD, fieldAt, L3.putAt, eProp, kProp, noX, eMake, eLc, kLst, iSeq, L3.iZip, kZip, zipL, immS, iRg1, lcNil, lcCons, lcAS, lcBT, lcBF, lcCO, loNil, loCons, loAS, loNx, loCt, loBk, loRt, L3.sFor, sForW, eLcW, wSeq, wZip, kZipW, loopW, lcW, optS, wipeD, gSet, gTupD, gsNil, gsCons, tYes3, eIsi, isiD, kdOf, isK, allB, anyB, sumB, L3.listOf, blsOf, intsOf, asL, bindOk, bindExc, bindStk, toSOk, toSExc, lineOk, addI, subI, negI, mulL, mulR, divI, modI, ltI, leI, gtI, geI, eqI, neI, intB1, intB2, lenTup, lenLst, lenScr, tup0, tup1, tup2, tup3, tup4, tup5, lst0, lst1, lst2, lst3, List.getElem?_cons_zero, List.getElem?_cons_succ, List.getElem?_nil, List.set_cons_zero, List.set_cons_succ, List.length_cons, List.length_nil, List.map_cons, List.map_nil, List.replicate_succ, List.replicate_zero, List.cons_append, List.nil_append, List.append_nil, if_true, if_false, ite_true, ite_false, Bool.false_eq_true, Bool.not_true, Bool.not_false, Bool.true_and, Bool.and_true, Bool.false_and, Bool.and_false, Bool.or_true, Bool.true_or, Bool.false_or, Bool.or_false, and_self, and_true, true_and, Nat.sub_zero, Nat.sub_self, Nat.reduceSub, Nat.reduceAdd, Nat.reduceLeDiff, Nat.reduceEqDiff, decide_true, decide_false, Nat.zero_le]
theorem so_yes {n a b c x y z u v w i j : Int} {h : Hh} {p1 p2 p3 p4 p5 p6 q1 q2 q3 q4 q5 q6 r1 r2 r3 r4 r5 r6 p q r : Int} (hi : -1000 ≤ i ∧ i ≤ 1000) (hj : -1000 ≤ j ∧ j ≤ 1000) (k : covB n a b c x y z u v w i j = true)
    (ep : a * i + b * j + c = p) (eq : x * i + y * j + z = q) (er : u * i + v * j + w = r)
    (w1 : Wo p3 p5 p6) (w2 : Wo q3 q5 q6) (w3 : Wo r3 r5 r6) (hn : 0 < absI' n) (hm : absI' n < 9000000000000000000) (h0 : 0 < p * p6 + (q * q6 + r * r6)) (h1 : p * p6 + (q * q6 + r * r6) < 18446744073709551616) :
    f_Triangle_fragment_so [objD (.tup [int6 p1 p2 p3 p4 p5 p6, int6 q1 q2 q3 q4 q5 q6, int6 r1 r2 r3 r4 r5 r6]) n a b c x y z u v w, .tup [.int i, .int j]] h = .ok (fragV n p q r p3 q3 r3 p5 q5 r5 p6 q6 r6) h := by
  have e : clsOf h (objD (.tup [int6 p1 p2 p3 p4 p5 p6, int6 q1 q2 q3 q4 q5 q6, int6 r1 r2 r3 r4 r5 r6]) n a b c x y z u v w) = some 0 := rfl
  have vo := values_ok (cs := .tup [int6 p1 p2 p3 p4 p5 p6, int6 q1 q2 q3 q4 q5 q6, int6 r1 r2 r3 r4 r5 r6]) (n := n) (a := a) (b := b) (c := c) (x := x) (y := y) (z := z) (u := u) (v := v) (w := w) (h := h) hi hj
  have de := depth_ok (n := n) (a := a) (b := b) (c := c) (x := x) (y := y) (z := z) (u := u) (v := v) (w := w) (h := h) (p := p) (q := q) (r := r) (p1 := p1) (p2 := p2) (p4 := p4) (q1 := q1) (q2 := q2) (q4 := q4) (r1 := r1) (r2 := r2) (r4 := r4) w1 w2 w3 hn hm
  have ov := over_ok (.tup [int6 p1 p2 p3 p4 p5 p6, int6 q1 q2 q3 q4 q5 q6, int6 r1 r2 r3 r4 r5 r6]) n a b c x y z u v w p q r h
  unfold covB at k
  rw [ep, eq, er] at k vo
  rw [k] at ov
  obtain ⟨_, ⟨c1, c2⟩, ⟨t1, t2⟩⟩ := w1
  obtain ⟨_, ⟨c3, c4⟩, ⟨t3, t4⟩⟩ := w2
  obtain ⟨_, ⟨c5, c6⟩, ⟨t5, t6⟩⟩ := w3
  by_cases d0 : 0 ≤ (p * p3 + (q * q3 + r * r3)) / (2 * absI' n)
  · by_cases d1 : (p * p3 + (q * q3 + r * r3)) / (2 * absI' n) < 8
    · simp (disch := omega) [f_Triangle_fragment_so, u_Triangle_fragment_so_1, u_Triangle_fragment_so_2_a_1, u_Triangle_fragment_so_2, u_Triangle_fragment_so_3, u_Triangle_fragment_so_4_a_1, u_Triangle_fragment_so_4, u_Triangle_fragment_so_5, u_Triangle_fragment_so_6, u_Triangle_fragment_so_7, u_Triangle_fragment_so, vo, ov, de, e, d0, d1, c_DEPTHS, runD, startD, endRt, endNx, endExc, seqE, seqNx, seqRt, seqExc, sNil, sPass, sIf, sRet, sRetN, sExpr, sSet, sAsg, sPar, kPar, setAll, sIxS, kSet, L3.sFld, eVar, eC, eBin, eTest, eChain, eUn, tAnd3, tOr3, tNot3, eAnd, eOr, eNot, eIf, aNil, aCons, eTup, eLst, eLstM, eCall, kCall, eMeth, kMeth, clsObj, eB, one, eFld, fldD, fieldAt, L3.putAt, eProp, kProp, noX, eMake, eLc, kLst, iSeq, L3.iZip, kZip, zipL, immS, iRg1, lcNil, lcCons, lcAS, lcBT, lcBF, lcCO, loNil, loCons, loAS, loNx, loCt, loBk, loRt, L3.sFor, sForW, eLcW, wSeq, wZip, kZipW, loopW, lcW, optS, wipeD, gSet, gTupD, gsNil, gsCons, tYes3, eIsi, isiD, kdOf, isK, allB, anyB, sumB, L3.listOf, blsOf, intsOf, asL, bindOk, bindExc, bindStk, toSOk, toSExc, lineOk, addI, subI, negI, mulL, mulR, divI, modI, ltI, leI, gtI, geI, eqI, neI, intB1, intB2, lenTup, lenLst, lenScr, tup0, tup1, tup2, tup3, tup4, tup5, lst0, lst1, lst2, lst3, List.getElem?_cons_zero, List.getElem?_cons_succ, List.getElem?_nil, List.set_cons_zero, List.set_cons_succ, List.length_cons, List.length_nil, List.map_cons, List.map_nil, List.replicate_succ, List.replicate_zero, List.cons_append, List.nil_append, List.append_nil, if_true, if_false, ite_true, ite_false, Bool.false_eq_true, Bool.not_true, Bool.not_false, Bool.true_and, Bool.and_true, Bool.false_and, Bool.and_false, Bool.or_true, Bool.true_or, Bool.false_or, Bool.or_false, and_self, and_true, true_and, Nat.sub_zero, Nat.sub_self, Nat.reduceSub, Nat.reduceAdd, Nat.reduceLeDiff, Nat.reduceEqDiff, decide_true, decide_false, Nat.zero_le]
      simp (disch := omega) [objD, ix_corners, i64, i65, c_COLORS, max2I, min2I, divI _ h0 h1, fragV, bnd7, d0, d1, runD, startD, endRt, endNx, endExc, seqE, seqNx, seqRt, seqExc, sNil, sPass, sIf, sRet, sRetN, sExpr, sSet, sAsg, sPar, kPar, setAll, sIxS, kSet, L3.sFld, eVar, eC, eBin, eTest, eChain, eUn, tAnd3, tOr3, tNot3, eAnd, eOr, eNot, eIf, aNil, aCons, eTup, eLst, eLstM, eCall, kCall, eMeth, kMeth, clsObj, eB, one, eFld, fldD, fieldAt, L3.putAt, eProp, kProp, noX, eMake, eLc, kLst, iSeq, L3.iZip, kZip, zipL, immS, iRg1, lcNil, lcCons, lcAS, lcBT, lcBF, lcCO, loNil, loCons, loAS, loNx, loCt, loBk, loRt, L3.sFor, sForW, eLcW, wSeq, wZip, kZipW, loopW, lcW, optS, wipeD, gSet, gTupD, gsNil, gsCons, tYes3, eIsi, isiD, kdOf, isK, allB, anyB, sumB, L3.listOf, blsOf, intsOf, asL, bindOk, bindExc, bindStk, toSOk, toSExc, lineOk, addI, subI, negI, mulL, mulR, divI, modI, ltI, leI, gtI, geI, eqI, neI, intB1, intB2, lenTup, lenLst, lenScr, tup0, tup1, tup2, tup3, tup4, tup5, lst0, lst1, lst2, lst3, List.getElem?_cons_zero, List.getElem?_cons_succ, List.getElem?_nil, List.set_cons_zero, List.set_cons_succ, List.length_cons, List.length_nil, List.map_cons, List.map_nil, List.replicate_succ, List.replicate_zero, List.cons_append, List.nil_append, List.append_nil, if_true, if_false, ite_true, ite_false, Bool.false_eq_true, Bool.not_true, Bool.not_false, Bool.true_and, Bool.and_true, Bool.false_and, Bool.and_false, Bool.or_true, Bool.true_or, Bool.false_or, Bool.or_false, and_self, and_true, true_and, Nat.sub_zero, Nat.sub_self, Nat.reduceSub, Nat.reduceAdd, Nat.reduceLeDiff, Nat.reduceEqDiff, decide_true, decide_false, Nat.zero_le]
    · simp (disch := omega) [f_Triangle_fragment_so, u_Triangle_fragment_so_1, u_Triangle_fragment_so_2_a_1, u_Triangle_fragment_so_2, u_Triangle_fragment_so_3, u_Triangle_fragment_so_4_a_1, u_Triangle_fragment_so_4, u_Triangle_fragment_so_5, u_Triangle_fragment_so_6, u_Triangle_fragment_so_7, u_Triangle_fragment_so, vo, ov, de, e, d0, d1, c_DEPTHS, fragV, runD, startD, endRt, endNx, endExc, seqE, seqNx, seqRt, seqExc, sNil, sPass, sIf, sRet, sRetN, sExpr, sSet, sAsg, sPar, kPar, setAll, sIxS, kSet, L3.sFld, eVar, eC, eBin, eTest, eChain, eUn, tAnd3, tOr3, tNot3, eAnd, eOr, eNot, eIf, aNil, aCons, eTup, eLst, eLstM, eCall, kCall, eMeth, kMeth, clsObj, eB, one, eFld, fldD, fieldAt, L3.putAt, eProp, kProp, noX, eMake, eLc, kLst, iSeq, L3.iZip, kZip, zipL, immS, iRg1, lcNil, lcCons, lcAS, lcBT, lcBF, lcCO, loNil, loCons, loAS, loNx, loCt, loBk, loRt, L3.sFor, sForW, eLcW, wSeq, wZip, kZipW, loopW, lcW, optS, wipeD, gSet, gTupD, gsNil, gsCons, tYes3, eIsi, isiD, kdOf, isK, allB, anyB, sumB, L3.listOf, blsOf, intsOf, asL, bindOk, bindExc, bindStk, toSOk, toSExc, lineOk, addI, subI, negI, mulL, mulR, divI, modI, ltI, leI, gtI, geI, eqI, neI, intB1, intB2, lenTup, lenLst, lenScr, tup0, tup1, tup2, tup3, tup4, tup5, lst0, lst1, lst2, lst3, List.getElem?_cons_zero, List.getElem?_cons_succ, List.getElem?_nil, List.set_cons_zero, List.set_cons_succ, List.length_cons, List.length_nil, List.map_cons, List.map_nil, List.replicate_succ, List.replicate_zero, List.cons_append, List.nil_append, List.append_nil, if_true, if_false, ite_true, ite_false, Bool.false_eq_true, Bool.not_true, Bool.not_false, Bool.true_and, Bool.and_true, Bool.false_and, Bool.and_false, Bool.or_true, Bool.true_or, Bool.false_or, Bool.or_false, and_self, and_true, true_and, Nat.sub_zero, Nat.sub_self, Nat.reduceSub, Nat.reduceAdd, Nat.reduceLeDiff, Nat.reduceEqDiff, decide_true, decide_false, Nat.zero_le]
  · simp (disch := omega) [f_Triangle_fragment_so, u_Triangle_fragment_so_1, u_Triangle_fragment_so_2_a_1, u_Triangle_fragment_so_2, u_Triangle_fragment_so_3, u_Triangle_fragment_so_4_a_1, u_Triangle_fragment_so_4, u_Triangle_fragment_so_5, u_Triangle_fragment_so_6, u_Triangle_fragment_so_7, u_Triangle_fragment_so, vo, ov, de, e, d0, c_DEPTHS, fragV, runD, startD, endRt, endNx, endExc, seqE, seqNx, seqRt, seqExc, sNil, sPass, sIf, sRet, sRetN, sExpr, sSet, sAsg, sPar, kPar, setAll, sIxS, kSet, L3.sFld, eVar, eC, eBin, eTest, eChain, eUn, tAnd3, tOr3, tNot3, eAnd, eOr, eNot, eIf, aNil, aCons, eTup, eLst, eLstM, eCall, kCall, eMeth, kMeth, clsObj, eB, one, eFld, fldD, fieldAt, L3.putAt, eProp, kProp, noX, eMake, eLc, kLst, iSeq, L3.iZip, kZip, zipL, immS, iRg1, lcNil, lcCons, lcAS, lcBT, lcBF, lcCO, loNil, loCons, loAS, loNx, loCt, loBk, loRt, L3.sFor, sForW, eLcW, wSeq, wZip, kZipW, loopW, lcW, optS, wipeD, gSet, gTupD, gsNil, gsCons, tYes3, eIsi, isiD, kdOf, isK, allB, anyB, sumB, L3.listOf, blsOf, intsOf, asL, bindOk, bindExc, bindStk, toSOk, toSExc, lineOk, addI, subI, negI, mulL, mulR, divI, modI, ltI, leI, gtI, geI, eqI, neI, intB1, intB2, lenTup, lenLst, lenScr, tup0, tup1, tup2, tup3, tup4, tup5, lst0, lst1, lst2, lst3, List.getElem?_cons_zero, List.getElem?_cons_succ, List.getElem?_nil, List.set_cons_zero, List.set_cons_succ, List.length_cons, List.length_nil, List.map_cons, List.map_nil, List.replicate_succ, List.replicate_zero, List.cons_append, List.nil_append, List.append_nil, if_true, if_false, ite_true, ite_false, Bool.false_eq_true, Bool.not_true, Bool.not_false, Bool.true_and, Bool.and_true, Bool.false_and, Bool.and_false, Bool.or_true, Bool.true_or, Bool.false_or, Bool.or_false, and_self, and_true, true_and, Nat.sub_zero, Nat.sub_self, Nat.reduceSub, Nat.reduceAdd, Nat.reduceLeDiff, Nat.reduceEqDiff, decide_true, decide_false, Nat.zero_le]
/-! corners, triangles, coverings, fragments: plain -/
structure Cn where
  X : Int
  Y : Int
  Z : Int
  W : Int
  C : Int
  S : Int
def Cn.d (p : Cn) : D := int6 p.X p.Y p.Z p.W p.C p.S
structure Cn.Ok (p : Cn) : Prop where
  x : -1000 ≤ p.X ∧ p.X ≤ 1000
  y : -1000 ≤ p.Y ∧ p.Y ≤ 1000
  z : -1000 ≤ p.Z ∧ p.Z ≤ 1000
  w : -1000 ≤ p.W ∧ p.W ≤ 1000
  c : -1000 ≤ p.C ∧ p.C ≤ 1000
  s : 1 ≤ p.S ∧ p.S ≤ 1000
def det (p q r : Cn) : Int := size9 p.X p.Y p.W q.X q.Y q.W r.X r.Y r.W
def exx (q r : Cn) : Int := q.Y * r.W - q.W * r.Y
def exy (q r : Cn) : Int := q.W * r.X - q.X * r.W
def exw (q r : Cn) : Int := q.X * r.Y - q.Y * r.X
def ev (q r : Cn) (i j : Int) : Int := (2 * i + 1) * exx q r + (2 * j + 1) * exy q r + 2 * exw q r
def lt (g : Int) (q r : Cn) (i j : Int) : Prop := pos3 (g * ev q r i j) (g * exx q r) (g * exy q r)
instance (g : Int) (q r : Cn) (i j : Int) : Decidable (lt g q r i j) := by unfold lt; infer_instance
def cov (p q r : Cn) (i j : Int) : Bool := decide (det p q r ≠ 0 ∧ lt (sg (det p q r)) q r i j ∧ lt (sg (det p q r)) r p i j ∧ lt (sg (det p q r)) p q i j)
def frag (p q r : Cn) (i j : Int) : D := if cov p q r i j = true then fragV (det p q r) (sg (det p q r) * ev q r i j) (sg (det p q r) * ev r p i j) (sg (det p q r) * ev p q i j) p.Z q.Z r.Z p.C q.C r.C p.S q.S r.S else .non
def tri (p q r : Cn) : D := triD p.d q.d r.d p.X p.Y p.W q.X q.Y q.W r.X r.Y r.W
theorem Cn.Ok.sm {p : Cn} (o : p.Ok) : Sm p.X p.Y p.W := ⟨o.x, o.y, o.w⟩
theorem Cn.Ok.wo {p : Cn} (o : p.Ok) : Wo p.Z p.C p.S := ⟨o.z, o.c, o.s⟩
theorem Cn.Ok.cor {p : Cn} (o : p.Ok) (h : Hh) : f_is_corner [p.d] h = .ok (.bl true) h := corner_ok o.x o.y o.z o.w o.c o.s
theorem tri_ok {p q r : Cn} {h : Hh} (o1 : p.Ok) (o2 : q.Ok) (o3 : r.Ok) : kMake 0 3 4 f_Triangle___init__ [] [p.d, q.d, r.d] h = .ok (tri p q r) (h ++ [.dead]) := make_ok o1.sm o2.sm o3.sm (o1.cor _) (o2.cor _) (o3.cor _)
theorem pos3_k {k l x y : Int} (hk : 0 < k) : pos3 (k * l) (k * x) (k * y) ↔ pos3 l x y := by
  have a : ∀ n : Int, 0 < k * n ↔ 0 < n := fun n => by
    constructor
    · intro h
      rcases Int.lt_trichotomy n 0 with z | z | z
      · have := Int.mul_neg_of_pos_of_neg hk z; omega
      · subst z; simp at h
      · exact z
    · exact Int.mul_pos hk
  have b : ∀ n : Int, k * n = 0 ↔ n = 0 := fun n => by
    rw [Int.mul_eq_zero]; omega
  unfold pos3
  rw [a, a, a, b, b]
theorem edge_is (g : Int) (q r : Cn) (i j : Int) : g * 2 * (q.Y * r.W - q.W * r.Y) * i + g * 2 * (q.W * r.X - q.X * r.W) * j + g * (q.Y * r.W - q.W * r.Y + (q.W * r.X - q.X * r.W) + 2 * (q.X * r.Y - q.Y * r.X)) = g * ev q r i j := by
  unfold ev exx exy exw; grind
theorem let_is (g : Int) (q r : Cn) (i j : Int) : letB (g * 2 * (q.Y * r.W - q.W * r.Y)) (g * 2 * (q.W * r.X - q.X * r.W)) (g * 2 * (q.Y * r.W - q.W * r.Y) * i + g * 2 * (q.W * r.X - q.X * r.W) * j + g * (q.Y * r.W - q.W * r.Y + (q.W * r.X - q.X * r.W) + 2 * (q.X * r.Y - q.Y * r.X))) = decide (lt g q r i j) := by
  rw [letB_pos, edge_is, decide_eq_decide]
  unfold lt exx exy
  generalize g * ev q r i j = V
  rw [show g * 2 * (q.Y * r.W - q.W * r.Y) = 2 * (g * (q.Y * r.W - q.W * r.Y)) by grind, show g * 2 * (q.W * r.X - q.X * r.W) = 2 * (g * (q.W * r.X - q.X * r.W)) by grind]
  unfold pos3
  omega
theorem covB_is (p q r : Cn) (i j : Int) : covB (det p q r)
    (sg (det p q r) * 2 * (q.Y * r.W - q.W * r.Y)) (sg (det p q r) * 2 * (q.W * r.X - q.X * r.W)) (sg (det p q r) * (q.Y * r.W - q.W * r.Y + (q.W * r.X - q.X * r.W) + 2 * (q.X * r.Y - q.Y * r.X)))
    (sg (det p q r) * 2 * (r.Y * p.W - r.W * p.Y)) (sg (det p q r) * 2 * (r.W * p.X - r.X * p.W)) (sg (det p q r) * (r.Y * p.W - r.W * p.Y + (r.W * p.X - r.X * p.W) + 2 * (r.X * p.Y - r.Y * p.X)))
    (sg (det p q r) * 2 * (p.Y * q.W - p.W * q.Y)) (sg (det p q r) * 2 * (p.W * q.X - p.X * q.W)) (sg (det p q r) * (p.Y * q.W - p.W * q.Y + (p.W * q.X - p.X * q.W) + 2 * (p.X * q.Y - p.Y * q.X))) i j = cov p q r i j := by
  unfold covB cov
  rw [let_is, let_is, let_is, Bool.eq_iff_iff]
  simp
theorem tri_is (p q r : Cn) : tri p q r = objD (.tup [p.d, q.d, r.d]) (det p q r)
    (sg (det p q r) * 2 * (q.Y * r.W - q.W * r.Y)) (sg (det p q r) * 2 * (q.W * r.X - q.X * r.W)) (sg (det p q r) * (q.Y * r.W - q.W * r.Y + (q.W * r.X - q.X * r.W) + 2 * (q.X * r.Y - q.Y * r.X)))
    (sg (det p q r) * 2 * (r.Y * p.W - r.W * p.Y)) (sg (det p q r) * 2 * (r.W * p.X - r.X * p.W)) (sg (det p q r) * (r.Y * p.W - r.W * p.Y + (r.W * p.X - r.X * p.W) + 2 * (r.X * p.Y - r.Y * p.X)))
    (sg (det p q r) * 2 * (p.Y * q.W - p.W * q.Y)) (sg (det p q r) * 2 * (p.W * q.X - p.X * q.W)) (sg (det p q r) * (p.Y * q.W - p.W * q.Y + (p.W * q.X - p.X * q.W) + 2 * (p.X * q.Y - p.Y * q.X))) := rfl
theorem cov_ok {p q r : Cn} {i j : Int} {h : Hh} (hi : -1000 ≤ i ∧ i ≤ 1000) (hj : -1000 ≤ j ∧ j ≤ 1000) : f_Triangle_covers [tri p q r, .tup [.int i, .int j]] h = .ok (.bl (cov p q r i j)) h := by
  rw [tri_is, covers_ok hi hj, covB_is]
/-- a bound of a product -/
theorem mbd {a b A B : Int} (ha : -A ≤ a ∧ a ≤ A) (hb : -B ≤ b ∧ b ≤ B) : -(A * B) ≤ a * b ∧ a * b ≤ A * B := by
  obtain ⟨l1, l2⟩ := ha
  obtain ⟨m1, m2⟩ := hb
  have p1 : 0 ≤ (A - a) * (B + b) := Int.mul_nonneg (by omega) (by omega)
  have p2 : 0 ≤ (A + a) * (B - b) := Int.mul_nonneg (by omega) (by omega)
  have p3 : 0 ≤ (A - a) * (B - b) := Int.mul_nonneg (by omega) (by omega)
  have p4 : 0 ≤ (A + a) * (B + b) := Int.mul_nonneg (by omega) (by omega)
  rw [Int.sub_mul, Int.mul_add, Int.mul_add] at p1
  rw [Int.add_mul, Int.mul_sub, Int.mul_sub] at p2
  rw [Int.sub_mul, Int.mul_sub, Int.mul_sub] at p3
  rw [Int.add_mul, Int.mul_add, Int.mul_add] at p4
  constructor <;> omega
theorem exx_bd {q r : Cn} (o1 : q.Ok) (o2 : r.Ok) : -2000000 ≤ exx q r ∧ exx q r ≤ 2000000 := by
  have a := mbd (A := 1000) (B := 1000) o1.y o2.w
  have b := mbd (A := 1000) (B := 1000) o1.w o2.y
  unfold exx; omega
theorem exy_bd {q r : Cn} (o1 : q.Ok) (o2 : r.Ok) : -2000000 ≤ exy q r ∧ exy q r ≤ 2000000 := by
  have a := mbd (A := 1000) (B := 1000) o1.w o2.x
  have b := mbd (A := 1000) (B := 1000) o1.x o2.w
  unfold exy; omega
theorem exw_bd {q r : Cn} (o1 : q.Ok) (o2 : r.Ok) : -2000000 ≤ exw q r ∧ exw q r ≤ 2000000 := by
  have a := mbd (A := 1000) (B := 1000) o1.x o2.y
  have b := mbd (A := 1000) (B := 1000) o1.y o2.x
  unfold exw; omega
theorem ev_bd {q r : Cn} (o1 : q.Ok) (o2 : r.Ok) {i j : Int} (hi : -1000 ≤ i ∧ i ≤ 1000) (hj : -1000 ≤ j ∧ j ≤ 1000) : -9000000000 ≤ ev q r i j ∧ ev q r i j ≤ 9000000000 := by
  have a := mbd (A := 2001) (B := 2000000) (a := 2 * i + 1) (by omega) (exx_bd o1 o2)
  have b := mbd (A := 2001) (B := 2000000) (a := 2 * j + 1) (by omega) (exy_bd o1 o2)
  have c := exw_bd o1 o2
  unfold ev; omega
theorem det_is (p q r : Cn) : det p q r = p.X * exx q r + p.Y * exy q r + p.W * exw q r := by
  unfold det size9 exx exy exw; grind
theorem det_bd {p q r : Cn} (o1 : p.Ok) (o2 : q.Ok) (o3 : r.Ok) : -6000000000 ≤ det p q r ∧ det p q r ≤ 6000000000 := by
  have a := mbd (A := 1000) (B := 2000000) o1.x (exx_bd o2 o3)
  have b := mbd (A := 1000) (B := 2000000) o1.y (exy_bd o2 o3)
  have c := mbd (A := 1000) (B := 2000000) o1.w (exw_bd o2 o3)
  rw [det_is]; omega
theorem sg_mul_bd {n m A : Int} (h : -A ≤ m ∧ m ≤ A) : -A ≤ sg n * m ∧ sg n * m ≤ A := by
  rcases sg_or n with e | e <;> rw [e] <;> omega
/-- three weights times W come to the middle's -/
theorem sum_w (p q r : Cn) (i j : Int) : p.W * ev q r i j + q.W * ev r p i j + r.W * ev p q i j = 2 * det p q r := by
  unfold det size9 ev exx exy exw; grind
theorem lt_nn {g : Int} {q r : Cn} {i j : Int} (h : lt g q r i j) : 0 ≤ g * ev q r i j := by
  unfold lt pos3 at h; omega
theorem cov_t {p q r : Cn} {i j : Int} (h : cov p q r i j = true) : det p q r ≠ 0 ∧ lt (sg (det p q r)) q r i j ∧ lt (sg (det p q r)) r p i j ∧ lt (sg (det p q r)) p q i j := of_decide_eq_true h
theorem abs_sg (n : Int) : sg n * n = absI' n := by
  unfold sg absI'; split <;> omega
theorem frag_ok {p q r : Cn} {i j : Int} {h : Hh} (o1 : p.Ok) (o2 : q.Ok) (o3 : r.Ok) (hi : -1000 ≤ i ∧ i ≤ 1000) (hj : -1000 ≤ j ∧ j ≤ 1000) : f_Triangle_fragment_at [tri p q r, .tup [.int i, .int j]] h = .ok (frag p q r i j) h := by
  have e : clsOf h (tri p q r) = some 0 := rfl
  have so : f_Triangle_fragment_so [tri p q r, .tup [.int i, .int j]] h = .ok (frag p q r i j) h := by
    cases k : cov p q r i j with
    | false =>
      unfold frag
      rw [k, if_neg (by simp), tri_is]
      exact so_no hi hj (by rw [covB_is]; exact k)
    | true =>
      obtain ⟨k0, k1, k2, k3⟩ := cov_t k
      unfold frag
      rw [k, if_pos rfl, tri_is]
      have n1 := lt_nn k1
      have n2 := lt_nn k2
      have n3 := lt_nn k3
      have b1 := sg_mul_bd (n := det p q r) (ev_bd o2 o3 hi hj)
      have b2 := sg_mul_bd (n := det p q r) (ev_bd o3 o1 hi hj)
      have b3 := sg_mul_bd (n := det p q r) (ev_bd o1 o2 hi hj)
      have db := det_bd o1 o2 o3
      have hs : p.W * (sg (det p q r) * ev q r i j) + q.W * (sg (det p q r) * ev r p i j) + r.W * (sg (det p q r) * ev p q i j) = 2 * absI' (det p q r) := by
        rw [← abs_sg]
        have := sum_w p q r i j
        grind
      have ha : 0 < absI' (det p q r) ∧ absI' (det p q r) < 9000000000 := by unfold absI'; split <;> omega
      refine so_yes hi hj (by rw [covB_is]; exact k) (edge_is _ _ _ _ _) (edge_is _ _ _ _ _) (edge_is _ _ _ _ _) o1.wo o2.wo o3.wo ha.1 (by omega) ?_ ?_
      · generalize sg (det p q r) * ev q r i j = P at *
        generalize sg (det p q r) * ev r p i j = Q at *
        generalize sg (det p q r) * ev p q i j = R at *
        have m1 : P ≤ P * p.S := by have := Int.mul_le_mul_of_nonneg_left o1.s.1 n1; omega
        have m2 : Q ≤ Q * q.S := by have := Int.mul_le_mul_of_nonneg_left o2.s.1 n2; omega
        have m3 : R ≤ R * r.S := by have := Int.mul_le_mul_of_nonneg_left o3.s.1 n3; omega
        have : ¬ (P = 0 ∧ Q = 0 ∧ R = 0) := fun ⟨z1, z2, z3⟩ => by
          rw [z1, z2, z3] at hs; omega
        omega
      · have c1 := mbd (B := 1000) b1 (b := p.S) (by have := o1.s; omega)
        have c2 := mbd (B := 1000) b2 (b := q.S) (by have := o2.s; omega)
        have c3 := mbd (B := 1000) b3 (b := r.S) (by have := o3.s; omega)
        omega
  simp (disch := omega) [f_Triangle_fragment_at, u_Triangle_fragment_at_1, u_Triangle_fragment_at_2, u_Triangle_fragment_at, place_ok hi hj, so, e, runD, startD, endRt, endNx, endExc, seqE, seqNx, seqRt, seqExc, sNil, sPass, sIf, sRet, sRetN, sExpr, sSet, sAsg, sPar, kPar, setAll, sIxS, kSet, L3.sFld, eVar, eC, eBin, eTest, eChain, eUn, tAnd3, tOr3, tNot3, eAnd, eOr, eNot, eIf, aNil, aCons, eTup, eLst, eLstM, eCall, kCall, eMeth, kMeth, clsObj, eB, one, eFld, fldD, fieldAt, L3.putAt, eProp, kProp, noX, eMake, eLc, kLst, iSeq, L3.iZip, kZip, zipL, immS, iRg1, lcNil, lcCons, lcAS, lcBT, lcBF, lcCO, loNil, loCons, loAS, loNx, loCt, loBk, loRt, L3.sFor, sForW, eLcW, wSeq, wZip, kZipW, loopW, lcW, optS, wipeD, gSet, gTupD, gsNil, gsCons, tYes3, eIsi, isiD, kdOf, isK, allB, anyB, sumB, L3.listOf, blsOf, intsOf, asL, bindOk, bindExc, bindStk, toSOk, toSExc, lineOk, addI, subI, negI, mulL, mulR, divI, modI, ltI, leI, gtI, geI, eqI, neI, intB1, intB2, lenTup, lenLst, lenScr, tup0, tup1, tup2, tup3, tup4, tup5, lst0, lst1, lst2, lst3, List.getElem?_cons_zero, List.getElem?_cons_succ, List.getElem?_nil, List.set_cons_zero, List.set_cons_succ, List.length_cons, List.length_nil, List.map_cons, List.map_nil, List.replicate_succ, List.replicate_zero, List.cons_append, List.nil_append, List.append_nil, if_true, if_false, ite_true, ite_false, Bool.false_eq_true, Bool.not_true, Bool.not_false, Bool.true_and, Bool.and_true, Bool.false_and, Bool.and_false, Bool.or_true, Bool.true_or, Bool.false_or, Bool.or_false, and_self, and_true, true_and, Nat.sub_zero, Nat.sub_self, Nat.reduceSub, Nat.reduceAdd, Nat.reduceLeDiff, Nat.reduceEqDiff, decide_true, decide_false, Nat.zero_le]
end Lw
set_option autoImplicit false
set_option maxHeartbeats 8000000
set_option autoImplicit true
namespace Lw
open PySem PySem.Spec L2 L3
/-! corners multiplied, turned, exchanged -/
def sc (k : Int) (p : Cn) : Cn := ⟨k * p.X, k * p.Y, k * p.Z, k * p.W, k * p.C, k * p.S⟩
theorem det_sc (k : Int) (p q r : Cn) : det (sc k p) q r = k * det p q r := by unfold det size9 sc; grind
theorem exx_l (k : Int) (q r : Cn) : exx (sc k q) r = k * exx q r := by unfold exx sc; grind
theorem exy_l (k : Int) (q r : Cn) : exy (sc k q) r = k * exy q r := by unfold exy sc; grind
theorem exw_l (k : Int) (q r : Cn) : exw (sc k q) r = k * exw q r := by unfold exw sc; grind
theorem exx_r (k : Int) (q r : Cn) : exx q (sc k r) = k * exx q r := by unfold exx sc; grind
theorem exy_r (k : Int) (q r : Cn) : exy q (sc k r) = k * exy q r := by unfold exy sc; grind
theorem exw_r (k : Int) (q r : Cn) : exw q (sc k r) = k * exw q r := by unfold exw sc; grind
theorem ev_l (k : Int) (q r : Cn) (i j : Int) : ev (sc k q) r i j = k * ev q r i j := by unfold ev; rw [exx_l, exy_l, exw_l]; grind
theorem ev_r (k : Int) (q r : Cn) (i j : Int) : ev q (sc k r) i j = k * ev q r i j := by unfold ev; rw [exx_r, exy_r, exw_r]; grind
theorem exx_sw (q r : Cn) : exx r q = - exx q r := by unfold exx; grind
theorem exy_sw (q r : Cn) : exy r q = - exy q r := by unfold exy; grind
theorem exw_sw (q r : Cn) : exw r q = - exw q r := by unfold exw; grind
theorem ev_sw (q r : Cn) (i j : Int) : ev r q i j = - ev q r i j := by unfold ev; rw [exx_sw, exy_sw, exw_sw]; grind
theorem det_rot (p q r : Cn) : det q r p = det p q r := by unfold det size9; grind
theorem det_sw (p q r : Cn) : det q p r = - det p q r := by unfold det size9; grind
theorem sg_k {k : Int} (hk : 0 < k) (n : Int) : sg (k * n) = sg n := by
  unfold sg
  by_cases h : n < 0
  · rw [if_pos h, if_pos (Int.mul_neg_of_pos_of_neg hk h)]
  · rw [if_neg h, if_neg]
    have := Int.mul_nonneg (show 0 ≤ k by omega) (show 0 ≤ n by omega)
    omega
theorem sg_neg {n : Int} (h : n ≠ 0) : sg (-n) = - sg n := by unfold sg; split <;> split <;> omega
theorem abs_k {k : Int} (hk : 0 < k) (n : Int) : absI' (k * n) = k * absI' n := by rw [← abs_sg, ← abs_sg, sg_k hk]; grind
theorem abs_neg (n : Int) : absI' (-n) = absI' n := by unfold absI'; split <;> split <;> omega
theorem lt_l {k : Int} (hk : 0 < k) (g : Int) (q r : Cn) (i j : Int) : lt g (sc k q) r i j ↔ lt g q r i j := by
  unfold lt
  rw [ev_l, exx_l, exy_l, show g * (k * ev q r i j) = k * (g * ev q r i j) by grind, show g * (k * exx q r) = k * (g * exx q r) by grind, show g * (k * exy q r) = k * (g * exy q r) by grind]
  exact pos3_k hk
theorem lt_r {k : Int} (hk : 0 < k) (g : Int) (q r : Cn) (i j : Int) : lt g q (sc k r) i j ↔ lt g q r i j := by
  unfold lt
  rw [ev_r, exx_r, exy_r, show g * (k * ev q r i j) = k * (g * ev q r i j) by grind, show g * (k * exx q r) = k * (g * exx q r) by grind, show g * (k * exy q r) = k * (g * exy q r) by grind]
  exact pos3_k hk
theorem lt_sw (g : Int) (q r : Cn) (i j : Int) : lt (-g) r q i j ↔ lt g q r i j := by
  unfold lt
  rw [ev_sw, exx_sw, exy_sw, Int.neg_mul_neg, Int.neg_mul_neg, Int.neg_mul_neg]
theorem mul_ne {k n : Int} (hk : 0 < k) : k * n ≠ 0 ↔ n ≠ 0 := by
  rw [Ne, Int.mul_eq_zero]; omega
theorem cov_sc {k : Int} (hk : 0 < k) (p q r : Cn) (i j : Int) : cov (sc k p) q r i j = cov p q r i j := by
  unfold cov
  rw [decide_eq_decide, det_sc, sg_k hk, mul_ne hk, lt_r hk, lt_l hk]
theorem cov_rot (p q r : Cn) (i j : Int) : cov q r p i j = cov p q r i j := by
  unfold cov
  rw [decide_eq_decide, det_rot]
  constructor
  · exact fun ⟨a, b, c, d⟩ => ⟨a, d, b, c⟩
  · exact fun ⟨a, b, c, d⟩ => ⟨a, c, d, b⟩
theorem cov_sw (p q r : Cn) (i j : Int) : cov q p r i j = cov p q r i j := by
  unfold cov
  rw [decide_eq_decide, det_sw]
  constructor
  · intro ⟨a, b, c, d⟩
    have n : det p q r ≠ 0 := by omega
    rw [sg_neg n, lt_sw] at b c d
    exact ⟨n, c, b, d⟩
  · intro ⟨n, b, c, d⟩
    rw [sg_neg n, lt_sw, lt_sw, lt_sw]
    exact ⟨by omega, c, b, d⟩
/-- the fragment by three sums -/
def fragW (m dz dc ds : Int) : D := if 0 ≤ dz / m ∧ dz / m < 8 then .tup [.int (bnd7 (dc / ds)), .int (dz / m)] else .non
def dot (g : Int) (p q r : Cn) (i j a b c : Int) : Int := g * (ev q r i j * a + ev r p i j * b + ev p q i j * c)
theorem frag_is (p q r : Cn) (i j : Int) : frag p q r i j = if cov p q r i j = true then fragW (2 * absI' (det p q r)) (dot (sg (det p q r)) p q r i j p.Z q.Z r.Z) (dot (sg (det p q r)) p q r i j p.C q.C r.C) (dot (sg (det p q r)) p q r i j p.S q.S r.S) else .non := by
  have e : ∀ a b c : Int, (sg (det p q r) * ev q r i j) * a + ((sg (det p q r) * ev r p i j) * b + (sg (det p q r) * ev p q i j) * c) = dot (sg (det p q r)) p q r i j a b c := fun a b c => by unfold dot; grind
  unfold frag fragV fragW
  rw [e, e, e]
theorem fragW_k {k : Int} (hk : 0 < k) (m dz dc ds : Int) : fragW (k * m) (k * dz) (k * dc) (k * ds) = fragW m dz dc ds := by
  unfold fragW
  rw [Int.mul_ediv_mul_of_pos _ _ hk, Int.mul_ediv_mul_of_pos _ _ hk]
theorem frag_sc {k : Int} (hk : 0 < k) (p q r : Cn) (i j : Int) : frag (sc k p) q r i j = frag p q r i j := by
  have e : ∀ a b c : Int, dot (sg (det p q r)) (sc k p) q r i j (k * a) b c = k * dot (sg (det p q r)) p q r i j a b c := fun a b c => by unfold dot; rw [ev_l, ev_r]; grind
  rw [frag_is, frag_is, cov_sc hk, det_sc, sg_k hk, abs_k hk]
  show (if cov p q r i j = true then fragW _ (dot _ _ _ _ _ _ (k * p.Z) _ _) (dot _ _ _ _ _ _ (k * p.C) _ _) (dot _ _ _ _ _ _ (k * p.S) _ _) else _) = _
  rw [e, e, e, show 2 * (k * absI' (det p q r)) = k * (2 * absI' (det p q r)) by grind, fragW_k hk]
theorem frag_rot (p q r : Cn) (i j : Int) : frag q r p i j = frag p q r i j := by
  have e : ∀ g a b c : Int, dot g q r p i j b c a = dot g p q r i j a b c := fun g a b c => by unfold dot; grind
  rw [frag_is, frag_is, cov_rot, det_rot, e, e, e]
theorem frag_sw (p q r : Cn) (i j : Int) : frag q p r i j = frag p q r i j := by
  rw [frag_is, frag_is, cov_sw, det_sw, abs_neg]
  by_cases h : cov p q r i j = true
  · have n := (cov_t h).1
    have e : ∀ g a b c : Int, dot (-g) q p r i j b a c = dot g p q r i j a b c := fun g a b c => by
      unfold dot; rw [ev_sw p r, ev_sw r q, ev_sw p q]; grind
    rw [sg_neg n, e, e, e]
  · rw [if_neg h, if_neg h]
theorem cov_sc3 {a b c : Int} (ha : 0 < a) (hb : 0 < b) (hc : 0 < c) (p q r : Cn) (i j : Int) : cov (sc a p) (sc b q) (sc c r) i j = cov p q r i j := by
  rw [cov_sc ha, ← cov_rot, cov_sc hb, ← cov_rot, cov_sc hc, ← cov_rot]
theorem frag_sc3 {a b c : Int} (ha : 0 < a) (hb : 0 < b) (hc : 0 < c) (p q r : Cn) (i j : Int) : frag (sc a p) (sc b q) (sc c r) i j = frag p q r i j := by
  rw [frag_sc ha, ← frag_rot, frag_sc hb, ← frag_rot, frag_sc hc, ← frag_rot]
/-! equality of plain data -/
theorem eqvSame {d : D} (f : flat 60 d = true) : eqv d d = true := by
  unfold eqv
  exact PySem.SeqAt.eqv_refl_plain _ (flat_pd d 60 f).1
theorem neSame {d : D} {h : Hh} (e : deref h d = d) (f : flat 60 d = true) : neD d d h = .ok (.bl false) h := by
  unfold neD
  rw [e, if_pos ⟨f, f⟩, eqvSame f]
  rfl
theorem eqSame {d : D} {h : Hh} (e : deref h d = d) (f : flat 60 d = true) : eqD d d h = .ok (.bl true) h := by
  unfold eqD
  rw [e, if_pos ⟨f, f⟩, eqvSame f]
theorem neB (a b : Bool) (h : Hh) : neD (.bl a) (.bl b) h = .ok (.bl (!decide (a = b))) h := by
  cases a <;> cases b <;> rfl
theorem flats_map {α : Type} (k : Nat) (f : α → D) (hf : ∀ x, flat k (f x) = true) : ∀ xs : List α, flats k (xs.map f) = true
  | [] => rfl
  | x :: xs => by
    show (flat k (f x) && flats k (xs.map f)) = true
    rw [hf x, flats_map k f hf xs]; rfl
def eqC (p q : Cn) : Bool := decide (p.X = q.X) && (decide (p.Y = q.Y) && (decide (p.Z = q.Z) && (decide (p.W = q.W) && (decide (p.C = q.C) && decide (p.S = q.S)))))
theorem eqC_comm (p q : Cn) : eqC p q = eqC q p := by
  unfold eqC
  rw [decide_eq_decide.mpr (eq_comm (a := p.X) (b := q.X)), decide_eq_decide.mpr (eq_comm (a := p.Y) (b := q.Y)), decide_eq_decide.mpr (eq_comm (a := p.Z) (b := q.Z)), decide_eq_decide.mpr (eq_comm (a := p.W) (b := q.W)), decide_eq_decide.mpr (eq_comm (a := p.C) (b := q.C)), decide_eq_decide.mpr (eq_comm (a := p.S) (b := q.S))]
theorem eqvC (p q : Cn) : eqv p.d q.d = eqC p q := by
  show (eqv (.int p.X) (.int q.X) && (eqv (.int p.Y) (.int q.Y) && (eqv (.int p.Z) (.int q.Z) && (eqv (.int p.W) (.int q.W) && (eqv (.int p.C) (.int q.C) && (eqv (.int p.S) (.int q.S) && true)))))) = _
  simp only [eqvI, Bool.and_true, eqC]
theorem flatC (p : Cn) (k : Nat) : flat (k + 1) p.d = true := by simp [Cn.d, int6, flat, flats]
theorem eqCs (p q r P Q V : Cn) (h : Hh) : eqD (.tup [p.d, q.d, r.d]) (.tup [P.d, Q.d, V.d]) h = .ok (.bl (eqC p P && (eqC q Q && eqC r V))) h ∧ eqD (.lst [p.d, q.d, r.d]) (.lst [P.d, Q.d, V.d]) h = .ok (.bl (eqC p P && (eqC q Q && eqC r V))) h := by
  have f1 : ∀ p q r : Cn, flat 60 (.tup [p.d, q.d, r.d]) = true := fun p q r => by simp [flat, flats, flatC]
  have f2 : ∀ p q r : Cn, flat 60 (.lst [p.d, q.d, r.d]) = true := fun p q r => by simp [flat, flats, flatC]
  have e1 : eqv (.tup [p.d, q.d, r.d]) (.tup [P.d, Q.d, V.d]) = (eqC p P && (eqC q Q && eqC r V)) := by
    show (eqv p.d P.d && (eqv q.d Q.d && (eqv r.d V.d && true))) = _
    simp only [eqvC, Bool.and_true]
  have e2 : eqv (.lst [p.d, q.d, r.d]) (.lst [P.d, Q.d, V.d]) = (eqC p P && (eqC q Q && eqC r V)) := by
    show (eqv p.d P.d && (eqv q.d Q.d && (eqv r.d V.d && true))) = _
    simp only [eqvC, Bool.and_true]
  constructor
  · show (if flat 60 (.tup [p.d, q.d, r.d]) = true ∧ flat 60 (.tup [P.d, Q.d, V.d]) = true then R.ok (D.bl (eqv (.tup [p.d, q.d, r.d]) (.tup [P.d, Q.d, V.d]))) h else .stk) = _
    rw [if_pos ⟨f1 _ _ _, f1 _ _ _⟩, e1]
  · show (if flat 60 (.lst [p.d, q.d, r.d]) = true ∧ flat 60 (.lst [P.d, Q.d, V.d]) = true then R.ok (D.bl (eqv (.lst [p.d, q.d, r.d]) (.lst [P.d, Q.d, V.d]))) h else .stk) = _
    rw [if_pos ⟨f2 _ _ _, f2 _ _ _⟩, e2]
/-! walks over lists on the own heap: rows step by step -/
theorem look_hp {h : Hh} {n : Nat} {ds : List D} (q : h[n]? = some (.lst ds)) : look (.hp n) h = some ds := by unfold look; dsimp only; rw [q]
theorem look_zp {x y : D} {h : Hh} {xs ys : List D} (a : seqS h x = some xs) (b : seqS h y = some ys) : look (.zp x y) h = some (zipL xs ys) := by unfold look; dsimp only; rw [a, b]
theorem seq_ref {h : Hh} {n : Nat} {ds : List D} (q : h[n]? = some (.lst ds)) : seqS h (.ref n) = some ds := by unfold seqS; dsimp only; rw [q]
def lcF (g : FnG) (t : FnT) (e : FnE) (δ : De) (w : Wk) (i : Nat) (h : Hh) : R (List D) := lcsN g t e δ w (4611686018427387904 - i) i h
theorem lcF0 (g : FnG) (t : FnT) (e : FnE) (δ : De) (w : Wk) (h : Hh) : lcsN g t e δ w 4611686018427387904 0 h = lcF g t e δ w 0 h := rfl
theorem lcFC {h : Hh} {w : Wk} {ds : List D} (el : look w h = some ds) (i : Nat) {d : D} (ei : ds[i]? = some d) (hi : i < 4611686018427387904) (g : FnG) (t : FnT) (e : FnE) (δ : De) : lcF g t e δ w i h = lcA (g d δ) t e (fun h => lcF g t e δ w (i + 1) h) h := by
  have ef : 4611686018427387904 - i = (4611686018427387904 - (i + 1)) + 1 := by omega
  unfold lcF
  rw [ef]
  generalize 4611686018427387904 - (i + 1) = K
  conv => lhs; unfold lcsN
  rw [el]
  dsimp only
  rw [ei]
  dsimp only
  unfold lcA lcB lcC
  cases g d δ with
  | none => rfl
  | some δ1 => rfl
theorem lcFN {h : Hh} {w : Wk} {ds : List D} (el : look w h = some ds) (i : Nat) (ei : i = ds.length) (hi : i < 4611686018427387904) (g : FnG) (t : FnT) (e : FnE) (δ : De) : lcF g t e δ w i h = .ok [] h := by
  have ef : 4611686018427387904 - i = (4611686018427387904 - (i + 1)) + 1 := by omega
  unfold lcF
  rw [ef]
  unfold lcsN
  rw [el]
  dsimp only
  rw [List.getElem?_eq_none_iff.mpr (by omega)]
  dsimp only
  rw [if_pos ei]
def loF (g : FnG) (u : FnS) (w : Wk) (i : Nat) (δ : De) (h : Hh) : RS := loopR g u w (4611686018427387904 - i) i δ h
theorem loF0 (g : FnG) (u : FnS) (w : Wk) (δ : De) (h : Hh) : loopR g u w 4611686018427387904 0 δ h = loF g u w 0 δ h := rfl
theorem loFC {h : Hh} {w : Wk} {ds : List D} (el : look w h = some ds) (i : Nat) {d : D} (ei : ds[i]? = some d) (hi : i < 4611686018427387904) (g : FnG) (u : FnS) (δ : De) : loF g u w i δ h = loA (g d δ) u (fun δ h => loF g u w (i + 1) δ h) h := by
  have ef : 4611686018427387904 - i = (4611686018427387904 - (i + 1)) + 1 := by omega
  unfold loF
  rw [ef]
  generalize 4611686018427387904 - (i + 1) = K
  conv => lhs; unfold loopR
  rw [el]
  dsimp only
  rw [ei]
  dsimp only
  unfold loA loK
  cases g d δ with
  | none => rfl
  | some δ1 => rfl
theorem loFN {h : Hh} {w : Wk} {ds : List D} (el : look w h = some ds) (i : Nat) (ei : i = ds.length) (hi : i < 4611686018427387904) (g : FnG) (u : FnS) (δ : De) : loF g u w i δ h = .nx δ h := by
  have ef : 4611686018427387904 - i = (4611686018427387904 - (i + 1)) + 1 := by omega
  unfold loF
  rw [ef]
  unfold loopR
  rw [el]
  dsimp only
  rw [List.getElem?_eq_none_iff.mpr (by omega)]
  dsimp only
  rw [if_pos ei]
end Lw
set_option autoImplicit false
set_option maxHeartbeats 8000000
set_option autoImplicit true
namespace Lw
open PySem PySem.Spec L2 L3
/-! step by step, by terms -/
theorem aC_ok {f : FnE} {r : FnA} {δ : De} {h : Hh} {x : D} {xs : List D} {h1 h2 : Hh} (a : f δ h = .ok x h1) (b : r δ h1 = .ok xs h2) : aCons f r δ h = .ok (x :: xs) h2 := by
  unfold aCons
  rw [a, bindOk, b]
  rfl
theorem aN_ok {δ : De} {h : Hh} : aNil δ h = .ok [] h := rfl
theorem eVar_ok {i : Nat} {δ : De} {h : Hh} {d : D} (e : δ[i]? = some (some d)) : eVar i δ h = .ok d h := by
  unfold eVar; rw [e]
theorem sRet_ok {f : FnE} {δ : De} {h h1 : Hh} {x : D} (a : f δ h = .ok x h1) : sRet f δ h = .rt x h1 := by
  unfold sRet; rw [a]; rfl
theorem sSet_ok {i : Nat} {f : FnE} {δ : De} {h h1 : Hh} {x : D} (a : f δ h = .ok x h1) : sSet i f δ h = .nx (δ.set i (some x)) h1 := by
  unfold sSet; rw [a]; rfl
theorem sExpr_ok {f : FnE} {δ : De} {h h1 : Hh} {x : D} (a : f δ h = .ok x h1) : sExpr f δ h = .nx δ h1 := by
  unfold sExpr; rw [a]; rfl
theorem sExpr_x {f : FnE} {δ : De} {h h1 : Hh} {c : Nat} {ds : List D} (a : f δ h = .exc c ds h1) : sExpr f δ h = .exc c ds δ h1 := by
  unfold sExpr; rw [a]; rfl
theorem eLst_ok {f : FnA} {δ : De} {h h1 : Hh} {xs : List D} (a : f δ h = .ok xs h1) (l : xs.length ≤ 1000) : eLst f δ h = .ok (.lst xs) h1 := by
  have e : lineOk xs.length = true := by unfold lineOk; simp; omega
  unfold eLst; rw [a, bindOk, if_pos e]
theorem eTup_ok {f : FnA} {δ : De} {h h1 : Hh} {xs : List D} (a : f δ h = .ok xs h1) (l : xs.length ≤ 1000) : eTup f δ h = .ok (.tup xs) h1 := by
  have e : lineOk xs.length = true := by unfold lineOk; simp; omega
  unfold eTup; rw [a, bindOk, if_pos e]
theorem eLstM_ok {f : FnA} {δ : De} {h h1 : Hh} {xs : List D} (a : f δ h = .ok xs h1) (l : xs.length ≤ 1000) : eLstM f δ h = .ok (.ref h1.length) (h1 ++ [.lst xs]) := by
  have e : lineOk xs.length = true := by unfold lineOk; simp; omega
  unfold eLstM; rw [a, bindOk, if_pos e]
theorem eCall_ok {np : Nat} {sem : Sem3} {fa : FnA} {δ : De} {h h1 : Hh} {xs : List D} (a : fa δ h = .ok xs h1) (hl : xs.length = np) : eCall np sem fa [] δ h = sem xs h1 := by
  unfold eCall kCall
  rw [a, bindOk, List.append_nil, if_pos hl]
theorem eBin_ok {g : F2} {fa fb : FnE} {δ : De} {h h1 h2 : Hh} {x y : D} (a : fa δ h = .ok x h1) (b : fb δ h1 = .ok y h2) : eBin g fa fb δ h = g x y h2 := by
  unfold eBin
  rw [a, bindOk, b, bindOk]
theorem eTest_ok {f : FnE} {δ : De} {h h1 : Hh} {c : Bool} (a : f δ h = .ok (.bl c) h1) : eTest f δ h = .ok c h1 := by
  unfold eTest; rw [a]; rfl
theorem eB_ok {g : FB} {fa : FnA} {δ : De} {h h1 : Hh} {xs : List D} (a : fa δ h = .ok xs h1) : eB g fa δ h = g xs h1 := by
  unfold eB; rw [a, bindOk]
theorem tOr_f {a b : FnT} {δ : De} {h h1 : Hh} (e : a δ h = .ok false h1) : tOr3 a b δ h = b δ h1 := by
  unfold tOr3; rw [e]; rfl
theorem tOr_t {a b : FnT} {δ : De} {h h1 : Hh} (e : a δ h = .ok true h1) : tOr3 a b δ h = .ok true h1 := by
  unfold tOr3; rw [e]; rfl
theorem tAnd_t {a b : FnT} {δ : De} {h h1 : Hh} (e : a δ h = .ok true h1) : tAnd3 a b δ h = b δ h1 := by
  unfold tAnd3; rw [e]; rfl
theorem tAnd_f {a b : FnT} {δ : De} {h h1 : Hh} (e : a δ h = .ok false h1) : tAnd3 a b δ h = .ok false h1 := by
  unfold tAnd3; rw [e]; rfl
theorem tNot_ok {a : FnT} {δ : De} {h h1 : Hh} {c : Bool} (e : a δ h = .ok c h1) : tNot3 a δ h = .ok (!c) h1 := by
  unfold tNot3; rw [e]; rfl
theorem sIf_t {t : FnT} {u v : FnS} {δ : De} {h h1 : Hh} (e : t δ h = .ok true h1) : sIf t u v δ h = u δ h1 := by
  unfold sIf; rw [e]; rfl
theorem sIf_f {t : FnT} {u v : FnS} {δ : De} {h h1 : Hh} (e : t δ h = .ok false h1) : sIf t u v δ h = v δ h1 := by
  unfold sIf; rw [e]; rfl
theorem seq_nx {u v : FnS} {δ δ1 : De} {h h1 : Hh} (e : u δ h = .nx δ1 h1) : sSeq u v δ h = v δ1 h1 := by
  unfold sSeq; rw [e]
theorem seq_rt {u v : FnS} {δ : De} {h h1 : Hh} {d : D} (e : u δ h = .rt d h1) : sSeq u v δ h = .rt d h1 := by
  unfold sSeq; rw [e]
theorem end_rt {r : RS} {d : D} {h : Hh} (e : r = .rt d h) : endD r = .ok d h := by rw [e]; rfl
theorem eAnd_t {a b : FnE} {δ : De} {h h1 : Hh} (e : a δ h = .ok (.bl true) h1) : eAnd a b δ h = b δ h1 := by
  unfold eAnd; rw [e]; rfl
theorem sPar2 {i j : Nat} {fa : FnA} {δ : De} {h h1 : Hh} {x y : D} (a : fa δ h = .ok [x, y] h1) : sPar [i, j] fa δ h = .nx ((δ.set i (some x)).set j (some y)) h1 ∨ sPar [i, j] fa δ h = .nx ((δ.set j (some y)).set i (some x)) h1 := by
  unfold sPar; rw [a]
  first
    | exact .inl rfl
    | exact .inr rfl
theorem eOr_t {a b : FnE} {δ : De} {h h1 : Hh} (e : a δ h = .ok (.bl true) h1) : eOr a b δ h = .ok (.bl true) h1 := by
  unfold eOr; rw [e]; rfl
theorem eOr_f {a b : FnE} {δ : De} {h h1 : Hh} (e : a δ h = .ok (.bl false) h1) : eOr a b δ h = b δ h1 := by
  unfold eOr; rw [e]; rfl
theorem eAnd_f {a b : FnE} {δ : De} {h h1 : Hh} (e : a δ h = .ok (.bl false) h1) : eAnd a b δ h = .ok (.bl false) h1 := by
  unfold eAnd; rw [e]; rfl
theorem eMeth_ok {c np : Nat} {sem : Sem3} {fo : FnE} {fa : FnA} {δ : De} {h h1 h2 : Hh} {x : D} {xs : List D} (o : fo δ h = .ok x h1) (k : clsOf h1 x = some c) (a : fa δ h1 = .ok xs h2) (hl : (x :: xs).length = np) : eMeth c np sem fo fa [] δ h = sem (x :: xs) h2 := by
  unfold eMeth
  rw [o, bindOk]
  unfold kMeth
  rw [if_pos k, a, bindOk]
  unfold kCall
  rw [List.append_nil, if_pos hl]
/-! draws by terms, lists of draws, loops -/
theorem kL_ok {xs : List D} (l : xs.length ≤ 1000) (h : Hh) : kLst false xs h = .ok (.lst xs) h := by
  have e : lineOk xs.length = true := by unfold lineOk; simp; omega
  unfold kLst; rw [if_pos e, if_neg Bool.false_ne_true]
theorem lcW_ok {f : FnW} {g : FnG} {t : FnT} {e : FnE} {own : List Nat} {δ : De} {h : Hh} {ds xs : List D} (a : f δ h = .ok (.im ds) h) (b : lcs g t e (wipeD δ own) ds h = .ok xs h) (l : xs.length ≤ 1000) : eLcW false f g t e own δ h = .ok (.lst xs) h := by
  unfold eLcW
  rw [a, bindOk]
  show (lcs g t e (wipeD δ own) ds h).bind (kLst false) = _
  rw [b, bindOk, kL_ok l]
theorem lc_y2 {g : FnG} {e : FnE} {δ δ1 : De} {d x : D} {ds xs : List D} {h h1 h2 : Hh} (a : g d δ = some δ1) (b : e δ1 h = .ok x h1) (c : lcs g tYes3 e δ ds h1 = .ok xs h2) : lcs g tYes3 e δ (d :: ds) h = .ok (x :: xs) h2 := by
  rw [lcCons, a, lcAS]
  show lcB (.ok true h) _ _ = _
  rw [lcBT, b, lcCO, c]
  rfl
theorem eLc_ok {f : FnI} {g : FnG} {t : FnT} {e : FnE} {own : List Nat} {δ : De} {h h1 h2 : Hh} {ds xs : List D} (a : f δ h = .ok ds h1) (b : lcs g t e (wipeD δ own) ds h1 = .ok xs h2) (l : xs.length ≤ 1000) : eLc false f g t e own δ h = .ok (.lst xs) h2 := by
  unfold eLc
  rw [a, bindOk, b, bindOk, kL_ok l]
theorem rg_ok {f : FnE} {δ : De} {h h1 : Hh} {n : Nat} (a : f δ h = .ok (.int (n : Int)) h1) (l : n ≤ 1000) : iRg1 f δ h = .ok (rgD 0 n) h1 := by
  have : -(2 ^ 62 : Int) ≤ n ∧ (n : Int) < 2 ^ 62 := by constructor <;> omega
  unfold iRg1
  rw [a, bindOk]
  dsimp only
  rw [if_pos this, Int.toNat_natCast]
theorem rgD_len (n : Nat) : (rgD 0 n).length = n := by simp [rgD]
theorem rgD_mem {n : Nat} {d : D} (hd : d ∈ rgD 0 n) : ∃ k : Nat, k < n ∧ d = .int (k : Int) := by
  unfold rgD at hd
  obtain ⟨k, hk, rfl⟩ := List.mem_map.mp hd
  exact ⟨k, by simpa using hk, by simp⟩
theorem natI (v : Int) (h0 : 0 ≤ v) : ∃ n : Nat, v = (n : Int) := ⟨v.toNat, by omega⟩
/-- a loop that keeps P, which counts what is left -/
theorem loop_cnt {g : FnG} {body : FnS} (P : Nat → De → Hh → Prop) : ∀ (ds : List D) (δ : De) (h : Hh), P ds.length δ h → (∀ d ∈ ds, ∀ n δ h, P (n + 1) δ h → ∃ δ1 δ2 h2, g d δ = some δ1 ∧ body δ1 h = .nx δ2 h2 ∧ P n δ2 h2) → ∃ δ' h', loop3 g body ds δ h = .nx δ' h' ∧ P 0 δ' h'
  | [], δ, h, p, _ => ⟨δ, h, rfl, p⟩
  | d :: ds, δ, h, p, st => by
    obtain ⟨δ1, δ2, h2, e1, e2, p2⟩ := st d (by simp) ds.length δ h p
    obtain ⟨δ', h', e3, p3⟩ := loop_cnt P ds δ2 h2 p2 fun d hd => st d (by simp [hd])
    exact ⟨δ', h', by rw [loCons, e1, loAS, e2, loNx, e3], p3⟩
theorem sFor_ok {f : FnI} {g : FnG} {body : FnS} {δ : De} {h h1 : Hh} {ds : List D} (r : f δ h = .ok ds h1) : L3.sFor f g body δ h = loop3 g body ds δ h1 := by
  unfold L3.sFor
  rw [r, toSOk]
theorem tI_eq {fa fb : FnE} {δ : De} {h h1 h2 : Hh} {a b : Int} (ea : fa δ h = .ok (.int a) h1) (eb : fb δ h1 = .ok (.int b) h2) : eTest (eBin eqD fa fb) δ h = .ok (decide (a = b)) h2 := eTest_ok ((eBin_ok ea eb).trans (eqI a b h2))
theorem tI_ne {fa fb : FnE} {δ : De} {h h1 h2 : Hh} {a b : Int} (ea : fa δ h = .ok (.int a) h1) (eb : fb δ h1 = .ok (.int b) h2) : eTest (eBin neD fa fb) δ h = .ok (!decide (a = b)) h2 := eTest_ok ((eBin_ok ea eb).trans (neI a b h2))
theorem try_x {u : FnS} {l : List ((Nat → Bool) × FnS)} {δ δ1 : De} {h h1 : Hh} {c : Nat} {ds : List D} (e : u δ h = .exc c ds δ1 h1) : sTry u l δ h = handle c ds δ1 h1 l := by
  unfold sTry; rw [e]
theorem try_nx {u : FnS} {l : List ((Nat → Bool) × FnS)} {δ δ1 : De} {h h1 : Hh} (e : u δ h = .nx δ1 h1) : sTry u l δ h = .nx δ1 h1 := by
  unfold sTry; rw [e]
theorem end_x {r : RS} {c : Nat} {ds : List D} {δ : De} {h : Hh} (e : r = .exc c ds δ h) : endD r = .exc c ds h := by rw [e]; rfl
theorem seq_x {u v : FnS} {δ δ1 : De} {h h1 : Hh} {c : Nat} {ds : List D} (e : u δ h = .exc c ds δ1 h1) : sSeq u v δ h = .exc c ds δ1 h1 := by
  unfold sSeq; rw [e]
theorem if_nx {t : FnT} {u : FnS} {δ : De} {h h1 : Hh} (e : t δ h = .ok false h1) : sIf t u sNil δ h = .nx δ h1 := (sIf_f e).trans rfl
/-! slices -/
theorem cut_hi {xs : List D} {n k : Nat} {i : Int} (hl : xs.length = n) (e : HT.sIx n n (some i) = k) : cutL xs none (some i) = xs.take k := by
  unfold cutL
  rw [hl, e]
  show List.take (k - 0) (List.drop 0 xs) = _
  simp
theorem cut_lo {xs : List D} {n k : Nat} {i : Int} (hl : xs.length = n) (e : HT.sIx n 0 (some i) = k) : cutL xs (some i) none = xs.drop k := by
  unfold cutL
  rw [hl, e]
  show List.take (n - k) (List.drop k xs) = _
  rw [List.take_of_length_le]
  rw [List.length_drop, hl]
  exact Nat.le_refl _
def IsN (n : Nat) (x : D) : Prop := ∃ k : Nat, k < n ∧ x = .int (k : Int)
theorem nats {n : Nat} : ∀ {xs : List D}, (∀ x ∈ xs, IsN n x) → ∃ es : List Nat, xs = es.map (fun n : Nat => D.int (n : Int)) ∧ ∀ e ∈ es, e < n
  | [], _ => ⟨[], rfl, by simp⟩
  | x :: xs, q => by
    obtain ⟨e, ke, rfl⟩ := q x (by simp)
    obtain ⟨es, rfl, k⟩ := nats (n := n) (xs := xs) fun y hy => q y (by simp [hy])
    exact ⟨e :: es, rfl, fun z hz => by
      rcases List.mem_cons.mp hz with rfl | hz
      · exact ke
      · exact k z hz⟩
theorem tupB (xs : List D) (h : Hh) : tupleB [.lst xs] h = .ok (.tup xs) h := rfl
/-! code that changes nothing of what stands -/
structure Old (h h' : Hh) : Prop where
  len : h.length ≤ h'.length
  old : ∀ j, j < h.length → h'[j]? = h[j]?
theorem Old.refl (h : Hh) : Old h h := ⟨Nat.le_refl _, fun _ _ => rfl⟩
theorem Old.trans {h h1 h2 : Hh} (x : Old h h1) (y : Old h1 h2) : Old h h2 := ⟨Nat.le_trans x.len y.len, fun j a => (y.old j (Nat.lt_of_lt_of_le a x.len)).trans (x.old j a)⟩
theorem Old.app (h t : Hh) : Old h (h ++ t) := ⟨by simp, fun j b => List.getElem?_append_left b⟩
def Ev {α : Type} (f : De → Hh → R α) (δ : De) (x : α) : Prop := ∀ h, ∃ h', f δ h = .ok x h' ∧ Old h h'
def EvF (f : Sem3) (ds : List D) (d : D) : Prop := ∀ h, ∃ h', f ds h = .ok d h' ∧ Old h h'
def EvN (u : FnS) (δ δ' : De) : Prop := ∀ h, ∃ h', u δ h = .nx δ' h' ∧ Old h h'
def EvT (u : FnS) (δ : De) (d : D) : Prop := ∀ h, ∃ h', u δ h = .rt d h' ∧ Old h h'
theorem Ev.pure {α : Type} {f : De → Hh → R α} {δ : De} {x : α} (e : ∀ h, f δ h = .ok x h) : Ev f δ x := fun h => ⟨h, e h, Old.refl h⟩
theorem EvF.pure {f : Sem3} {ds : List D} {d : D} (e : ∀ h, f ds h = .ok d h) : EvF f ds d := fun h => ⟨h, e h, Old.refl h⟩
theorem EvF.app {f : Sem3} {ds : List D} {d : D} {t : Hh} (e : ∀ h, f ds h = .ok d (h ++ t)) : EvF f ds d := fun h => ⟨_, e h, Old.app h t⟩
theorem Ev.var {i : Nat} {δ : De} {d : D} (e : δ[i]? = some (some d)) : Ev (eVar i) δ d := .pure fun _ => eVar_ok e
theorem Ev.c {d : D} {δ : De} : Ev (eC d) δ d := .pure fun _ => rfl
theorem Ev.nil {δ : De} : Ev aNil δ [] := .pure fun _ => rfl
theorem Ev.cons {f : FnE} {r : FnA} {δ : De} {x : D} {xs : List D} (a : Ev f δ x) (b : Ev r δ xs) : Ev (aCons f r) δ (x :: xs) := fun h => by
  obtain ⟨h1, e1, o1⟩ := a h
  obtain ⟨h2, e2, o2⟩ := b h1
  exact ⟨h2, aC_ok e1 e2, o1.trans o2⟩
theorem Ev.tup {f : FnA} {δ : De} {xs : List D} (a : Ev f δ xs) (l : xs.length ≤ 1000 := by simp) : Ev (eTup f) δ (.tup xs) := fun h => by
  obtain ⟨h1, e1, o1⟩ := a h
  exact ⟨h1, eTup_ok e1 l, o1⟩
theorem Ev.lst {f : FnA} {δ : De} {xs : List D} (a : Ev f δ xs) (l : xs.length ≤ 1000 := by simp) : Ev (eLst f) δ (.lst xs) := fun h => by
  obtain ⟨h1, e1, o1⟩ := a h
  exact ⟨h1, eLst_ok e1 l, o1⟩
theorem Ev.bin {g : F2} {fa fb : FnE} {δ : De} {x y z : D} (a : Ev fa δ x) (b : Ev fb δ y) (c : ∀ h, g x y h = .ok z h) : Ev (eBin g fa fb) δ z := fun h => by
  obtain ⟨h1, e1, o1⟩ := a h
  obtain ⟨h2, e2, o2⟩ := b h1
  exact ⟨h2, (eBin_ok e1 e2).trans (c h2), o1.trans o2⟩
theorem Ev.b {g : FB} {fa : FnA} {δ : De} {xs : List D} {z : D} (a : Ev fa δ xs) (c : ∀ h, g xs h = .ok z h) : Ev (eB g fa) δ z := fun h => by
  obtain ⟨h1, e1, o1⟩ := a h
  exact ⟨h1, (eB_ok e1).trans (c h1), o1⟩
theorem eCallD_ok {np : Nat} {sem : Sem3} {fa : FnA} {dds : List D} {δ : De} {h h1 : Hh} {xs : List D} (a : fa δ h = .ok xs h1) (hl : (xs ++ dds).length = np) : eCall np sem fa dds δ h = sem (xs ++ dds) h1 := by
  unfold eCall kCall
  rw [a, bindOk, if_pos hl]
theorem Ev.call {np : Nat} {sem : Sem3} {fa : FnA} {δ : De} {xs : List D} {d : D} (s : EvF sem xs d) (a : Ev fa δ xs) (hl : xs.length = np := by rfl) : Ev (eCall np sem fa []) δ d := fun h => by
  obtain ⟨h1, e1, o1⟩ := a h
  obtain ⟨h2, e2, o2⟩ := s h1
  exact ⟨h2, (eCall_ok e1 hl).trans e2, o1.trans o2⟩
theorem Ev.callD {np : Nat} {sem : Sem3} {fa : FnA} {dds : List D} {δ : De} {xs ys : List D} {d : D} (s : EvF sem ys d) (e : xs ++ dds = ys) (a : Ev fa δ xs) (hl : ys.length = np := by rfl) : Ev (eCall np sem fa dds) δ d := fun h => by
  subst e
  obtain ⟨h1, e1, o1⟩ := a h
  obtain ⟨h2, e2, o2⟩ := s h1
  exact ⟨h2, (eCallD_ok e1 hl).trans e2, o1.trans o2⟩
theorem Ev.test {f : FnE} {δ : De} {c : Bool} (a : Ev f δ (.bl c)) : Ev (eTest f) δ c := fun h => by
  obtain ⟨h1, e1, o1⟩ := a h
  exact ⟨h1, eTest_ok e1, o1⟩
theorem Ev.orf {a b : FnT} {δ : De} {c : Bool} (x : Ev a δ false) (y : Ev b δ c) : Ev (tOr3 a b) δ c := fun h => by
  obtain ⟨h1, e1, o1⟩ := x h
  obtain ⟨h2, e2, o2⟩ := y h1
  exact ⟨h2, (tOr_f e1).trans e2, o1.trans o2⟩
theorem Ev.ort {a b : FnT} {δ : De} (x : Ev a δ true) : Ev (tOr3 a b) δ true := fun h => by
  obtain ⟨h1, e1, o1⟩ := x h
  exact ⟨h1, tOr_t e1, o1⟩
theorem Ev.andt {a b : FnT} {δ : De} {c : Bool} (x : Ev a δ true) (y : Ev b δ c) : Ev (tAnd3 a b) δ c := fun h => by
  obtain ⟨h1, e1, o1⟩ := x h
  obtain ⟨h2, e2, o2⟩ := y h1
  exact ⟨h2, (tAnd_t e1).trans e2, o1.trans o2⟩
theorem Ev.andf {a b : FnT} {δ : De} (x : Ev a δ false) : Ev (tAnd3 a b) δ false := fun h => by
  obtain ⟨h1, e1, o1⟩ := x h
  exact ⟨h1, tAnd_f e1, o1⟩
theorem Ev.not {a : FnT} {δ : De} {c : Bool} (x : Ev a δ c) : Ev (tNot3 a) δ (!c) := fun h => by
  obtain ⟨h1, e1, o1⟩ := x h
  exact ⟨h1, tNot_ok e1, o1⟩
theorem Ev.eandt {a b : FnE} {δ : De} {d : D} (x : Ev a δ (.bl true)) (y : Ev b δ d) : Ev (eAnd a b) δ d := fun h => by
  obtain ⟨h1, e1, o1⟩ := x h
  obtain ⟨h2, e2, o2⟩ := y h1
  exact ⟨h2, (eAnd_t e1).trans e2, o1.trans o2⟩
theorem EvN.set {i : Nat} {f : FnE} {δ : De} {x : D} (a : Ev f δ x) : EvN (sSet i f) δ (δ.set i (some x)) := fun h => by
  obtain ⟨h1, e1, o1⟩ := a h
  exact ⟨h1, sSet_ok e1, o1⟩
theorem EvN.expr {f : FnE} {δ : De} {x : D} (a : Ev f δ x) : EvN (sExpr f) δ δ := fun h => by
  obtain ⟨h1, e1, o1⟩ := a h
  exact ⟨h1, sExpr_ok e1, o1⟩
theorem EvN.iff {t : FnT} {u : FnS} {δ : De} (a : Ev t δ false) : EvN (sIf t u sNil) δ δ := fun h => by
  obtain ⟨h1, e1, o1⟩ := a h
  exact ⟨h1, if_nx e1, o1⟩
theorem EvT.ift {t : FnT} {u v : FnS} {δ : De} {d : D} (a : Ev t δ true) (b : EvT u δ d) : EvT (sIf t u v) δ d := fun h => by
  obtain ⟨h1, e1, o1⟩ := a h
  obtain ⟨h2, e2, o2⟩ := b h1
  exact ⟨h2, (sIf_t e1).trans e2, o1.trans o2⟩
theorem EvT.ret {f : FnE} {δ : De} {x : D} (a : Ev f δ x) : EvT (sRet f) δ x := fun h => by
  obtain ⟨h1, e1, o1⟩ := a h
  exact ⟨h1, sRet_ok e1, o1⟩
theorem EvT.seq {u v : FnS} {δ δ1 : De} {d : D} (a : EvN u δ δ1) (b : EvT v δ1 d) : EvT (sSeq u v) δ d := fun h => by
  obtain ⟨h1, e1, o1⟩ := a h
  obtain ⟨h2, e2, o2⟩ := b h1
  exact ⟨h2, (seq_nx e1).trans e2, o1.trans o2⟩
theorem EvN.seq {u v : FnS} {δ δ1 δ2 : De} (a : EvN u δ δ1) (b : EvN v δ1 δ2) : EvN (sSeq u v) δ δ2 := fun h => by
  obtain ⟨h1, e1, o1⟩ := a h
  obtain ⟨h2, e2, o2⟩ := b h1
  exact ⟨h2, (seq_nx e1).trans e2, o1.trans o2⟩
theorem EvT.first {u v : FnS} {δ : De} {d : D} (a : EvT u δ d) : EvT (sSeq u v) δ d := fun h => by
  obtain ⟨h1, e1, o1⟩ := a h
  exact ⟨h1, seq_rt e1, o1⟩
theorem EvF.run {n : Nat} {u : FnS} {ds : List D} {d : D} {δ : De} (a : EvT u δ d) (e : startD n ds = δ := by rfl) : EvF (runD n u) ds d := fun h => by
  obtain ⟨h1, e1, o1⟩ := a h
  refine ⟨h1, ?_, o1⟩
  unfold runD
  rw [e]
  exact end_rt e1
/-- comprehensions -/
theorem Ev.lcs {g : FnG} {e : FnE} {α : Type} (a F : α → D) {δ : De} : ∀ l : List α, (∀ x ∈ l, ∃ δ1, g (a x) δ = some δ1 ∧ Ev e δ1 (F x)) → Ev (fun δ h => lcs g tYes3 e δ (l.map a) h) δ (l.map F)
  | [], _ => .pure fun _ => rfl
  | x :: l, p => fun h => by
    obtain ⟨δ1, e1, e2⟩ := p x (by simp)
    obtain ⟨h1, e3, o1⟩ := e2 h
    obtain ⟨h2, e4, o2⟩ := Ev.lcs a F l (fun y hy => p y (by simp [hy])) h1
    exact ⟨h2, lc_y2 e1 e3 e4, o1.trans o2⟩
theorem lcW_okH {f : FnW} {g : FnG} {t : FnT} {e : FnE} {own : List Nat} {δ : De} {h h1 h2 : Hh} {ds xs : List D} (a : f δ h = .ok (.im ds) h1) (b : lcs g t e (wipeD δ own) ds h1 = .ok xs h2) (l : xs.length ≤ 1000) : eLcW false f g t e own δ h = .ok (.lst xs) h2 := by
  unfold eLcW lcW
  rw [a, bindOk]
  dsimp only
  rw [b, bindOk, kL_ok l]
theorem Ev.seqT {f : FnE} {δ : De} {xs : List D} (a : Ev f δ (.tup xs)) : Ev (wSeq f) δ (.im xs) := fun h => by
  obtain ⟨h1, e1, o1⟩ := a h
  refine ⟨h1, ?_, o1⟩
  unfold wSeq
  rw [e1]
  rfl
theorem Ev.seqL {f : FnE} {δ : De} {xs : List D} (a : Ev f δ (.lst xs)) : Ev (wSeq f) δ (.im xs) := fun h => by
  obtain ⟨h1, e1, o1⟩ := a h
  refine ⟨h1, ?_, o1⟩
  unfold wSeq
  rw [e1]
  rfl
theorem Ev.lcW {f : FnW} {g : FnG} {e : FnE} {own : List Nat} {α : Type} {a F : α → D} {δ : De} {l : List α} (x : Ev f δ (.im (l.map a))) (p : ∀ x ∈ l, ∃ δ1, g (a x) (wipeD δ own) = some δ1 ∧ Ev e δ1 (F x)) (hl : l.length ≤ 1000) : Ev (eLcW false f g tYes3 e own) δ (.lst (l.map F)) := fun h => by
  obtain ⟨h1, e1, o1⟩ := x h
  obtain ⟨h2, e2, o2⟩ := Ev.lcs a F l p h1
  exact ⟨h2, lcW_okH e1 e2 (by simpa using hl), o1.trans o2⟩
/-- loops -/
theorem EvN.loop {g : FnG} {body : FnS} {α : Type} (a : α → D) (P : List α → De → Prop) : ∀ (l : List α) (pre : List α) (δ : De), P pre δ → (∀ x ∈ l, ∀ pre δ, P pre δ → ∃ δ1 δ2, g (a x) δ = some δ1 ∧ EvN body δ1 δ2 ∧ P (pre ++ [x]) δ2) → ∃ δ', EvN (fun δ h => loop3 g body (l.map a) δ h) δ δ' ∧ P (pre ++ l) δ'
  | [], pre, δ, p, _ => ⟨δ, fun h => ⟨h, rfl, Old.refl h⟩, by simpa using p⟩
  | x :: l, pre, δ, p, st => by
    obtain ⟨δ1, δ2, e1, e2, p2⟩ := st x (by simp) pre δ p
    obtain ⟨δ', e3, p3⟩ := EvN.loop a P l (pre ++ [x]) δ2 p2 fun y hy => st y (by simp [hy])
    refine ⟨δ', fun h => ?_, by simpa using p3⟩
    obtain ⟨h1, f1, o1⟩ := e2 h
    obtain ⟨h2, f2, o2⟩ := e3 h1
    refine ⟨h2, ?_, o1.trans o2⟩
    show loop3 g body (a x :: l.map a) δ h = _
    rw [loCons, e1, loAS, f1, loNx]
    exact f2
theorem EvN.forW {f : FnW} {g : FnG} {body : FnS} {δ δ' : De} {ds : List D} (r : Ev f δ (.im ds)) (b : EvN (fun δ h => loop3 g body ds δ h) δ δ') : EvN (L3.sForW f g body) δ δ' := fun h => by
  obtain ⟨h1, e1, o1⟩ := r h
  obtain ⟨h2, e2, o2⟩ := b h1
  refine ⟨h2, ?_, o1.trans o2⟩
  unfold L3.sForW
  rw [e1]
  exact e2
/-- comprehensions that leave out -/
theorem Ev.lcsF {g : FnG} {t : FnT} {e : FnE} {α : Type} (a F : α → D) (p : α → Bool) {δ : De} : ∀ l : List α, (∀ x ∈ l, ∃ δ1, g (a x) δ = some δ1 ∧ Ev t δ1 (p x) ∧ (p x = true → Ev e δ1 (F x))) → Ev (fun δ h => L3.lcs g t e δ (l.map a) h) δ ((l.filter p).map F)
  | [], _ => .pure fun _ => rfl
  | x :: l, st => fun h => by
    obtain ⟨δ1, e1, e2, e3⟩ := st x (by simp)
    obtain ⟨h1, f1, o1⟩ := e2 h
    have ih := Ev.lcsF (g := g) (t := t) (e := e) a F p (δ := δ) l fun y hy => st y (by simp [hy])
    show ∃ h', L3.lcs g t e δ (a x :: l.map a) h = .ok (((x :: l).filter p).map F) h' ∧ Old h h'
    rw [lcCons, e1, lcAS, f1]
    cases q : p x with
    | true =>
      obtain ⟨h2, f2, o2⟩ := e3 q h1
      obtain ⟨h3, f3, o3⟩ := ih h2
      refine ⟨h3, ?_, (o1.trans o2).trans o3⟩
      have f3 : L3.lcs g t e δ (l.map a) h2 = _ := f3
      rw [lcBT, f2, lcCO, f3, List.filter_cons_of_pos q]
      rfl
    | false =>
      obtain ⟨h3, f3, o3⟩ := ih h1
      refine ⟨h3, ?_, o1.trans o3⟩
      have f3 : L3.lcs g t e δ (l.map a) h1 = _ := f3
      rw [lcBF, f3, List.filter_cons_of_neg (by simp [q])]
theorem Ev.lcWF {f : FnW} {g : FnG} {t : FnT} {e : FnE} {own : List Nat} {α : Type} {a F : α → D} (p : α → Bool) {δ : De} {l : List α} (x : Ev f δ (.im (l.map a))) (q : ∀ x ∈ l, ∃ δ1, g (a x) (wipeD δ own) = some δ1 ∧ Ev t δ1 (p x) ∧ (p x = true → Ev e δ1 (F x))) (hl : l.length ≤ 1000) : Ev (eLcW false f g t e own) δ (.lst ((l.filter p).map F)) := fun h => by
  obtain ⟨h1, e1, o1⟩ := x h
  obtain ⟨h2, e2, o2⟩ := Ev.lcsF a F p l q h1
  exact ⟨h2, lcW_okH e1 e2 (by rw [List.length_map]; exact Nat.le_trans (List.length_filter_le _ _) hl), o1.trans o2⟩
theorem Ev.lc {f : FnI} {g : FnG} {e : FnE} {own : List Nat} {α : Type} {a F : α → D} {δ : De} {l : List α} (x : Ev f δ (l.map a)) (p : ∀ x ∈ l, ∃ δ1, g (a x) (wipeD δ own) = some δ1 ∧ Ev e δ1 (F x)) (hl : l.length ≤ 1000) : Ev (eLc false f g tYes3 e own) δ (.lst (l.map F)) := fun h => by
  obtain ⟨h1, e1, o1⟩ := x h
  obtain ⟨h2, e2, o2⟩ := Ev.lcs a F l p h1
  exact ⟨h2, eLc_ok e1 e2 (by simpa using hl), o1.trans o2⟩
theorem rgD_map (n : Nat) : rgD 0 n = (List.range n).map fun k : Nat => D.int (k : Int) := by
  unfold rgD
  refine List.map_congr_left fun k _ => ?_
  show D.int (0 + (k : Int)) = _
  rw [Int.zero_add]
theorem Ev.rg {f : FnE} {δ : De} {n : Nat} (a : Ev f δ (.int (n : Int))) (l : n ≤ 1000) : Ev (iRg1 f) δ ((List.range n).map fun k : Nat => D.int (k : Int)) := fun h => by
  obtain ⟨h1, e1, o1⟩ := a h
  exact ⟨h1, (rg_ok e1 l).trans (by rw [rgD_map]), o1⟩
theorem EvN.asg {g : FnG} {f : FnE} {δ δ' : De} {x : D} (a : Ev f δ x) (e : g x δ = some δ') : EvN (sAsg g f) δ δ' := fun h => by
  obtain ⟨h1, e1, o1⟩ := a h
  refine ⟨h1, ?_, o1⟩
  unfold sAsg
  rw [e1, toSOk, e]
theorem EvN.forI {f : FnI} {g : FnG} {body : FnS} {δ δ' : De} {ds : List D} (r : Ev f δ ds) (b : EvN (fun δ h => loop3 g body ds δ h) δ δ') : EvN (L3.sFor f g body) δ δ' := fun h => by
  obtain ⟨h1, e1, o1⟩ := r h
  obtain ⟨h2, e2, o2⟩ := b h1
  exact ⟨h2, (sFor_ok e1).trans e2, o1.trans o2⟩
theorem Ev.zip {fa : FnA} {δ : De} {x y : D} {b c : Bool} {xs ys : List D} (a : Ev fa δ [x, y]) (ex : immS x = some (b, xs)) (ey : immS y = some (c, ys)) : Ev (wZip fa) δ (.im (zipL xs ys)) := fun h => by
  obtain ⟨h1, e1, o1⟩ := a h
  refine ⟨h1, ?_, o1⟩
  unfold wZip
  rw [e1, bindOk]
  unfold kZipW
  dsimp only
  rw [ex, ey]
theorem zipL_map {α : Type} (a b : α → D) : ∀ l : List α, zipL (l.map a) (l.map b) = l.map fun x => .tup [a x, b x]
  | [] => rfl
  | x :: l => by
    show D.tup [a x, b x] :: zipL (l.map a) (l.map b) = _
    rw [zipL_map a b l]
    rfl
theorem Ev.enum {fa : FnA} {δ : De} {xs : List D} (a : Ev fa δ [.lst xs]) : Ev (iEnum3 fa) δ (enumL 0 xs) := fun h => by
  obtain ⟨h1, e1, o1⟩ := a h
  refine ⟨h1, ?_, o1⟩
  unfold iEnum3
  rw [e1]
  rfl
theorem enumL_map (g : Nat → D) : ∀ n s : Nat, enumL s ((List.range' s n).map g) = (List.range' s n).map fun k => .tup [.int (k : Int), g k]
  | 0, _ => rfl
  | n + 1, s => by
    rw [List.range'_succ]
    show D.tup [.int (s : Int), g s] :: enumL (s + 1) ((List.range' (s + 1) n).map g) = _
    rw [enumL_map g n (s + 1)]
    rfl
theorem Ev.slHi {f g : FnE} {δ : De} {xs : List D} {k : Nat} (a : Ev f δ (.lst xs)) (b : Ev g δ (.int (k : Int))) (hk : k ≤ xs.length) : Ev (eSlice f oNone (oSome g)) δ (.lst (xs.take k)) := fun h => by
  obtain ⟨h1, e1, o1⟩ := a h
  obtain ⟨h2, e2, o2⟩ := b h1
  refine ⟨h2, ?_, o1.trans o2⟩
  have c : cutL xs none (some (k : Int)) = xs.take k := cut_hi rfl (by rw [HT.sIx_nat]; omega)
  unfold eSlice oNone oSome
  rw [e1, bindOk, bindOk, e2, bindOk]
  show R.ok (D.lst (cutL xs none (some (k : Int)))) h2 = _
  rw [c]
theorem Ev.slLo {f g : FnE} {δ : De} {xs : List D} {k : Nat} (a : Ev f δ (.lst xs)) (b : Ev g δ (.int (k : Int))) (hk : k ≤ xs.length) : Ev (eSlice f (oSome g) oNone) δ (.lst (xs.drop k)) := fun h => by
  obtain ⟨h1, e1, o1⟩ := a h
  obtain ⟨h2, e2, o2⟩ := b h1
  refine ⟨h2, ?_, o1.trans o2⟩
  have c : cutL xs (some (k : Int)) none = xs.drop k := cut_lo rfl (by rw [HT.sIx_nat]; omega)
  unfold eSlice oNone oSome
  rw [e1, bindOk, e2, bindOk]
  show R.ok (D.lst (cutL xs (some (k : Int)) none)) h2 = _
  rw [c]
/-- errors -/
def EvX (f : FnE) (δ : De) (c : Nat) : Prop := ∀ h, ∃ ds h', f δ h = .exc c ds h' ∧ Old h h'
def EvFX (f : Sem3) (xs : List D) (c : Nat) : Prop := ∀ h, ∃ ds h', f xs h = .exc c ds h' ∧ Old h h'
def EvSX (u : FnS) (δ : De) (c : Nat) (δ' : De) : Prop := ∀ h, ∃ ds h', u δ h = .exc c ds δ' h' ∧ Old h h'
theorem EvFX.pure {f : Sem3} {xs : List D} {c : Nat} (e : ∀ h, ∃ ds, f xs h = .exc c ds h) : EvFX f xs c := fun h => by
  obtain ⟨ds, e⟩ := e h
  exact ⟨ds, h, e, Old.refl h⟩
theorem EvX.call {np : Nat} {sem : Sem3} {fa : FnA} {δ : De} {xs : List D} {c : Nat} (s : EvFX sem xs c) (a : Ev fa δ xs) (hl : xs.length = np := by rfl) : EvX (eCall np sem fa []) δ c := fun h => by
  obtain ⟨h1, e1, o1⟩ := a h
  obtain ⟨ds, h2, e2, o2⟩ := s h1
  exact ⟨ds, h2, (eCall_ok e1 hl).trans e2, o1.trans o2⟩
theorem EvX.callD {np : Nat} {sem : Sem3} {fa : FnA} {dds : List D} {δ : De} {xs ys : List D} {c : Nat} (s : EvFX sem ys c) (e : xs ++ dds = ys) (a : Ev fa δ xs) (hl : ys.length = np := by rfl) : EvX (eCall np sem fa dds) δ c := fun h => by
  subst e
  obtain ⟨h1, e1, o1⟩ := a h
  obtain ⟨ds, h2, e2, o2⟩ := s h1
  exact ⟨ds, h2, (eCallD_ok e1 hl).trans e2, o1.trans o2⟩
theorem EvSX.expr {f : FnE} {δ : De} {c : Nat} (a : EvX f δ c) : EvSX (sExpr f) δ c δ := fun h => by
  obtain ⟨ds, h1, e1, o1⟩ := a h
  exact ⟨ds, h1, sExpr_x e1, o1⟩
theorem EvSX.raise {f : FnE} {δ : De} {c : Nat} {x : D} (a : Ev f δ x) : EvSX (sRaise c f) δ c δ := fun h => by
  obtain ⟨h1, e1, o1⟩ := a h
  refine ⟨[x], h1, ?_, o1⟩
  unfold sRaise
  rw [e1, toSOk]
theorem EvSX.first {u v : FnS} {δ δ' : De} {c : Nat} (a : EvSX u δ c δ') : EvSX (sSeq u v) δ c δ' := fun h => by
  obtain ⟨ds, h1, e1, o1⟩ := a h
  exact ⟨ds, h1, seq_x e1, o1⟩
theorem EvSX.seq {u v : FnS} {δ δ1 δ' : De} {c : Nat} (a : EvN u δ δ1) (b : EvSX v δ1 c δ') : EvSX (sSeq u v) δ c δ' := fun h => by
  obtain ⟨h1, e1, o1⟩ := a h
  obtain ⟨ds, h2, e2, o2⟩ := b h1
  exact ⟨ds, h2, (seq_nx e1).trans e2, o1.trans o2⟩
theorem EvSX.ift {t : FnT} {u v : FnS} {δ δ' : De} {c : Nat} (a : Ev t δ true) (b : EvSX u δ c δ') : EvSX (sIf t u v) δ c δ' := fun h => by
  obtain ⟨h1, e1, o1⟩ := a h
  obtain ⟨ds, h2, e2, o2⟩ := b h1
  exact ⟨ds, h2, (sIf_t e1).trans e2, o1.trans o2⟩
theorem EvSX.ife {t : FnT} {u v : FnS} {δ δ' : De} {c : Nat} (a : Ev t δ false) (b : EvSX v δ c δ') : EvSX (sIf t u v) δ c δ' := fun h => by
  obtain ⟨h1, e1, o1⟩ := a h
  obtain ⟨ds, h2, e2, o2⟩ := b h1
  exact ⟨ds, h2, (sIf_f e1).trans e2, o1.trans o2⟩
theorem EvN.ift {t : FnT} {u v : FnS} {δ δ' : De} (a : Ev t δ true) (b : EvN u δ δ') : EvN (sIf t u v) δ δ' := fun h => by
  obtain ⟨h1, e1, o1⟩ := a h
  obtain ⟨h2, e2, o2⟩ := b h1
  exact ⟨h2, (sIf_t e1).trans e2, o1.trans o2⟩
theorem EvN.ife {t : FnT} {u v : FnS} {δ δ' : De} (a : Ev t δ false) (b : EvN v δ δ') : EvN (sIf t u v) δ δ' := fun h => by
  obtain ⟨h1, e1, o1⟩ := a h
  obtain ⟨h2, e2, o2⟩ := b h1
  exact ⟨h2, (sIf_f e1).trans e2, o1.trans o2⟩
theorem EvFX.run {n : Nat} {u : FnS} {xs : List D} {c : Nat} {δ δ' : De} (a : EvSX u δ c δ') (e : startD n xs = δ := by rfl) : EvFX (runD n u) xs c := fun h => by
  obtain ⟨ds, h1, e1, o1⟩ := a h
  refine ⟨ds, h1, ?_, o1⟩
  unfold runD
  rw [e]
  exact end_x e1
theorem EvN.tryn {u : FnS} {l : List ((Nat → Bool) × FnS)} {δ δ' : De} (a : EvN u δ δ') : EvN (sTry u l) δ δ' := fun h => by
  obtain ⟨h1, e1, o1⟩ := a h
  exact ⟨h1, try_nx e1, o1⟩
theorem EvN.tryx {u : FnS} {l : List ((Nat → Bool) × FnS)} {δ δ1 δ' : De} {c : Nat} (a : EvSX u δ c δ1) (b : ∀ ds h, ∃ h', handle c ds δ1 h l = .nx δ' h' ∧ Old h h') : EvN (sTry u l) δ δ' := fun h => by
  obtain ⟨ds, h1, e1, o1⟩ := a h
  obtain ⟨h2, e2, o2⟩ := b ds h1
  exact ⟨h2, (try_x e1).trans e2, o1.trans o2⟩
theorem EvN.done {u : FnS} {δ δ' : De} (e : ∀ h, u δ h = .nx δ' h) : EvN u δ δ' := fun h => ⟨h, e h, Old.refl h⟩
theorem par_ok {ix : List Nat} {fa : FnA} {δ : De} {h h1 : Hh} {xs : List D} (a : fa δ h = .ok xs h1) (hl : xs.length = ix.length) : sPar ix fa δ h = .nx (setAll ix xs δ) h1 := by
  unfold sPar
  rw [a]
  show kPar ix δ xs h1 = _
  unfold kPar
  rw [if_pos hl]
theorem Ev.lcIF {f : FnI} {g : FnG} {t : FnT} {e : FnE} {own : List Nat} {α : Type} {a F : α → D} (p : α → Bool) {δ : De} {l : List α} (x : Ev f δ (l.map a)) (q : ∀ x ∈ l, ∃ δ1, g (a x) (wipeD δ own) = some δ1 ∧ Ev t δ1 (p x) ∧ (p x = true → Ev e δ1 (F x))) (hl : l.length ≤ 1000) : Ev (eLc false f g t e own) δ (.lst ((l.filter p).map F)) := fun h => by
  obtain ⟨h1, e1, o1⟩ := x h
  obtain ⟨h2, e2, o2⟩ := Ev.lcsF a F p l q h1
  exact ⟨h2, eLc_ok e1 e2 (by rw [List.length_map]; exact Nat.le_trans (List.length_filter_le _ _) hl), o1.trans o2⟩
/-- loops that may end ahead -/
theorem Ev.loopFind {g : FnG} {body : FnS} {α : Type} (a : α → D) (P : De → Prop) (r : D) (bad : α → Bool) : ∀ (l : List α) (δ : De), P δ → (∀ x ∈ l, ∀ δ, P δ → ∃ δ1, g (a x) δ = some δ1 ∧ (bad x = false → ∃ δ2, EvN body δ1 δ2 ∧ P δ2) ∧ (bad x = true → EvT body δ1 r)) →
    (l.any bad = false → ∃ δ', EvN (fun δ h => loop3 g body (l.map a) δ h) δ δ' ∧ P δ') ∧ (l.any bad = true → EvT (fun δ h => loop3 g body (l.map a) δ h) δ r)
  | [], δ, p, _ => ⟨fun _ => ⟨δ, fun h => ⟨h, rfl, Old.refl h⟩, p⟩, fun e => by cases e⟩
  | x :: l, δ, p, st => by
    obtain ⟨δ1, e1, e2, e3⟩ := st x (by simp) δ p
    cases q : bad x with
    | true =>
      refine ⟨fun e => by simp [q] at e, fun _ h => ?_⟩
      obtain ⟨h1, f1, o1⟩ := e3 q h
      refine ⟨h1, ?_, o1⟩
      show loop3 g body (a x :: l.map a) δ h = _
      rw [loCons, e1, loAS, f1, loRt]
    | false =>
      obtain ⟨δ2, f2, p2⟩ := e2 q
      obtain ⟨i1, i2⟩ := Ev.loopFind a P r bad l δ2 p2 fun y hy => st y (by simp [hy])
      have step : ∀ h h1, body δ1 h = .nx δ2 h1 → loop3 g body (a x :: l.map a) δ h = loop3 g body (l.map a) δ2 h1 := fun h h1 e => by rw [loCons, e1, loAS, e, loNx]
      constructor
      · intro e
        obtain ⟨δ', f3, p3⟩ := i1 (by simpa [q] using e)
        refine ⟨δ', fun h => ?_, p3⟩
        obtain ⟨h1, g1, o1⟩ := f2 h
        obtain ⟨h2, g2, o2⟩ := f3 h1
        exact ⟨h2, (step h h1 g1).trans g2, o1.trans o2⟩
      · intro e h
        obtain ⟨h1, g1, o1⟩ := f2 h
        obtain ⟨h2, g2, o2⟩ := i2 (by simpa [q] using e) h1
        exact ⟨h2, (step h h1 g1).trans g2, o1.trans o2⟩
theorem EvT.forW {f : FnW} {g : FnG} {body : FnS} {δ : De} {d : D} {ds : List D} (r : Ev f δ (.im ds)) (b : EvT (fun δ h => loop3 g body ds δ h) δ d) : EvT (L3.sForW f g body) δ d := fun h => by
  obtain ⟨h1, e1, o1⟩ := r h
  obtain ⟨h2, e2, o2⟩ := b h1
  refine ⟨h2, ?_, o1.trans o2⟩
  unfold L3.sForW
  rw [e1]
  exact e2
theorem EvT.forI {f : FnI} {g : FnG} {body : FnS} {δ : De} {d : D} {ds : List D} (r : Ev f δ ds) (b : EvT (fun δ h => loop3 g body ds δ h) δ d) : EvT (L3.sFor f g body) δ d := fun h => by
  obtain ⟨h1, e1, o1⟩ := r h
  obtain ⟨h2, e2, o2⟩ := b h1
  exact ⟨h2, (sFor_ok e1).trans e2, o1.trans o2⟩
theorem EvN.loopP {g : FnG} {body : FnS} {α : Type} (a : α → D) (P : List α → De → Prop) : ∀ (l : List α) (pre : List α) (δ : De), P pre δ → (∀ x pre' post δ, pre ++ l = pre' ++ x :: post → P pre' δ → ∃ δ1 δ2, g (a x) δ = some δ1 ∧ EvN body δ1 δ2 ∧ P (pre' ++ [x]) δ2) → ∃ δ', EvN (fun δ h => loop3 g body (l.map a) δ h) δ δ' ∧ P (pre ++ l) δ'
  | [], pre, δ, p, _ => ⟨δ, fun h => ⟨h, rfl, Old.refl h⟩, by simpa using p⟩
  | x :: l, pre, δ, p, st => by
    obtain ⟨δ1, δ2, e1, e2, p2⟩ := st x pre l δ rfl p
    obtain ⟨δ', e3, p3⟩ := EvN.loopP a P l (pre ++ [x]) δ2 p2 fun y pre' post δ e => st y pre' post δ (by rw [← e]; simp)
    refine ⟨δ', fun h => ?_, by simpa using p3⟩
    obtain ⟨h1, f1, o1⟩ := e2 h
    obtain ⟨h2, f2, o2⟩ := e3 h1
    refine ⟨h2, ?_, o1.trans o2⟩
    show loop3 g body (a x :: l.map a) δ h = _
    rw [loCons, e1, loAS, f1, loNx]
    exact f2
theorem EvN.par {ix : List Nat} {fa : FnA} {δ : De} {xs : List D} (a : Ev fa δ xs) (hl : xs.length = ix.length := by rfl) : EvN (sPar ix fa) δ (setAll ix xs δ) := fun h => by
  obtain ⟨h1, e1, o1⟩ := a h
  exact ⟨h1, par_ok e1 hl, o1⟩
/-! the state: the source (variant A), and objects of the law's own -/
def St (h : Hh) (N : Nat) (os : List (Nat × O)) : Prop := ∃ b, Good h b N ∧ ∀ p ∈ os, h[p.1]? = some p.2 ∧ 2 < p.1 ∧ p.1 ≠ b
theorem St.lt {h : Hh} {N : Nat} {os : List (Nat × O)} (s : St h N os) : 2 < h.length := by
  obtain ⟨b, ⟨_, _, _, g, _⟩, _⟩ := s
  exact g.lt2
theorem St.get {h : Hh} {N n : Nat} {o : O} {os : List (Nat × O)} (s : St h N os) (m : (n, o) ∈ os) : h[n]? = some o := by
  obtain ⟨b, _, q⟩ := s
  exact (q _ m).1
theorem St.sub {h : Hh} {N M : Nat} {os os' : List (Nat × O)} (s : St h N os) (hm : M ≤ N) (k : ∀ p ∈ os', p ∈ os) : St h M os' := by
  obtain ⟨b, g, q⟩ := s
  exact ⟨b, g.weak hm, fun p m => q p (k p m)⟩
theorem St.weak {h : Hh} {N M : Nat} {os : List (Nat × O)} (s : St h N os) (hm : M ≤ N) : St h M os := s.sub hm fun _ m => m
theorem St.app {h : Hh} {N : Nat} {os : List (Nat × O)} (s : St h N os) (t : Hh) : St (h ++ t) N os := by
  obtain ⟨b, g, q⟩ := s
  refine ⟨b, g.app t, fun p m => ?_⟩
  obtain ⟨a, c⟩ := q p m
  have l := (List.getElem?_eq_some_iff.mp a).1
  exact ⟨by rw [List.getElem?_append_left l]; exact a, c⟩
theorem St.new {h : Hh} {N : Nat} {os : List (Nat × O)} (s : St h N os) (o : O) : St (h ++ [o]) N ((h.length, o) :: os) := by
  have l2 := s.lt
  obtain ⟨b, g, q⟩ := s.app [o]
  obtain ⟨b', g', q'⟩ := s
  refine ⟨b', g'.app [o], fun p m => ?_⟩
  rcases List.mem_cons.mp m with rfl | m
  · obtain ⟨_, _, _, sr, _⟩ := g'
    have := sr.lt
    exact ⟨by simp, l2, by dsimp only; omega⟩
  · obtain ⟨a, c⟩ := q' p m
    have l := (List.getElem?_eq_some_iff.mp a).1
    exact ⟨by rw [List.getElem?_append_left l]; exact a, c⟩
theorem St.put {h : Hh} {N n : Nat} {o : O} {os : List (Nat × O)} (s : St h N ((n, o) :: os)) (k : ∀ p ∈ os, p.1 ≠ n) (o' : O) : St (h.set n o') N ((n, o') :: os) := by
  obtain ⟨b, g, q⟩ := s
  obtain ⟨a, c, d⟩ := q (n, o) (by simp)
  dsimp only at a c d
  have l := (List.getElem?_eq_some_iff.mp a).1
  refine ⟨b, ?_, fun p m => ?_⟩
  · obtain ⟨cells, left, t, z, h1, h2⟩ := g
    exact ⟨cells, left, t, ⟨by rw [List.getElem?_set_ne (by omega)]; exact z.c, by rw [List.getElem?_set_ne (by omega)]; exact z.d, by rw [List.getElem?_set_ne d]; exact z.l, z.b0, z.b2, z.pos, z.t0, z.t1⟩, h1, h2⟩
  · rcases List.mem_cons.mp m with rfl | m
    · exact ⟨by rw [List.getElem?_set_self l], c, d⟩
    · obtain ⟨a', c'⟩ := q p (List.mem_cons_of_mem _ m)
      exact ⟨by rw [List.getElem?_set_ne (Ne.symm (k p m))]; exact a', c'⟩
theorem St.fr {h h' : Hh} {b b' M : Nat} {os : List (Nat × O)} (q : ∀ p ∈ os, h[p.1]? = some p.2 ∧ 2 < p.1 ∧ p.1 ≠ b) (g : Good h' b' M) (f : Fr h b h' b') : St h' M os := by
  refine ⟨b', g, fun p m => ?_⟩
  obtain ⟨a, c, d⟩ := q p m
  have l := (List.getElem?_eq_some_iff.mp a).1
  refine ⟨by rw [f.old p.1 l (by omega) d]; exact a, c, ?_⟩
  rcases f.bb with e | e
  · rw [e]; exact d
  · omega
theorem St.old {h h' : Hh} {N : Nat} {os : List (Nat × O)} (s : St h N os) (o : Old h h') : St h' N os := by
  obtain ⟨b, ⟨cells, left, t, z, h1, h2⟩, q⟩ := s
  have l2 := z.lt2
  have lb := z.lt
  refine ⟨b, ⟨cells, left, t, ⟨by rw [o.old _ (by omega)]; exact z.c, by rw [o.old _ (by omega)]; exact z.d, by rw [o.old _ (by omega)]; exact z.l, z.b0, z.b2, z.pos, z.t0, z.t1⟩, h1, h2⟩, fun p m => ?_⟩
  obtain ⟨a, c⟩ := q p m
  exact ⟨by rw [o.old _ (List.getElem?_eq_some_iff.mp a).1]; exact a, c⟩
theorem nxA {i : Nat} {δ : De} {h : Hh} {N : Nat} {os : List (Nat × O)} (s : St h (N + 1) os) (k : Nat) (k0 : 0 < k) (k1 : k < 100000) (e : δ[i]? = some (some (.ref 2))) : ∃ (n : Nat) (h' : Hh), n < k ∧ eCall 2 f__law_next (aCons (eVar i) (aCons (eC (.int (k : Int))) aNil)) [] δ h = .ok (.int (n : Int)) h' ∧ St h' N os := by
  obtain ⟨b, g, q⟩ := s
  obtain ⟨v, h', b', e1, v0, v1, g', f⟩ := next_ok g (k : Int) (by omega) (by omega)
  obtain ⟨n, rfl⟩ := natI v v0
  exact ⟨n, h', by omega, (eCall_ok (xs := [.ref 2, .int (k : Int)]) (aC_ok (eVar_ok e) (aC_ok rfl aN_ok)) rfl).trans e1, .fr q g' f⟩
inductive All2 {α β : Type} (Q : α → β → Prop) : List α → List β → Prop where
  | nil : All2 Q [] []
  | cons {x : α} {y : β} {l : List α} {r : List β} : Q x y → All2 Q l r → All2 Q (x :: l) (y :: r)
theorem lc_drawA {g : FnG} {e : FnE} {δ : De} {α : Type} (a : α → D) (Q : α → D → Prop) {os : List (Nat × O)} (w : Nat) : ∀ (l : List α) (h : Hh) (N : Nat), (∀ x ∈ l, ∀ h N, St h (N + w) os → ∃ δ1 d h', g (a x) δ = some δ1 ∧ e δ1 h = .ok d h' ∧ Q x d ∧ St h' N os) → St h (N + l.length * w) os →
    ∃ (ds : List D) (h' : Hh), lcs g tYes3 e δ (l.map a) h = .ok ds h' ∧ All2 Q l ds ∧ St h' N os
  | [], h, N, _, s => ⟨[], h, rfl, .nil, by simpa using s⟩
  | x :: l, h, N, st, s => by
    have s' : St h ((N + l.length * w) + w) os := by
      have : N + (x :: l).length * w = (N + l.length * w) + w := by rw [List.length_cons, Nat.succ_mul]; omega
      rw [← this]; exact s
    obtain ⟨δ1, d, h1, e0, e1, q1, s1⟩ := st x (by simp) h _ s'
    obtain ⟨ds, h2, e2, q2, s2⟩ := lc_drawA a Q w l h1 N (fun y hy => st y (by simp [hy])) s1
    exact ⟨d :: ds, h2, lc_y2 e0 e1 e2, .cons q1 q2, s2⟩
end Lw
set_option autoImplicit false
set_option maxHeartbeats 8000000
set_option autoImplicit true
namespace Lw
open PySem PySem.Spec L2 L3
/-! the coverage of the cut rectangle, by trying all -/
abbrev Pt := Int × Int
def edB (p q : Pt) (u v : Int) : Int × Int × Int := (2 * (p.2 - q.2), 2 * (q.1 - p.1), 0)
/-- the cross of p, q seen from (u, v), with the slopes -/
def posB (l x y : Int) : Bool := match l with
  | .negSucc _ => false
  | .ofNat (_ + 1) => true
  | .ofNat 0 => match x with
    | .negSucc _ => false
    | .ofNat (_ + 1) => true
    | .ofNat 0 => match y with
      | .negSucc _ => false
      | .ofNat (_ + 1) => true
      | .ofNat 0 => false
/-- left of the way p, q -/
def sd (p q : Pt) (u v : Int) : Bool := posB (u * (p.2 - q.2) + v * (q.1 - p.1) + (p.1 * q.2 - p.2 * q.1)) (p.2 - q.2) (q.1 - p.1)
def cv (p q r : Pt) (u v : Int) : Bool := sd p q u v && (sd q r u v && sd r p u v)
def b2n (b : Bool) : Nat := if b then 1 else 0
def cn (t : Bool) (a b c d : Pt) (u v : Int) : Nat := if t then b2n (cv a b c u v) + b2n (cv a c d u v) else b2n (cv a b d u v) + b2n (cv b c d u v)
def dt (p q r : Pt) : Int := p.1 * (q.2 - r.2) + p.2 * (r.1 - q.1) + (q.1 * r.2 - q.2 * r.1)
def dtB (p q r : Pt) : Bool := match dt p q r with
  | .ofNat (_ + 1) => true
  | _ => false
/-- the node of a column, a row -/
def nodeC (s w hh : Nat) (x1 y1 x2 y2 : Int) (c r : Nat) : Pt :=
  if s = 3 ∧ (0 < r ∧ r < hh) ∧ (0 < c ∧ c < w) then (if c = 1 then (2 * s * c + x1, 2 * s * r + y1) else (2 * s * c + x2, 2 * s * r + y2)) else (2 * s * c, 2 * s * r)
def insB (s w hh : Nat) (i j : Int) : Bool := decide (0 ≤ i) && decide (i < w * s) && (decide (0 ≤ j) && decide (j < hh * s))
def cellsC (w hh : Nat) : List (Nat × Nat) := (List.range hh).flatMap fun r => (List.range w).map fun c => (c, r)
def cnC (f : Nat → Nat → Pt) (t : Bool) (p : Nat × Nat) (u v : Int) : Nat := cn t (f p.1 p.2) (f (p.1 + 1) p.2) (f (p.1 + 1) (p.2 + 1)) (f p.1 (p.2 + 1)) u v
def sumN : List Nat → Nat
  | [] => 0
  | n :: l => n + sumN l
def rgI (n : Nat) : List Int := (List.range (n + 2)).map fun k : Nat => (k : Int) - 1
def checkF (f : Nat → Nat → Pt) (s w hh : Nat) : Bool :=
  ((cellsC w hh).all fun p => dtB (f p.1 p.2) (f (p.1 + 1) p.2) (f (p.1 + 1) (p.2 + 1)) && dtB (f p.1 p.2) (f (p.1 + 1) (p.2 + 1)) (f p.1 (p.2 + 1)) && (dtB (f p.1 p.2) (f (p.1 + 1) p.2) (f p.1 (p.2 + 1)) && dtB (f (p.1 + 1) p.2) (f (p.1 + 1) (p.2 + 1)) (f p.1 (p.2 + 1)))) &&
  (rgI (hh * s)).all fun j => (rgI (w * s)).all fun i =>
    ((cellsC w hh).all fun p => Nat.beq (cnC f true p (2 * i + 1) (2 * j + 1)) (cnC f false p (2 * i + 1) (2 * j + 1))) && Nat.beq (sumN ((cellsC w hh).map fun p => cnC f true p (2 * i + 1) (2 * j + 1))) (b2n (insB s w hh i j))
def dl : List Int := [-1, 0, 1]
/-! corners over nodes -/
abbrev Pln := Int × Int × Int
def wo (P : Pln) (p : Pt) : Int := P.1 + P.2.1 * p.1 + P.2.2 * p.2
def c4 (A B : Pln) (p : Pt) : Cn := ⟨4 * p.1, 4 * p.2, 2 * wo A p, 8, wo B p, 4⟩
def sv (q r : Pt) (u v : Int) : Int := u * (q.2 - r.2) + v * (r.1 - q.1) + (q.1 * r.2 - q.2 * r.1)
theorem posB_is (l x y : Int) : posB l x y = decide (pos3 l x y) := by
  have ps : ∀ n : Nat, (0 : Int) < Int.ofNat (n + 1) := fun n => by show (0 : Int) < ((n + 1 : Nat) : Int); omega
  match l with
  | .negSucc n => exact (decide_eq_false (by unfold pos3; omega)).symm
  | .ofNat (n + 1) => exact (decide_eq_true (.inl (ps n))).symm
  | .ofNat 0 => match x with
    | .negSucc n => exact (decide_eq_false (by show ¬ pos3 0 _ _; unfold pos3; omega)).symm
    | .ofNat (n + 1) => exact (decide_eq_true (.inr ⟨rfl, .inl (ps n)⟩)).symm
    | .ofNat 0 => match y with
      | .negSucc n => exact (decide_eq_false (by show ¬ pos3 0 0 _; unfold pos3; omega)).symm
      | .ofNat (n + 1) => exact (decide_eq_true (.inr ⟨rfl, .inr ⟨rfl, ps n⟩⟩)).symm
      | .ofNat 0 => exact (decide_eq_false (by show ¬ pos3 0 0 0; unfold pos3; omega)).symm
theorem dtB_pos {p q r : Pt} (e : dtB p q r = true) : 0 < dt p q r := by
  unfold dtB at e
  match h : dt p q r with
  | .ofNat (n + 1) => show (0 : Int) < ((n + 1 : Nat) : Int); omega
  | .ofNat 0 => rw [h] at e; cases e
  | .negSucc n => rw [h] at e; cases e
theorem exx4 (A B : Pln) (q r : Pt) : exx (c4 A B q) (c4 A B r) = 32 * (q.2 - r.2) := by unfold exx c4; dsimp only; omega
theorem exy4 (A B : Pln) (q r : Pt) : exy (c4 A B q) (c4 A B r) = 32 * (r.1 - q.1) := by unfold exy c4; dsimp only; omega
theorem exw4 (A B : Pln) (q r : Pt) : exw (c4 A B q) (c4 A B r) = 16 * (q.1 * r.2 - q.2 * r.1) := by unfold exw c4; dsimp only; grind
theorem ev4 (A B : Pln) (q r : Pt) (i j : Int) : ev (c4 A B q) (c4 A B r) i j = 32 * sv q r (2 * i + 1) (2 * j + 1) := by
  unfold ev; rw [exx4, exy4, exw4]; unfold sv; grind
theorem det4 (A B : Pln) (p q r : Pt) : det (c4 A B p) (c4 A B q) (c4 A B r) = 128 * dt p q r := by
  rw [det_is, exx4, exy4, exw4]; unfold c4 dt; dsimp only; grind
theorem sg_pos {n : Int} (h : 0 < n) : sg n = 1 := by unfold sg; rw [if_neg (by omega)]
theorem lt4 (A B : Pln) (q r : Pt) (i j : Int) : lt 1 (c4 A B q) (c4 A B r) i j ↔ sd q r (2 * i + 1) (2 * j + 1) = true := by
  unfold lt sd
  rw [posB_is, decide_eq_true_iff, Int.one_mul, Int.one_mul, Int.one_mul, ev4, exx4, exy4]
  exact pos3_k (by decide)
theorem cov4 {A B : Pln} {p q r : Pt} (hd : 0 < dt p q r) (i j : Int) : cov (c4 A B p) (c4 A B q) (c4 A B r) i j = cv p q r (2 * i + 1) (2 * j + 1) := by
  rw [Bool.eq_iff_iff]
  unfold cov cv
  rw [decide_eq_true_iff, det4, sg_pos (by omega), lt4, lt4, lt4, Bool.and_eq_true, Bool.and_eq_true]
  constructor
  · exact fun ⟨_, a, b, c⟩ => ⟨c, a, b⟩
  · exact fun ⟨c, a, b⟩ => ⟨by omega, a, b, c⟩
def dueV (A B : Pln) (i j : Int) : D := if 0 ≤ wo A (2 * i + 1, 2 * j + 1) / 4 ∧ wo A (2 * i + 1, 2 * j + 1) / 4 < 8 then .tup [.int (bnd7 (wo B (2 * i + 1, 2 * j + 1) / 4)), .int (wo A (2 * i + 1, 2 * j + 1) / 4)] else .non
theorem bary (P : Pln) (p q r : Pt) (u v : Int) : sv q r u v * wo P p + sv r p u v * wo P q + sv p q u v * wo P r = dt p q r * wo P (u, v) := by
  obtain ⟨a, b, c⟩ := P
  obtain ⟨x, y⟩ := p
  obtain ⟨z, w⟩ := q
  obtain ⟨s, t⟩ := r
  unfold sv dt wo
  dsimp only
  grind
theorem bary1 (p q r : Pt) (u v : Int) : sv q r u v + sv r p u v + sv p q u v = dt p q r := by
  have e := bary (1, 0, 0) p q r u v
  unfold wo at e
  dsimp only at e
  simpa using e
theorem frag4 {A B : Pln} {p q r : Pt} (hd : 0 < dt p q r) {i j : Int} (c : cv p q r (2 * i + 1) (2 * j + 1) = true) : frag (c4 A B p) (c4 A B q) (c4 A B r) i j = dueV A B i j := by
  have hd2 : 0 < det (c4 A B p) (c4 A B q) (c4 A B r) := by rw [det4]; omega
  rw [frag_is, cov4 hd, if_pos c, sg_pos hd2, det4]
  have ea : absI' (128 * dt p q r) = 128 * dt p q r := by unfold absI'; rw [if_neg (by omega)]
  have dz : dot 1 (c4 A B p) (c4 A B q) (c4 A B r) i j (c4 A B p).Z (c4 A B q).Z (c4 A B r).Z = 64 * dt p q r * wo A (2 * i + 1, 2 * j + 1) := by
    unfold dot
    rw [ev4, ev4, ev4]
    show 1 * (32 * sv q r _ _ * (2 * wo A p) + 32 * sv r p _ _ * (2 * wo A q) + 32 * sv p q _ _ * (2 * wo A r)) = _
    have := bary A p q r (2 * i + 1) (2 * j + 1)
    grind
  have dc : dot 1 (c4 A B p) (c4 A B q) (c4 A B r) i j (c4 A B p).C (c4 A B q).C (c4 A B r).C = 32 * dt p q r * wo B (2 * i + 1, 2 * j + 1) := by
    unfold dot
    rw [ev4, ev4, ev4]
    show 1 * (32 * sv q r _ _ * wo B p + 32 * sv r p _ _ * wo B q + 32 * sv p q _ _ * wo B r) = _
    have := bary B p q r (2 * i + 1) (2 * j + 1)
    grind
  have ds : dot 1 (c4 A B p) (c4 A B q) (c4 A B r) i j (c4 A B p).S (c4 A B q).S (c4 A B r).S = 32 * dt p q r * 4 := by
    unfold dot
    rw [ev4, ev4, ev4]
    show 1 * (32 * sv q r _ _ * 4 + 32 * sv r p _ _ * 4 + 32 * sv p q _ _ * 4) = _
    have := bary1 p q r (2 * i + 1) (2 * j + 1)
    grind
  rw [ea, dz, dc, ds, show 2 * (128 * dt p q r) = 64 * dt p q r * 4 by omega]
  unfold fragW dueV
  rw [Int.mul_ediv_mul_of_pos _ _ (by omega : 0 < 64 * dt p q r), Int.mul_ediv_mul_of_pos _ _ (by omega : 0 < 32 * dt p q r)]
/-- a triangle of the law's: nodes, weights, turned or not -/
theorem sw13 (p q r : Cn) (i j : Int) : cov p r q i j = cov p q r i j ∧ frag p r q i j = frag p q r i j := by
  constructor
  · exact (cov_rot q p r i j).trans (cov_sw p q r i j)
  · exact (frag_rot q p r i j).trans (frag_sw p q r i j)
theorem det_sc3 (a b c : Int) (p q r : Cn) : det (sc a p) (sc b q) (sc c r) = a * (b * (c * det p q r)) := by
  rw [det_sc, ← det_rot, det_sc, ← det_rot, det_sc, ← det_rot]
theorem det13 (p q r : Cn) : det p r q = - det p q r := (det_rot q p r).trans (det_sw p q r)
end Lw
set_option autoImplicit false
set_option maxHeartbeats 8000000
set_option autoImplicit true
namespace Lw
open PySem PySem.Spec L2 L3
/-! small functions -/
theorem nxF {h : Hh} {N : Nat} {os : List (Nat × O)} (s : St h (N + 1) os) (k : Int) (k0 : 0 < k) (k1 : k < 100000) : ∃ (v : Int) (h' : Hh), (0 ≤ v ∧ v < k) ∧ f__law_next [.ref 2, .int k] h = .ok (.int v) h' ∧ St h' N os := by
  obtain ⟨b, g, q⟩ := s
  obtain ⟨v, h', b', e1, v0, v1, g', f⟩ := next_ok g k k0 (by omega)
  exact ⟨v, h', ⟨v0, v1⟩, e1, .fr q g' f⟩
def ptD (p : Pt) : D := .tup [.int p.1, .int p.2]
def plD (A : Pln) : D := .tup [.int A.1, .int A.2.1, .int A.2.2]
def plsD (A B : Pln) : D := .tup [plD A, plD B]
structure Lim (A : Pln) : Prop where
  a : -8 ≤ A.1 ∧ A.1 ≤ 31
  b : -3 ≤ A.2.1 ∧ A.2.1 ≤ 3
  c : -3 ≤ A.2.2 ∧ A.2.2 ≤ 3
structure Nod (p : Pt) : Prop where
  x : -1 ≤ p.1 ∧ p.1 ≤ 19
  y : -1 ≤ p.2 ∧ p.2 ≤ 13
theorem wo_bd {A : Pln} {p : Pt} (l : Lim A) (n : Nod p) : -150 ≤ wo A p ∧ wo A p ≤ 150 := by
  have a := mbd (A := 3) (B := 19) l.b (by have := n.x; omega : -19 ≤ p.1 ∧ p.1 ≤ 19)
  have b := mbd (A := 3) (B := 13) l.c (by have := n.y; omega : -13 ≤ p.2 ∧ p.2 ≤ 13)
  have := l.a
  unfold wo
  omega
theorem worth_ok {A : Pln} (l : Lim A) (p : Pt) (h : Hh) : f__law_worth [plD A, ptD p] h = .ok (.int (wo A p)) h := by
  have h1 := l.b
  have h2 := l.c
  simp (disch := omega) only [f__law_worth, u__law_worth_1, u__law_worth, plD, ptD, wo, runD, startD, endRt, endNx, endExc, seqE, seqNx, seqRt, seqExc, sNil, sPass, sIf, sRet, sRetN, sExpr, sSet, sAsg, sPar, kPar, setAll, sIxS, kSet, L3.sFld, eVar, eC, eBin, eTest, eChain, eUn, tAnd3, tOr3, tNot3, eAnd, eOr, eNot, eIf, aNil, aCons, eTup, eLst, eLstM, eCall, kCall, eMeth, kMeth, clsObj, eB, one, eFld, fldD, fieldAt, L3.putAt, eProp, kProp, noX, eMake, eLc, kLst, iSeq, L3.iZip, kZip, zipL, immS, iRg1, lcNil, lcCons, lcAS, lcBT, lcBF, lcCO, loNil, loCons, loAS, loNx, loCt, loBk, loRt, L3.sFor, sForW, eLcW, wSeq, wZip, kZipW, loopW, lcW, optS, wipeD, gSet, gTupD, gsNil, gsCons, tYes3, eIsi, isiD, kdOf, isK, allB, anyB, sumB, L3.listOf, blsOf, intsOf, asL, bindOk, bindExc, bindStk, toSOk, toSExc, lineOk, addI, subI, negI, mulL, mulR, divI, modI, ltI, leI, gtI, geI, eqI, neI, intB1, intB2, lenTup, lenLst, lenScr, tup0, tup1, tup2, tup3, tup4, tup5, lst0, lst1, lst2, lst3, List.getElem?_cons_zero, List.getElem?_cons_succ, List.getElem?_nil, List.set_cons_zero, List.set_cons_succ, List.length_cons, List.length_nil, List.map_cons, List.map_nil, List.replicate_succ, List.replicate_zero, List.cons_append, List.nil_append, List.append_nil, if_true, if_false, ite_true, ite_false, Bool.false_eq_true, Bool.not_true, Bool.not_false, Bool.true_and, Bool.and_true, Bool.false_and, Bool.and_false, Bool.or_true, Bool.true_or, Bool.false_or, Bool.or_false, and_self, and_true, true_and, Nat.sub_zero, Nat.sub_self, Nat.reduceSub, Nat.reduceAdd, Nat.reduceLeDiff, Nat.reduceEqDiff, decide_true, decide_false, Nat.zero_le]
theorem plane_ok {h : Hh} {N : Nat} {os : List (Nat × O)} (s : St h (N + 6) os) : ∃ (A B : Pln) (h' : Hh), f__law_plane [.ref 2] h = .ok (plsD A B) h' ∧ Lim A ∧ Lim B ∧ St h' N os := by
  obtain ⟨v1, h1, k1, e1, s1⟩ := nxF (N := N + 5) s 40 (by omega) (by omega)
  obtain ⟨v2, h2, k2, e2, s2⟩ := nxF (N := N + 4) s1 7 (by omega) (by omega)
  obtain ⟨v3, h3, k3, e3, s3⟩ := nxF (N := N + 3) s2 7 (by omega) (by omega)
  obtain ⟨v4, h4, k4, e4, s4⟩ := nxF (N := N + 2) s3 40 (by omega) (by omega)
  obtain ⟨v5, h5, k5, e5, s5⟩ := nxF (N := N + 1) s4 7 (by omega) (by omega)
  obtain ⟨v6, h6, k6, e6, s6⟩ := nxF (N := N) s5 7 (by omega) (by omega)
  refine ⟨(v1 - 8, v2 - 3, v3 - 3), (v4 - 8, v5 - 3, v6 - 3), h6, ?_, ⟨by dsimp only; omega, by dsimp only; omega, by dsimp only; omega⟩, ⟨by dsimp only; omega, by dsimp only; omega, by dsimp only; omega⟩, s6⟩
  simp (disch := omega) only [f__law_plane, u__law_plane_1, u__law_plane_2, u__law_plane_3, u__law_plane, e1, e2, e3, e4, e5, e6, plsD, plD, runD, startD, endRt, endNx, endExc, seqE, seqNx, seqRt, seqExc, sNil, sPass, sIf, sRet, sRetN, sExpr, sSet, sAsg, sPar, kPar, setAll, sIxS, kSet, L3.sFld, eVar, eC, eBin, eTest, eChain, eUn, tAnd3, tOr3, tNot3, eAnd, eOr, eNot, eIf, aNil, aCons, eTup, eLst, eLstM, eCall, kCall, eMeth, kMeth, clsObj, eB, one, eFld, fldD, fieldAt, L3.putAt, eProp, kProp, noX, eMake, eLc, kLst, iSeq, L3.iZip, kZip, zipL, immS, iRg1, lcNil, lcCons, lcAS, lcBT, lcBF, lcCO, loNil, loCons, loAS, loNx, loCt, loBk, loRt, L3.sFor, sForW, eLcW, wSeq, wZip, kZipW, loopW, lcW, optS, wipeD, gSet, gTupD, gsNil, gsCons, tYes3, eIsi, isiD, kdOf, isK, allB, anyB, sumB, L3.listOf, blsOf, intsOf, asL, bindOk, bindExc, bindStk, toSOk, toSExc, lineOk, addI, subI, negI, mulL, mulR, divI, modI, ltI, leI, gtI, geI, eqI, neI, intB1, intB2, lenTup, lenLst, lenScr, tup0, tup1, tup2, tup3, tup4, tup5, lst0, lst1, lst2, lst3, List.getElem?_cons_zero, List.getElem?_cons_succ, List.getElem?_nil, List.set_cons_zero, List.set_cons_succ, List.length_cons, List.length_nil, List.map_cons, List.map_nil, List.replicate_succ, List.replicate_zero, List.cons_append, List.nil_append, List.append_nil, if_true, if_false, ite_true, ite_false, Bool.false_eq_true, Bool.not_true, Bool.not_false, Bool.true_and, Bool.and_true, Bool.false_and, Bool.and_false, Bool.or_true, Bool.true_or, Bool.false_or, Bool.or_false, and_self, and_true, true_and, Nat.sub_zero, Nat.sub_self, Nat.reduceSub, Nat.reduceAdd, Nat.reduceLeDiff, Nat.reduceEqDiff, decide_true, decide_false, Nat.zero_le]
theorem corner10 {A B : Pln} {p : Pt} (la : Lim A) (lb : Lim B) {h : Hh} {N : Nat} {os : List (Nat × O)} (s : St h (N + 1) os) : ∃ (m : Int) (h' : Hh), f__law_corner [.ref 2, ptD p, plsD A B] h = .ok (sc m (c4 A B p)).d h' ∧ (1 ≤ m ∧ m ≤ 3) ∧ St h' N os := by
  obtain ⟨v1, h1, k1, e1, s1⟩ := nxF s 3 (by omega) (by omega)
  refine ⟨1 + v1, h1, ?_, by omega, s1⟩
  have w1 : f__law_worth [plD A, .tup [.int p.1, .int p.2]] h1 = .ok (.int (wo A p)) h1 := worth_ok la p h1
  have w2 : f__law_worth [plD B, .tup [.int p.1, .int p.2]] h1 = .ok (.int (wo B p)) h1 := worth_ok lb p h1
  have d : (sc (1 + v1) (c4 A B p)).d = .tup [.int (4 * (1 + v1) * p.1), .int (4 * (1 + v1) * p.2), .int (2 * (1 + v1) * wo A p), .int (8 * (1 + v1)), .int ((1 + v1) * wo B p), .int (4 * (1 + v1))] := by
    show int6 _ _ _ _ _ _ = _
    unfold int6 c4 sc
    dsimp only
    rw [show (1 + v1) * (4 * p.1) = 4 * (1 + v1) * p.1 by grind, show (1 + v1) * (4 * p.2) = 4 * (1 + v1) * p.2 by grind, show (1 + v1) * (2 * wo A p) = 2 * (1 + v1) * wo A p by grind, show (1 + v1) * 8 = 8 * (1 + v1) by grind, show (1 + v1) * 4 = 4 * (1 + v1) by grind]
  rw [d]
  simp (disch := omega) only [f__law_corner, u__law_corner_1, u__law_corner_2, u__law_corner_3, u__law_corner, e1, ptD, plsD, w1, w2, runD, startD, endRt, endNx, endExc, seqE, seqNx, seqRt, seqExc, sNil, sPass, sIf, sRet, sRetN, sExpr, sSet, sAsg, sPar, kPar, setAll, sIxS, kSet, L3.sFld, eVar, eC, eBin, eTest, eChain, eUn, tAnd3, tOr3, tNot3, eAnd, eOr, eNot, eIf, aNil, aCons, eTup, eLst, eLstM, eCall, kCall, eMeth, kMeth, clsObj, eB, one, eFld, fldD, fieldAt, L3.putAt, eProp, kProp, noX, eMake, eLc, kLst, iSeq, L3.iZip, kZip, zipL, immS, iRg1, lcNil, lcCons, lcAS, lcBT, lcBF, lcCO, loNil, loCons, loAS, loNx, loCt, loBk, loRt, L3.sFor, sForW, eLcW, wSeq, wZip, kZipW, loopW, lcW, optS, wipeD, gSet, gTupD, gsNil, gsCons, tYes3, eIsi, isiD, kdOf, isK, allB, anyB, sumB, L3.listOf, blsOf, intsOf, asL, bindOk, bindExc, bindStk, toSOk, toSExc, lineOk, addI, subI, negI, mulL, mulR, divI, modI, ltI, leI, gtI, geI, eqI, neI, intB1, intB2, lenTup, lenLst, lenScr, tup0, tup1, tup2, tup3, tup4, tup5, lst0, lst1, lst2, lst3, List.getElem?_cons_zero, List.getElem?_cons_succ, List.getElem?_nil, List.set_cons_zero, List.set_cons_succ, List.length_cons, List.length_nil, List.map_cons, List.map_nil, List.replicate_succ, List.replicate_zero, List.cons_append, List.nil_append, List.append_nil, if_true, if_false, ite_true, ite_false, Bool.false_eq_true, Bool.not_true, Bool.not_false, Bool.true_and, Bool.and_true, Bool.false_and, Bool.and_false, Bool.or_true, Bool.true_or, Bool.false_or, Bool.or_false, and_self, and_true, true_and, Nat.sub_zero, Nat.sub_self, Nat.reduceSub, Nat.reduceAdd, Nat.reduceLeDiff, Nat.reduceEqDiff, decide_true, decide_false, Nat.zero_le]
theorem c4_ok {A B : Pln} {p : Pt} (la : Lim A) (lb : Lim B) (n : Nod p) {m : Int} (hm : 1 ≤ m ∧ m ≤ 3) : (sc m (c4 A B p)).Ok := by
  have a := wo_bd la n
  have b := wo_bd lb n
  have x := n.x
  have y := n.y
  have := mbd (A := 3) (B := 76) (a := m) (b := 4 * p.1) (by omega) (by omega)
  have := mbd (A := 3) (B := 76) (a := m) (b := 4 * p.2) (by omega) (by omega)
  have := mbd (A := 3) (B := 300) (a := m) (b := 2 * wo A p) (by omega) (by omega)
  have := mbd (A := 3) (B := 150) (a := m) (b := wo B p) (by omega) (by omega)
  refine ⟨?_, ?_, ?_, ?_, ?_, ?_⟩
  · show -1000 ≤ m * (4 * p.1) ∧ m * (4 * p.1) ≤ 1000; omega
  · show -1000 ≤ m * (4 * p.2) ∧ m * (4 * p.2) ≤ 1000; omega
  · show -1000 ≤ m * (2 * wo A p) ∧ m * (2 * wo A p) ≤ 1000; omega
  · show -1000 ≤ m * 8 ∧ m * 8 ≤ 1000; omega
  · show -1000 ≤ m * wo B p ∧ m * wo B p ≤ 1000; omega
  · show 1 ≤ m * 4 ∧ m * 4 ≤ 1000; omega
theorem due_ok {A B : Pln} (la : Lim A) (lb : Lim B) (i j : Int) (h : Hh) : f__law_due [plsD A B, ptD (i, j)] h = .ok (dueV A B i j) h := by
  have w1 : f__law_worth [plD A, .tup [.int (2 * i + 1), .int (2 * j + 1)]] h = .ok (.int (wo A (2 * i + 1, 2 * j + 1))) h := worth_ok la (2 * i + 1, 2 * j + 1) h
  have w2 : f__law_worth [plD B, .tup [.int (2 * i + 1), .int (2 * j + 1)]] h = .ok (.int (wo B (2 * i + 1, 2 * j + 1))) h := worth_ok lb (2 * i + 1, 2 * j + 1) h
  unfold dueV
  generalize wo A (2 * i + 1, 2 * j + 1) = X at *
  generalize wo B (2 * i + 1, 2 * j + 1) = Y at *
  by_cases h1 : 0 ≤ X / 4
  · by_cases h2 : X / 4 < 8
    · rw [if_pos ⟨h1, h2⟩]
      simp (disch := omega) [f__law_due, u__law_due_1, u__law_due_2, u__law_due_3, u__law_due_4, u__law_due, ptD, plsD, w1, w2, h1, h2, bnd7, max2B, min2B, runD, startD, endRt, endNx, endExc, seqE, seqNx, seqRt, seqExc, sNil, sPass, sIf, sRet, sRetN, sExpr, sSet, sAsg, sPar, kPar, setAll, sIxS, kSet, L3.sFld, eVar, eC, eBin, eTest, eChain, eUn, tAnd3, tOr3, tNot3, eAnd, eOr, eNot, eIf, aNil, aCons, eTup, eLst, eLstM, eCall, kCall, eMeth, kMeth, clsObj, eB, one, eFld, fldD, fieldAt, L3.putAt, eProp, kProp, noX, eMake, eLc, kLst, iSeq, L3.iZip, kZip, zipL, immS, iRg1, lcNil, lcCons, lcAS, lcBT, lcBF, lcCO, loNil, loCons, loAS, loNx, loCt, loBk, loRt, L3.sFor, sForW, eLcW, wSeq, wZip, kZipW, loopW, lcW, optS, wipeD, gSet, gTupD, gsNil, gsCons, tYes3, eIsi, isiD, kdOf, isK, allB, anyB, sumB, L3.listOf, blsOf, intsOf, asL, bindOk, bindExc, bindStk, toSOk, toSExc, lineOk, addI, subI, negI, mulL, mulR, divI, modI, ltI, leI, gtI, geI, eqI, neI, intB1, intB2, lenTup, lenLst, lenScr, tup0, tup1, tup2, tup3, tup4, tup5, lst0, lst1, lst2, lst3, List.getElem?_cons_zero, List.getElem?_cons_succ, List.getElem?_nil, List.set_cons_zero, List.set_cons_succ, List.length_cons, List.length_nil, List.map_cons, List.map_nil, List.replicate_succ, List.replicate_zero, List.cons_append, List.nil_append, List.append_nil, if_true, if_false, ite_true, ite_false, Bool.false_eq_true, Bool.not_true, Bool.not_false, Bool.true_and, Bool.and_true, Bool.false_and, Bool.and_false, Bool.or_true, Bool.true_or, Bool.false_or, Bool.or_false, and_self, and_true, true_and, Nat.sub_zero, Nat.sub_self, Nat.reduceSub, Nat.reduceAdd, Nat.reduceLeDiff, Nat.reduceEqDiff, decide_true, decide_false, Nat.zero_le]
    · rw [if_neg fun c => h2 c.2]
      simp (disch := omega) [f__law_due, u__law_due_1, u__law_due_2, u__law_due_3, u__law_due_4, u__law_due, ptD, plsD, w1, w2, h1, h2, runD, startD, endRt, endNx, endExc, seqE, seqNx, seqRt, seqExc, sNil, sPass, sIf, sRet, sRetN, sExpr, sSet, sAsg, sPar, kPar, setAll, sIxS, kSet, L3.sFld, eVar, eC, eBin, eTest, eChain, eUn, tAnd3, tOr3, tNot3, eAnd, eOr, eNot, eIf, aNil, aCons, eTup, eLst, eLstM, eCall, kCall, eMeth, kMeth, clsObj, eB, one, eFld, fldD, fieldAt, L3.putAt, eProp, kProp, noX, eMake, eLc, kLst, iSeq, L3.iZip, kZip, zipL, immS, iRg1, lcNil, lcCons, lcAS, lcBT, lcBF, lcCO, loNil, loCons, loAS, loNx, loCt, loBk, loRt, L3.sFor, sForW, eLcW, wSeq, wZip, kZipW, loopW, lcW, optS, wipeD, gSet, gTupD, gsNil, gsCons, tYes3, eIsi, isiD, kdOf, isK, allB, anyB, sumB, L3.listOf, blsOf, intsOf, asL, bindOk, bindExc, bindStk, toSOk, toSExc, lineOk, addI, subI, negI, mulL, mulR, divI, modI, ltI, leI, gtI, geI, eqI, neI, intB1, intB2, lenTup, lenLst, lenScr, tup0, tup1, tup2, tup3, tup4, tup5, lst0, lst1, lst2, lst3, List.getElem?_cons_zero, List.getElem?_cons_succ, List.getElem?_nil, List.set_cons_zero, List.set_cons_succ, List.length_cons, List.length_nil, List.map_cons, List.map_nil, List.replicate_succ, List.replicate_zero, List.cons_append, List.nil_append, List.append_nil, if_true, if_false, ite_true, ite_false, Bool.false_eq_true, Bool.not_true, Bool.not_false, Bool.true_and, Bool.and_true, Bool.false_and, Bool.and_false, Bool.or_true, Bool.true_or, Bool.false_or, Bool.or_false, and_self, and_true, true_and, Nat.sub_zero, Nat.sub_self, Nat.reduceSub, Nat.reduceAdd, Nat.reduceLeDiff, Nat.reduceEqDiff, decide_true, decide_false, Nat.zero_le]
  · rw [if_neg fun c => h1 c.1]
    simp (disch := omega) [f__law_due, u__law_due_1, u__law_due_2, u__law_due_3, u__law_due_4, u__law_due, ptD, plsD, w1, w2, h1, runD, startD, endRt, endNx, endExc, seqE, seqNx, seqRt, seqExc, sNil, sPass, sIf, sRet, sRetN, sExpr, sSet, sAsg, sPar, kPar, setAll, sIxS, kSet, L3.sFld, eVar, eC, eBin, eTest, eChain, eUn, tAnd3, tOr3, tNot3, eAnd, eOr, eNot, eIf, aNil, aCons, eTup, eLst, eLstM, eCall, kCall, eMeth, kMeth, clsObj, eB, one, eFld, fldD, fieldAt, L3.putAt, eProp, kProp, noX, eMake, eLc, kLst, iSeq, L3.iZip, kZip, zipL, immS, iRg1, lcNil, lcCons, lcAS, lcBT, lcBF, lcCO, loNil, loCons, loAS, loNx, loCt, loBk, loRt, L3.sFor, sForW, eLcW, wSeq, wZip, kZipW, loopW, lcW, optS, wipeD, gSet, gTupD, gsNil, gsCons, tYes3, eIsi, isiD, kdOf, isK, allB, anyB, sumB, L3.listOf, blsOf, intsOf, asL, bindOk, bindExc, bindStk, toSOk, toSExc, lineOk, addI, subI, negI, mulL, mulR, divI, modI, ltI, leI, gtI, geI, eqI, neI, intB1, intB2, lenTup, lenLst, lenScr, tup0, tup1, tup2, tup3, tup4, tup5, lst0, lst1, lst2, lst3, List.getElem?_cons_zero, List.getElem?_cons_succ, List.getElem?_nil, List.set_cons_zero, List.set_cons_succ, List.length_cons, List.length_nil, List.map_cons, List.map_nil, List.replicate_succ, List.replicate_zero, List.cons_append, List.nil_append, List.append_nil, if_true, if_false, ite_true, ite_false, Bool.false_eq_true, Bool.not_true, Bool.not_false, Bool.true_and, Bool.and_true, Bool.false_and, Bool.and_false, Bool.or_true, Bool.true_or, Bool.false_or, Bool.or_false, and_self, and_true, true_and, Nat.sub_zero, Nat.sub_self, Nat.reduceSub, Nat.reduceAdd, Nat.reduceLeDiff, Nat.reduceEqDiff, decide_true, decide_false, Nat.zero_le]
theorem bnd7_in (t : Int) : 0 ≤ bnd7 t ∧ bnd7 t ≤ 7 := by unfold bnd7; split <;> split <;> omega
theorem repr_n (h : Hh) : reprB [.non] h = .ok (.str (showL .non)) h := by
  simp [one, reprD, deref, flat, smallD, wtD]
theorem repr_p {a b : Int} (ha : 0 ≤ a ∧ a ≤ 7) (hb : 0 ≤ b ∧ b ≤ 7) (h : Hh) : reprB [.tup [.int a, .int b]] h = .ok (.str (showL (.tup [.int a, .int b]))) h := by
  have x : a.natAbs < 10 ^ 40 := Nat.lt_of_le_of_lt (show a.natAbs ≤ 7 by omega) (by decide)
  have y : b.natAbs < 10 ^ 40 := Nat.lt_of_le_of_lt (show b.natAbs ≤ 7 by omega) (by decide)
  simp [one, reprD, deref, flat, flats, smallD, smallDs, wtD, wtDs]
  omega
theorem repr_due (A B : Pln) (i j : Int) : ∃ s, ∀ h, reprB [dueV A B i j] h = .ok (.str s) h := by
  unfold dueV
  split
  · rename_i c
    exact ⟨_, repr_p (bnd7_in _) (by omega)⟩
  · exact ⟨_, repr_n⟩
end Lw
set_option autoImplicit false
set_option maxHeartbeats 8000000
set_option autoImplicit true
namespace Lw
open PySem PySem.Spec L2 L3
/-! the nodes: a table by pairs -/
theorem loopK {g : FnG} {body : FnS} (a : Nat → D) (P : Nat → De → Hh → Prop) (n : Nat) (st : ∀ k, k < n → ∀ δ h, P k δ h → ∃ δ1 δ2 h2, g (a k) δ = some δ1 ∧ body δ1 h = .nx δ2 h2 ∧ P (k + 1) δ2 h2) :
    ∀ (m k : Nat) (δ : De) (h : Hh), k + m = n → P k δ h → ∃ δ' h', loop3 g body ((List.range' k m).map a) δ h = .nx δ' h' ∧ P n δ' h'
  | 0, k, δ, h, e, p => ⟨δ, h, rfl, by rw [← e]; exact p⟩
  | m + 1, k, δ, h, e, p => by
    obtain ⟨δ1, δ2, h2, e1, e2, p2⟩ := st k (by omega) δ h p
    obtain ⟨δ', h', e3, p3⟩ := loopK a P n st m (k + 1) δ2 h2 (by omega) p2
    exact ⟨δ', h', by rw [List.range'_succ, List.map_cons, loCons, e1, loAS, e2, loNx, e3], p3⟩
theorem loopR1 {g : FnG} {body : FnS} (P : Nat → De → Hh → Prop) (n : Nat) (st : ∀ k, k < n → ∀ δ h, P k δ h → ∃ δ1 δ2 h2, g (.int (k : Int)) δ = some δ1 ∧ body δ1 h = .nx δ2 h2 ∧ P (k + 1) δ2 h2) (δ : De) (h : Hh) (p : P 0 δ h) :
    ∃ δ' h', loop3 g body (rgD 0 n) δ h = .nx δ' h' ∧ P n δ' h' := by
  rw [rgD_map, List.range_eq_range']
  exact loopK (fun k : Nat => D.int (k : Int)) P n st n 0 δ h (by omega) p
def kyI (p : Nat × Nat) : List Int := [(p.1 : Int), (p.2 : Int)]
def ditO (f : Nat → Nat → Pt) (pre : List (Nat × Nat)) : O := .dit (pre.map kyI) (pre.map fun p => ptD (f p.1 p.2))
theorem kyI_inj {p q : Nat × Nat} (e : kyI p = kyI q) : p = q := by
  unfold kyI at e
  injection e with e1 e2
  injection e2 with e2 _
  exact Prod.ext (by omega) (by omega)
theorem lookI_in {p : Nat × Nat} {G : Nat × Nat → D} : ∀ {pre : List (Nat × Nat)}, p ∈ pre → lookI (pre.map kyI) (pre.map G) (kyI p) = some (G p)
  | q :: pre, m => by
    show (if kyI q = kyI p then some (G q) else lookI (pre.map kyI) (pre.map G) (kyI p)) = _
    by_cases e : kyI q = kyI p
    · rw [if_pos e, kyI_inj e]
    · rw [if_neg e]
      refine lookI_in ?_
      rcases List.mem_cons.mp m with rfl | m
      · exact absurd rfl e
      · exact m
theorem dit_get {h : Hh} {n : Nat} {f : Nat → Nat → Pt} {pre : List (Nat × Nat)} (e : h[n]? = some (ditO f pre)) {c r : Nat} (m : (c, r) ∈ pre) : kIxT (.ref n) [.int (c : Int), .int (r : Int)] h = .ok (ptD (f c r)) h := by
  have a : asDit h (.ref n) = some (pre.map kyI, pre.map fun p => ptD (f p.1 p.2)) := by unfold asDit; dsimp only; rw [e]; rfl
  have b : lookI (pre.map kyI) (pre.map fun p => ptD (f p.1 p.2)) [(c : Int), (r : Int)] = some (ptD (f c r)) := lookI_in (p := (c, r)) (G := fun p => ptD (f p.1 p.2)) m
  unfold kIxT
  rw [a]
  show (if 2 ≤ 100 then optR (lookI (pre.map kyI) (pre.map fun p => ptD (f p.1 p.2)) [(c : Int), (r : Int)]) h else .stk) = _
  rw [b]
  rfl
theorem dit_put {h : Hh} {n : Nat} {f : Nat → Nat → Pt} {pre : List (Nat × Nat)} (e : h[n]? = some (ditO f pre)) {c r : Nat} (m : (c, r) ∉ pre) (l : pre.length < 1000000) (v : Pt) :
    setT (.ref n) [.int (c : Int), .int (r : Int)] (ptD v) h = some (h.set n (ditO (fun a b => if (a, b) = (c, r) then v else f a b) (pre ++ [(c, r)]))) := by
  have ne : ∀ p ∈ pre, p ≠ (c, r) := fun p hp q => m (q ▸ hp)
  have k : (pre.map kyI).all (fun q => !decide (q = [(c : Int), (r : Int)])) = true := List.all_eq_true.mpr fun q hq => by
    obtain ⟨p, hp, rfl⟩ := List.mem_map.mp hq
    have : kyI p ≠ [(c : Int), (r : Int)] := fun z => ne p hp (kyI_inj (q := (c, r)) z)
    rw [decide_eq_false this]; rfl
  have d : ditO (fun a b => if (a, b) = (c, r) then v else f a b) (pre ++ [(c, r)]) = .dit (pre.map kyI ++ [[(c : Int), (r : Int)]]) ((pre.map fun p => ptD (f p.1 p.2)) ++ [ptD v]) := by
    unfold ditO
    rw [List.map_append, List.map_append]
    congr 2
    · refine List.map_congr_left fun p hp => ?_
      show ptD (if (p.1, p.2) = (c, r) then v else f p.1 p.2) = _
      rw [if_neg (ne p hp)]
    · show [ptD (if (c, r) = (c, r) then v else f c r)] = _
      rw [if_pos rfl]
  unfold setT
  dsimp only
  rw [e]
  show (if (pre.map kyI).length < 1000000 ∧ 2 ≤ 100 ∧ (pre.map kyI).all (fun q => !decide (q = [(c : Int), (r : Int)])) = true then _ else _) = _
  rw [if_pos ⟨by rw [List.length_map]; exact l, by decide, k⟩, d]
/-- what may stand at a node -/
def NOk (s w hh : Nat) (f : Nat → Nat → Pt) (c r : Nat) : Prop := ∃ dx dy : Int, f c r = (2 * s * c + dx, 2 * s * r + dy) ∧ (-1 ≤ dx ∧ dx ≤ 1) ∧ (-1 ≤ dy ∧ dy ≤ 1) ∧ (¬ (s = 3 ∧ (0 < r ∧ r < hh) ∧ (0 < c ∧ c < w)) → dx = 0 ∧ dy = 0)
def rowG (w r n : Nat) : List (Nat × Nat) := (List.range n).map fun c => (c, r)
def gridG (w : Nat) : Nat → List (Nat × Nat)
  | 0 => []
  | n + 1 => gridG w n ++ rowG w n (w + 1)
theorem rowG_s (w r n : Nat) : rowG w r (n + 1) = rowG w r n ++ [(n, r)] := by unfold rowG; rw [List.range_succ, List.map_append]; rfl
theorem rowG_m {w r n c q : Nat} : (c, q) ∈ rowG w r n ↔ c < n ∧ q = r := by
  unfold rowG
  rw [List.mem_map]
  constructor
  · rintro ⟨x, hx, e⟩; injection e with e1 e2; subst e1; subst e2; exact ⟨List.mem_range.mp hx, rfl⟩
  · rintro ⟨a, rfl⟩; exact ⟨c, List.mem_range.mpr a, rfl⟩
theorem gridG_m {w c q : Nat} : ∀ {n : Nat}, (c, q) ∈ gridG w n ↔ c < w + 1 ∧ q < n
  | 0 => by simp [gridG]
  | n + 1 => by
    show (c, q) ∈ gridG w n ++ rowG w n (w + 1) ↔ _
    rw [List.mem_append, gridG_m, rowG_m]; omega
theorem rowG_l (w r n : Nat) : (rowG w r n).length = n := by unfold rowG; rw [List.length_map, List.length_range]
theorem gridG_l (w : Nat) : ∀ n, (gridG w n).length = n * (w + 1)
  | 0 => by simp [gridG]
  | n + 1 => by
    show (gridG w n ++ rowG w n (w + 1)).length = _
    rw [List.length_append, gridG_l w n, rowG_l, Nat.succ_mul]
end Lw
set_option autoImplicit false
set_option maxHeartbeats 8000000
set_option autoImplicit true
namespace Lw
open PySem PySem.Spec L2 L3
/-! the nodes, drawn -/
abbrev nDe (w hh s n r c : Nat) (x y : Option D) : De := [some (.ref 2), some (.int (w : Int)), some (.int (hh : Int)), some (.int (s : Int)), some (.ref n), some (.int (r : Int)), some (.int (c : Int)), x, y]
theorem nod_test (w hh s n r c : Nat) (x y : Option D) (h : Hh) : (tAnd3 (eTest (eBin eqD (eVar 3) (eC (.int 3)))) (tAnd3 (eTest (eChain ltD ltD (eC (.int 0)) (eVar 5) (eVar 2))) (eTest (eChain ltD ltD (eC (.int 0)) (eVar 6) (eVar 1))))) (nDe w hh s n r c x y) h = .ok (decide (s = 3 ∧ (0 < r ∧ r < hh) ∧ (0 < c ∧ c < w))) h := by
  have e3 : ((s : Int) = 3) ↔ s = 3 := by omega
  by_cases h1 : s = 3 <;> by_cases h2 : 0 < r <;> by_cases h3 : r < hh <;> by_cases h4 : 0 < c <;> by_cases h5 : c < w <;>
    simp [nDe, h1, h2, h3, h4, h5, e3, runD, startD, endRt, endNx, endExc, seqE, seqNx, seqRt, seqExc, sNil, sPass, sIf, sRet, sRetN, sExpr, sSet, sAsg, sPar, kPar, setAll, sIxS, kSet, L3.sFld, eVar, eC, eBin, eTest, eChain, eUn, tAnd3, tOr3, tNot3, eAnd, eOr, eNot, eIf, aNil, aCons, eTup, eLst, eLstM, eCall, kCall, eMeth, kMeth, clsObj, eB, one, eFld, fldD, fieldAt, L3.putAt, eProp, kProp, noX, eMake, eLc, kLst, iSeq, L3.iZip, kZip, zipL, immS, iRg1, lcNil, lcCons, lcAS, lcBT, lcBF, lcCO, loNil, loCons, loAS, loNx, loCt, loBk, loRt, L3.sFor, sForW, eLcW, wSeq, wZip, kZipW, loopW, lcW, optS, wipeD, gSet, gTupD, gsNil, gsCons, tYes3, eIsi, isiD, kdOf, isK, allB, anyB, sumB, L3.listOf, blsOf, intsOf, asL, bindOk, bindExc, bindStk, toSOk, toSExc, lineOk, addI, subI, negI, mulL, mulR, divI, modI, ltI, leI, gtI, geI, eqI, neI, intB1, intB2, lenTup, lenLst, lenScr, tup0, tup1, tup2, tup3, tup4, tup5, lst0, lst1, lst2, lst3, List.getElem?_cons_zero, List.getElem?_cons_succ, List.getElem?_nil, List.set_cons_zero, List.set_cons_succ, List.length_cons, List.length_nil, List.map_cons, List.map_nil, List.replicate_succ, List.replicate_zero, List.cons_append, List.nil_append, List.append_nil, if_true, if_false, ite_true, ite_false, Bool.false_eq_true, Bool.not_true, Bool.not_false, Bool.true_and, Bool.and_true, Bool.false_and, Bool.and_false, Bool.or_true, Bool.true_or, Bool.false_or, Bool.or_false, and_self, and_true, true_and, Nat.sub_zero, Nat.sub_self, Nat.reduceSub, Nat.reduceAdd, Nat.reduceLeDiff, Nat.reduceEqDiff, decide_true, decide_false, Nat.zero_le]
theorem node_1 {w hh s n r c : Nat} (hs : s ≤ 3) (x7 x8 : Option D) (h : Hh) : u__law_nodes_2_1_1 (nDe w hh s n r c x7 x8) h = .nx (nDe w hh s n r c (some (.int (2 * s * c))) (some (.int (2 * s * r)))) h := by
  have m1 : mulD (.int 2) (.int (s : Int)) h = .ok (.int (2 * s)) h := mulL h (by omega) (by omega)
  have m2 : mulD (.int (2 * s)) (.int (c : Int)) h = .ok (.int (2 * s * c)) h := mulL h (by omega) (by omega)
  have m3 : mulD (.int (2 * s)) (.int (r : Int)) h = .ok (.int (2 * s * r)) h := mulL h (by omega) (by omega)
  have v3 : eVar 3 (nDe w hh s n r c x7 x8) h = .ok (.int (s : Int)) h := rfl
  have v5 : eVar 5 (nDe w hh s n r c x7 x8) h = .ok (.int (r : Int)) h := rfl
  have v6 : eVar 6 (nDe w hh s n r c x7 x8) h = .ok (.int (c : Int)) h := rfl
  have c2 : eC (.int 2) (nDe w hh s n r c x7 x8) h = .ok (.int 2) h := rfl
  unfold u__law_nodes_2_1_1
  exact par_ok (aC_ok ((eBin_ok ((eBin_ok c2 v3).trans m1) v6).trans m2) (aC_ok ((eBin_ok ((eBin_ok c2 v3).trans m1) v5).trans m3) aN_ok)) rfl
theorem node_2a {w hh s n r c : Nat} {X Y v1 v2 : Int} {h h1 h2 : Hh} (f1 : f__law_next [.ref 2, .int 3] h = .ok (.int v1) h1) (f2 : f__law_next [.ref 2, .int 3] h1 = .ok (.int v2) h2) :
    u__law_nodes_2_1_2_a_1 (nDe w hh s n r c (some (.int X)) (some (.int Y))) h = .nx (nDe w hh s n r c (some (.int (X + v1 - 1))) (some (.int (Y + v2 - 1)))) h2 := by
  simp (disch := omega) only [u__law_nodes_2_1_2_a_1, nDe, f1, f2, runD, startD, endRt, endNx, endExc, seqE, seqNx, seqRt, seqExc, sNil, sPass, sIf, sRet, sRetN, sExpr, sSet, sAsg, sPar, kPar, setAll, sIxS, kSet, L3.sFld, eVar, eC, eBin, eTest, eChain, eUn, tAnd3, tOr3, tNot3, eAnd, eOr, eNot, eIf, aNil, aCons, eTup, eLst, eLstM, eCall, kCall, eMeth, kMeth, clsObj, eB, one, eFld, fldD, fieldAt, L3.putAt, eProp, kProp, noX, eMake, eLc, kLst, iSeq, L3.iZip, kZip, zipL, immS, iRg1, lcNil, lcCons, lcAS, lcBT, lcBF, lcCO, loNil, loCons, loAS, loNx, loCt, loBk, loRt, L3.sFor, sForW, eLcW, wSeq, wZip, kZipW, loopW, lcW, optS, wipeD, gSet, gTupD, gsNil, gsCons, tYes3, eIsi, isiD, kdOf, isK, allB, anyB, sumB, L3.listOf, blsOf, intsOf, asL, bindOk, bindExc, bindStk, toSOk, toSExc, lineOk, addI, subI, negI, mulL, mulR, divI, modI, ltI, leI, gtI, geI, eqI, neI, intB1, intB2, lenTup, lenLst, lenScr, tup0, tup1, tup2, tup3, tup4, tup5, lst0, lst1, lst2, lst3, List.getElem?_cons_zero, List.getElem?_cons_succ, List.getElem?_nil, List.set_cons_zero, List.set_cons_succ, List.length_cons, List.length_nil, List.map_cons, List.map_nil, List.replicate_succ, List.replicate_zero, List.cons_append, List.nil_append, List.append_nil, if_true, if_false, ite_true, ite_false, Bool.false_eq_true, Bool.not_true, Bool.not_false, Bool.true_and, Bool.and_true, Bool.false_and, Bool.and_false, Bool.or_true, Bool.true_or, Bool.false_or, Bool.or_false, and_self, and_true, true_and, Nat.sub_zero, Nat.sub_self, Nat.reduceSub, Nat.reduceAdd, Nat.reduceLeDiff, Nat.reduceEqDiff, decide_true, decide_false, Nat.zero_le]
theorem node_2 {w hh s n r c : Nat} {h : Hh} {N : Nat} {os : List (Nat × O)} (st : St h (N + 2) os) (X Y : Int) :
    ∃ dx dy h2, u__law_nodes_2_1_2 (nDe w hh s n r c (some (.int X)) (some (.int Y))) h = .nx (nDe w hh s n r c (some (.int (X + dx))) (some (.int (Y + dy)))) h2 ∧ St h2 N os ∧
      (-1 ≤ dx ∧ dx ≤ 1) ∧ (-1 ≤ dy ∧ dy ≤ 1) ∧ (¬ (s = 3 ∧ (0 < r ∧ r < hh) ∧ (0 < c ∧ c < w)) → dx = 0 ∧ dy = 0) := by
  have t := nod_test w hh s n r c (some (.int X)) (some (.int Y)) h
  by_cases q : s = 3 ∧ (0 < r ∧ r < hh) ∧ (0 < c ∧ c < w)
  · rw [decide_eq_true q] at t
    obtain ⟨v1, h1, k1, f1, s1⟩ := nxF (N := N + 1) st 3 (by omega) (by omega)
    obtain ⟨v2, h2, k2, f2, s2⟩ := nxF (N := N) s1 3 (by omega) (by omega)
    refine ⟨v1 - 1, v2 - 1, h2, ?_, s2, by omega, by omega, fun z => absurd q z⟩
    unfold u__law_nodes_2_1_2
    rw [sIf_t t, node_2a f1 f2, Int.add_sub_assoc, Int.add_sub_assoc]
  · rw [decide_eq_false q] at t
    refine ⟨0, 0, h, ?_, st.weak (by omega), by omega, by omega, fun _ => ⟨rfl, rfl⟩⟩
    rw [Int.add_zero, Int.add_zero]
    unfold u__law_nodes_2_1_2
    exact if_nx t
theorem node_3 {w hh s n r c : Nat} {X Y : Int} {h h' : Hh} (k : setT (.ref n) [.int (c : Int), .int (r : Int)] (ptD (X, Y)) h = some h') : u__law_nodes_2_1_3 (nDe w hh s n r c (some (.int X)) (some (.int Y))) h = .nx (nDe w hh s n r c (some (.int X)) (some (.int Y))) h' := by
  have a : (eTup (aCons (eVar 7) (aCons (eVar 8) aNil))) (nDe w hh s n r c (some (.int X)) (some (.int Y))) h = .ok (ptD (X, Y)) h := rfl
  have b : (eVar 4) (nDe w hh s n r c (some (.int X)) (some (.int Y))) h = .ok (.ref n) h := rfl
  have d : (aCons (eVar 6) (aCons (eVar 5) aNil)) (nDe w hh s n r c (some (.int X)) (some (.int Y))) h = .ok [.int (c : Int), .int (r : Int)] h := rfl
  unfold u__law_nodes_2_1_3 sIxT
  rw [a, toSOk, b, toSOk, d, toSOk]
  unfold kSetT
  rw [k]
theorem node_step {w hh s n r c : Nat} (hs : s ≤ 3) {f : Nat → Nat → Pt} {pre : List (Nat × Nat)} (np : (c, r) ∉ pre) (lp : pre.length < 1000000) {h : Hh} {N : Nat} {os : List (Nat × O)} (nn : ∀ p ∈ os, p.1 ≠ n)
    (st : St h (N + 2) ((n, ditO f pre) :: os)) (ok : ∀ c r, (c, r) ∈ pre → NOk s w hh f c r) (x7 x8 : Option D) : ∃ x y f' h', (sSeq u__law_nodes_2_1_1 (sSeq u__law_nodes_2_1_2 u__law_nodes_2_1_3)) (nDe w hh s n r c x7 x8) h = .nx (nDe w hh s n r c x y) h' ∧
      St h' N ((n, ditO f' (pre ++ [(c, r)])) :: os) ∧ ∀ a b, (a, b) ∈ pre ++ [(c, r)] → NOk s w hh f' a b := by
  obtain ⟨dx, dy, h2, e2, s2, b1, b2, b3⟩ := node_2 (w := w) (hh := hh) (s := s) (n := n) (r := r) (c := c) st (2 * s * c) (2 * s * r)
  have k := dit_put (s2.get List.mem_cons_self) np lp (2 * s * c + dx, 2 * s * r + dy)
  refine ⟨_, _, _, _, (seq_nx (node_1 hs x7 x8 h)).trans ((seq_nx e2).trans (node_3 k)), s2.put nn _, ?_⟩
  intro a b m
  by_cases q : (a, b) = (c, r)
  · injection q with q1 q2
    subst q1; subst q2
    exact ⟨dx, dy, if_pos rfl, b1, b2, b3⟩
  · rcases List.mem_append.mp m with m | m
    · obtain ⟨ex, ey, z1, z2⟩ := ok a b m
      exact ⟨ex, ey, (if_neg q).trans z1, z2⟩
    · exact absurd (List.mem_singleton.mp m) q
theorem nodes_ok {w hh s : Nat} (hw : w ≤ 3) (hh2 : hh ≤ 2) (hs : s ≤ 3) {h : Hh} {N : Nat} {os : List (Nat × O)} (st : St h (N + 24) os) : ∃ n f h', f__law_nodes [.ref 2, .int (w : Int), .int (hh : Int), .int (s : Int)] h = .ok (.ref n) h' ∧
      St h' N ((n, ditO f (gridG w (hh + 1))) :: os) ∧ (∀ p ∈ os, p.1 ≠ n) ∧ ∀ c r, c ≤ w → r ≤ hh → NOk s w hh f c r := by
  have nn : ∀ p ∈ os, p.1 ≠ h.length := fun p m => by
    obtain ⟨b, _, q⟩ := st
    have := (List.getElem?_eq_some_iff.mp (q p m).1).1
    omega
  have row : ∀ r, r < hh + 1 → ∀ δ h', (∃ x6 x7 x8 f x5, δ = [some (.ref 2), some (.int (w : Int)), some (.int (hh : Int)), some (.int (s : Int)), some (.ref h.length), x5, x6, x7, x8] ∧ St h' (N + 8 * (3 - r)) ((h.length, ditO f (gridG w r)) :: os) ∧ ∀ a b, (a, b) ∈ gridG w r → NOk s w hh f a b) →
      ∃ δ1 δ2 h2, gSet 5 (.int (r : Int)) δ = some δ1 ∧ u__law_nodes_2_1 δ1 h' = .nx δ2 h2 ∧ (∃ x6 x7 x8 f x5, δ2 = [some (.ref 2), some (.int (w : Int)), some (.int (hh : Int)), some (.int (s : Int)), some (.ref h.length), x5, x6, x7, x8] ∧ St h2 (N + 8 * (3 - (r + 1))) ((h.length, ditO f (gridG w (r + 1))) :: os) ∧ ∀ a b, (a, b) ∈ gridG w (r + 1) → NOk s w hh f a b) := by
    rintro r hr δ h' ⟨x6, x7, x8, f, x5, rfl, s1, ok⟩
    obtain ⟨δ', h2, e, ⟨y6, y7, y8, f', rfl, s2, ok'⟩⟩ := loopR1 (g := gSet 6) (body := sSeq u__law_nodes_2_1_1 (sSeq u__law_nodes_2_1_2 u__law_nodes_2_1_3))
      (fun c δ h' => ∃ x6 x7 x8 f, δ = [some (.ref 2), some (.int (w : Int)), some (.int (hh : Int)), some (.int (s : Int)), some (.ref h.length), some (.int (r : Int)), x6, x7, x8] ∧ St h' (N + 8 * (3 - r) - 2 * c) ((h.length, ditO f (gridG w r ++ rowG w r c)) :: os) ∧ ∀ a b, (a, b) ∈ gridG w r ++ rowG w r c → NOk s w hh f a b)
      (w + 1) (fun c hc δ h' ⟨x6, x7, x8, f, e1, s1, ok⟩ => by
        subst e1
        have np : (c, r) ∉ gridG w r ++ rowG w r c := fun m => by
          rcases List.mem_append.mp m with m | m
          · have := gridG_m.mp m; omega
          · have := rowG_m.mp m; omega
        have lp : (gridG w r ++ rowG w r c).length < 1000000 := by
          rw [List.length_append, gridG_l, rowG_l]
          have : r * (w + 1) ≤ 2 * 4 := Nat.mul_le_mul (by omega) (by omega)
          omega
        obtain ⟨x, y, f', h2, e2, s2, ok2⟩ := node_step (N := N + 8 * (3 - r) - 2 * (c + 1)) hs np lp nn (s1.weak (by omega)) ok x7 x8
        rw [List.append_assoc, ← rowG_s] at s2 ok2
        exact ⟨_, _, h2, rfl, e2, ⟨_, _, _, f', rfl, s2, ok2⟩⟩)
      [some (.ref 2), some (.int (w : Int)), some (.int (hh : Int)), some (.int (s : Int)), some (.ref h.length), some (.int (r : Int)), x6, x7, x8] h' ⟨x6, x7, x8, f, rfl, by
        rw [show rowG w r 0 = [] from rfl, List.append_nil]; exact s1, by rw [show rowG w r 0 = [] from rfl, List.append_nil]; exact ok⟩
    refine ⟨_, _, h2, rfl, ?_, ⟨y6, y7, y8, f', some (.int (r : Int)), rfl, s2.weak (by omega), ok'⟩⟩
    unfold u__law_nodes_2_1
    have ev : (eBin addD (eVar 1) (eC (.int 1))) [some (.ref 2), some (.int (w : Int)), some (.int (hh : Int)), some (.int (s : Int)), some (.ref h.length), some (.int (r : Int)), x6, x7, x8] h' = .ok (.int ((w + 1 : Nat) : Int)) h' := rfl
    exact (sFor_ok (rg_ok ev (by omega))).trans e
  obtain ⟨δ', h', e, ⟨x6, x7, x8, f, x5, rfl, s2, ok⟩⟩ := loopR1 (g := gSet 5) (body := u__law_nodes_2_1) _ (hh + 1) row
    [some (.ref 2), some (.int (w : Int)), some (.int (hh : Int)), some (.int (s : Int)), some (.ref h.length), none, none, none, none] (h ++ [.dit [] []]) ⟨none, none, none, fun _ _ => (0, 0), none, rfl, st.new _, fun a b m => by cases m⟩
  refine ⟨h.length, f, h', ?_, s2.weak (by omega), nn, fun c r hc hr => ok c r (gridG_m.mpr ⟨by omega, by omega⟩)⟩
  have s1 : u__law_nodes_1 [some (.ref 2), some (.int (w : Int)), some (.int (hh : Int)), some (.int (s : Int)), none, none, none, none, none] h = .nx [some (.ref 2), some (.int (w : Int)), some (.int (hh : Int)), some (.int (s : Int)), some (.ref h.length), none, none, none, none] (h ++ [.dit [] []]) := rfl
  have ev : (eBin addD (eVar 2) (eC (.int 1))) [some (.ref 2), some (.int (w : Int)), some (.int (hh : Int)), some (.int (s : Int)), some (.ref h.length), none, none, none, none] (h ++ [.dit [] []]) = .ok (.int ((hh + 1 : Nat) : Int)) (h ++ [.dit [] []]) := rfl
  have s3 : u__law_nodes_2 [some (.ref 2), some (.int (w : Int)), some (.int (hh : Int)), some (.int (s : Int)), some (.ref h.length), none, none, none, none] (h ++ [.dit [] []]) = .nx [some (.ref 2), some (.int (w : Int)), some (.int (hh : Int)), some (.int (s : Int)), some (.ref h.length), x5, x6, x7, x8] h' := by
    unfold u__law_nodes_2
    exact (sFor_ok (rg_ok ev (by omega))).trans e
  have st : startD 9 [.ref 2, .int (w : Int), .int (hh : Int), .int (s : Int)] = [some (.ref 2), some (.int (w : Int)), some (.int (hh : Int)), some (.int (s : Int)), none, none, none, none, none] := rfl
  unfold f__law_nodes runD
  rw [st]
  unfold u__law_nodes
  rw [seq_nx s1, seq_nx s3]
  rfl
end Lw
set_option autoImplicit false
set_option maxHeartbeats 8000000
set_option autoImplicit true
namespace Lw
open PySem PySem.Spec L2 L3
/-! the cells, cut -/
abbrev Tr := Pt × Pt × Pt
def trD (t : Tr) : D := .tup [ptD t.1, ptD t.2.1, ptD t.2.2]
def cutT (f : Nat → Nat → Pt) (p : Nat × Nat) (t : Bool) : List Tr :=
  if t then [(f p.1 p.2, f (p.1 + 1) p.2, f (p.1 + 1) (p.2 + 1)), (f p.1 p.2, f (p.1 + 1) (p.2 + 1), f p.1 (p.2 + 1))]
  else [(f p.1 p.2, f (p.1 + 1) p.2, f p.1 (p.2 + 1)), (f (p.1 + 1) p.2, f (p.1 + 1) (p.2 + 1), f p.1 (p.2 + 1))]
inductive Cut (f : Nat → Nat → Pt) : List (Nat × Nat) → List Tr → Prop where
  | nil : Cut f [] []
  | snoc {l : List (Nat × Nat)} {r : List Tr} (p : Nat × Nat) (t : Bool) : Cut f l r → Cut f (l ++ [p]) (r ++ cutT f p t)
def gridC (w : Nat) : Nat → List (Nat × Nat)
  | 0 => []
  | n + 1 => gridC w n ++ rowG w n w
abbrev cDe (n w hh r c : Nat) (L : List Tr) (x7 x8 x9 x10 : Option D) : De := [some (.ref 2), some (.ref n), some (.int (w : Int)), some (.int (hh : Int)), some (.lst (L.map trD)), some (.int (r : Int)), some (.int (c : Int)), x7, x8, x9, x10]
theorem cutT_l (f : Nat → Nat → Pt) (p : Nat × Nat) (t : Bool) : (cutT f p t).length = 2 := by cases t <;> rfl
theorem Cut.len {f : Nat → Nat → Pt} {l : List (Nat × Nat)} {r : List Tr} (c : Cut f l r) : r.length = 2 * l.length := by
  induction c with
  | nil => rfl
  | snoc p t _ ih => rw [List.length_append, List.length_append, ih, cutT_l]; show _ = 2 * (_ + 1); omega
theorem addL {xs ys : List D} (l : xs.length + ys.length ≤ 1000) (h : Hh) : addD (.lst xs) (.lst ys) h = .ok (.lst (xs ++ ys)) h := by
  have e : lineOk (xs.length + ys.length) = true := by unfold lineOk; simp; omega
  show (if lineOk (xs.length + ys.length) = true then R.ok (D.lst (xs ++ ys)) h else R.stk) = _
  rw [if_pos e]
theorem cell_step {f : Nat → Nat → Pt} {w hh n r c : Nat} {pre : List (Nat × Nat)} {L : List Tr} (hL : Cut f pre L) (lp : pre.length ≤ 100) {h : Hh} {N : Nat} {os : List (Nat × O)} {G : List (Nat × Nat)} (m : (n, ditO f G) ∈ os)
    (m1 : (c, r) ∈ G) (m2 : (c + 1, r) ∈ G) (m3 : (c + 1, r + 1) ∈ G) (m4 : (c, r + 1) ∈ G) (st : St h (N + 1) os) (x7 x8 x9 x10 : Option D) :
    ∃ t y7 y8 y9 y10 h', (sSeq u__law_cells_2_1_1 (sSeq u__law_cells_2_1_2 u__law_cells_2_1_3)) (cDe n w hh r c L x7 x8 x9 x10) h = .nx (cDe n w hh r c (L ++ cutT f (c, r) t) y7 y8 y9 y10) h' ∧ St h' N os := by
  have g := st.get m
  have ix : ∀ {a b : Nat} {e1 e2 : FnE} {δ : De}, (a, b) ∈ G → δ[1]? = some (some (.ref n)) → e1 δ h = .ok (.int (a : Int)) h → e2 δ h = .ok (.int (b : Int)) h → eIxT (eVar 1) (aCons e1 (aCons e2 aNil)) δ h = .ok (ptD (f a b)) h := fun {a b e1 e2 δ} q q0 q1 q2 => by
    unfold eIxT
    rw [eVar_ok q0, bindOk, aC_ok q1 (aC_ok q2 aN_ok), bindOk]
    exact dit_get g q
  have e1 : u__law_cells_2_1_1 (cDe n w hh r c L x7 x8 x9 x10) h = .nx (cDe n w hh r c L (some (ptD (f c r))) (some (ptD (f (c + 1) r))) x9 x10) h := by
    unfold u__law_cells_2_1_1
    exact par_ok (aC_ok (ix m1 rfl rfl rfl) (aC_ok (ix m2 rfl rfl rfl) aN_ok)) rfl
  have e2 : u__law_cells_2_1_2 (cDe n w hh r c L (some (ptD (f c r))) (some (ptD (f (c + 1) r))) x9 x10) h = .nx (cDe n w hh r c L (some (ptD (f c r))) (some (ptD (f (c + 1) r))) (some (ptD (f (c + 1) (r + 1)))) (some (ptD (f c (r + 1))))) h := by
    unfold u__law_cells_2_1_2
    exact par_ok (aC_ok (ix m3 rfl rfl rfl) (aC_ok (ix m4 rfl rfl rfl) aN_ok)) rfl
  generalize hA : f c r = A at *
  generalize hB : f (c + 1) r = B at *
  generalize hC : f (c + 1) (r + 1) = C at *
  generalize hD : f c (r + 1) = E at *
  have ct : cutT f (c, r) true = [(A, B, C), (A, C, E)] := by unfold cutT; rw [if_pos rfl]; dsimp only; rw [hA, hB, hC, hD]
  have cf : cutT f (c, r) false = [(A, B, E), (B, C, E)] := by unfold cutT; rw [if_neg Bool.false_ne_true]; dsimp only; rw [hA, hB, hC, hD]
  obtain ⟨k, h1, hk, en, s1⟩ := nxA (i := 0) (δ := cDe n w hh r c L (some (ptD A)) (some (ptD B)) (some (ptD C)) (some (ptD E))) st 2 (by decide) (by decide) rfl
  have tt : eTest (eBin eqD (eCall 2 f__law_next (aCons (eVar 0) (aCons (eC (.int 2)) aNil)) []) (eC (.int 0))) (cDe n w hh r c L (some (ptD A)) (some (ptD B)) (some (ptD C)) (some (ptD E))) h = .ok (decide ((k : Int) = 0)) h1 := tI_eq en rfl
  have ll : (L.map trD).length + 2 ≤ 1000 := by rw [List.length_map, hL.len]; omega
  by_cases k0 : (k : Int) = 0
  · rw [decide_eq_true k0] at tt
    refine ⟨true, some (ptD A), some (ptD B), some (ptD C), some (ptD E), h1, (seq_nx e1).trans ((seq_nx e2).trans ?_), s1⟩
    unfold u__law_cells_2_1_3
    rw [sIf_t tt, ct]
    delta cDe
    rw [List.map_append]
    unfold u__law_cells_2_1_3_a_1
    exact sSet_ok ((eBin_ok (x := .lst (L.map trD)) (y := .lst [trD (A, B, C), trD (A, C, E)]) rfl rfl).trans (addL ll h1))
  · rw [decide_eq_false k0] at tt
    refine ⟨false, some (ptD A), some (ptD B), some (ptD C), some (ptD E), h1, (seq_nx e1).trans ((seq_nx e2).trans ?_), s1⟩
    unfold u__law_cells_2_1_3
    rw [sIf_f tt, cf]
    delta cDe
    rw [List.map_append]
    unfold u__law_cells_2_1_3_b_1
    exact sSet_ok ((eBin_ok (x := .lst (L.map trD)) (y := .lst [trD (A, B, E), trD (B, C, E)]) rfl rfl).trans (addL ll h1))
theorem cells_ok {f : Nat → Nat → Pt} {w hh n : Nat} (hw : w ≤ 3) (hh2 : hh ≤ 2) {h : Hh} {N : Nat} {os : List (Nat × O)} (m : (n, ditO f (gridG w (hh + 1))) ∈ os) (st : St h (N + 6) os) :
    ∃ L h', f__law_cells [.ref 2, .ref n, .int (w : Int), .int (hh : Int)] h = .ok (.lst (L.map trD)) h' ∧ Cut f (gridC w hh) L ∧ St h' N os := by
  have row : ∀ r, r < hh → ∀ δ h', (∃ x5 x6 x7 x8 x9 x10 L, δ = [some (.ref 2), some (.ref n), some (.int (w : Int)), some (.int (hh : Int)), some (.lst (L.map trD)), x5, x6, x7, x8, x9, x10] ∧ St h' (N + 3 * (2 - r)) os ∧ Cut f (gridC w r) L) →
      ∃ δ1 δ2 h2, gSet 5 (.int (r : Int)) δ = some δ1 ∧ u__law_cells_2_1 δ1 h' = .nx δ2 h2 ∧ (∃ x5 x6 x7 x8 x9 x10 L, δ2 = [some (.ref 2), some (.ref n), some (.int (w : Int)), some (.int (hh : Int)), some (.lst (L.map trD)), x5, x6, x7, x8, x9, x10] ∧ St h2 (N + 3 * (2 - (r + 1))) os ∧ Cut f (gridC w (r + 1)) L) := by
    rintro r hr δ h' ⟨x5, x6, x7, x8, x9, x10, L, rfl, s1, cu⟩
    obtain ⟨δ', h2, e, ⟨y6, y7, y8, y9, y10, L', rfl, s2, cu'⟩⟩ := loopR1 (g := gSet 6) (body := sSeq u__law_cells_2_1_1 (sSeq u__law_cells_2_1_2 u__law_cells_2_1_3))
      (fun c δ h' => ∃ x6 x7 x8 x9 x10 L, δ = [some (.ref 2), some (.ref n), some (.int (w : Int)), some (.int (hh : Int)), some (.lst (L.map trD)), some (.int (r : Int)), x6, x7, x8, x9, x10] ∧ St h' (N + 3 * (2 - r) - c) os ∧ Cut f (gridC w r ++ rowG w r c) L)
      w (fun c hc δ h' ⟨x6, x7, x8, x9, x10, L, e1, s1, cu⟩ => by
        subst e1
        have lp : (gridC w r ++ rowG w r c).length ≤ 100 := by
          have : ∀ r, (gridC w r).length = r * w := fun r => by
            induction r with
            | zero => simp [gridC]
            | succ r ih => show (gridC w r ++ rowG w r w).length = _; rw [List.length_append, ih, rowG_l, Nat.succ_mul]
          rw [List.length_append, this, rowG_l]
          have : r * w ≤ 2 * 3 := Nat.mul_le_mul (by omega) (by omega)
          omega
        obtain ⟨t, y7, y8, y9, y10, h2, e2, s2⟩ := cell_step (w := w) (hh := hh) (c := c) (r := r) (N := N + 3 * (2 - r) - (c + 1)) cu lp m (gridG_m.mpr ⟨by omega, by omega⟩) (gridG_m.mpr ⟨by omega, by omega⟩) (gridG_m.mpr ⟨by omega, by omega⟩) (gridG_m.mpr ⟨by omega, by omega⟩) (s1.weak (by omega)) x7 x8 x9 x10
        refine ⟨_, _, h2, rfl, e2, ⟨_, y7, y8, y9, y10, _, rfl, s2, ?_⟩⟩
        rw [rowG_s, ← List.append_assoc]
        exact cu.snoc (c, r) t)
      [some (.ref 2), some (.ref n), some (.int (w : Int)), some (.int (hh : Int)), some (.lst (L.map trD)), some (.int (r : Int)), x6, x7, x8, x9, x10] h' ⟨x6, x7, x8, x9, x10, L, rfl, s1, by
        rw [show rowG w r 0 = [] from rfl, List.append_nil]; exact cu⟩
    refine ⟨_, _, h2, rfl, ?_, ⟨some (.int (r : Int)), y6, y7, y8, y9, y10, L', rfl, s2.weak (by omega), cu'⟩⟩
    unfold u__law_cells_2_1
    have ev : (eVar 2) [some (.ref 2), some (.ref n), some (.int (w : Int)), some (.int (hh : Int)), some (.lst (L.map trD)), some (.int (r : Int)), x6, x7, x8, x9, x10] h' = .ok (.int (w : Int)) h' := rfl
    exact (sFor_ok (rg_ok ev (by omega))).trans e
  obtain ⟨δ', h', e, ⟨x5, x6, x7, x8, x9, x10, L, rfl, s2, cu⟩⟩ := loopR1 (g := gSet 5) (body := u__law_cells_2_1) _ hh row
    [some (.ref 2), some (.ref n), some (.int (w : Int)), some (.int (hh : Int)), some (.lst (([] : List Tr).map trD)), none, none, none, none, none, none] h ⟨none, none, none, none, none, none, [], rfl, st, .nil⟩
  refine ⟨L, h', ?_, cu, s2.weak (by omega)⟩
  have s1 : u__law_cells_1 [some (.ref 2), some (.ref n), some (.int (w : Int)), some (.int (hh : Int)), none, none, none, none, none, none, none] h = .nx [some (.ref 2), some (.ref n), some (.int (w : Int)), some (.int (hh : Int)), some (.lst (([] : List Tr).map trD)), none, none, none, none, none, none] h := rfl
  have ev : (eVar 3) [some (.ref 2), some (.ref n), some (.int (w : Int)), some (.int (hh : Int)), some (.lst (([] : List Tr).map trD)), none, none, none, none, none, none] h = .ok (.int (hh : Int)) h := rfl
  have s3 : u__law_cells_2 [some (.ref 2), some (.ref n), some (.int (w : Int)), some (.int (hh : Int)), some (.lst (([] : List Tr).map trD)), none, none, none, none, none, none] h = .nx [some (.ref 2), some (.ref n), some (.int (w : Int)), some (.int (hh : Int)), some (.lst (L.map trD)), x5, x6, x7, x8, x9, x10] h' := by
    unfold u__law_cells_2
    exact (sFor_ok (rg_ok ev (by omega))).trans e
  have st : startD 11 [.ref 2, .ref n, .int (w : Int), .int (hh : Int)] = [some (.ref 2), some (.ref n), some (.int (w : Int)), some (.int (hh : Int)), none, none, none, none, none, none, none] := rfl
  unfold f__law_cells runD
  rw [st]
  unfold u__law_cells
  rw [seq_nx s1, seq_nx s3]
  rfl
end Lw
set_option autoImplicit false
set_option maxHeartbeats 8000000
set_option autoImplicit true
namespace Lw
open PySem PySem.Spec L2 L3
/-! triangles over the cells -/
def TrOk (A B : Pln) (t : Tr) (o : D) : Prop := (∀ h, clsOf h o = some 0) ∧ ∀ (i j : Int) (h : Hh), (-1000 ≤ i ∧ i ≤ 1000) → (-1000 ≤ j ∧ j ≤ 1000) →
  f_Triangle_covers [o, ptD (i, j)] h = .ok (.bl (cv t.1 t.2.1 t.2.2 (2 * i + 1) (2 * j + 1))) h ∧ (cv t.1 t.2.1 t.2.2 (2 * i + 1) (2 * j + 1) = true → f_Triangle_fragment_at [o, ptD (i, j)] h = .ok (dueV A B i j) h)
abbrev lDe (c0 : D) (x2 : Option D) (s w hh n : Nat) (A B : Pln) (k tr : Nat) (x10 x11 x12 x13 x14 x15 : Option D) : De :=
  [some c0, some (.ref 2), x2, some (.int (s : Int)), some (.int (w : Int)), some (.int (hh : Int)), some (.ref n), some (plsD A B), some (.int (k : Int)), some (.ref tr), x10, x11, x12, x13, x14, x15, none]
theorem eMake_ok {c na np : Nat} {sem : Sem3} {fa : FnA} {δ : De} {h h1 h2 : Hh} {xs : List D} {d : D} (a : fa δ h = .ok xs h1) (m : kMake c na np sem [] xs h1 = .ok d h2) : eMake c na np sem fa [] δ h = .ok d h2 := by
  unfold eMake; rw [a, bindOk, m]
theorem eProp_ok {c : Nat} {sem : Sem3} {fo : FnE} {δ : De} {h h1 h2 : Hh} {x d : D} (a : fo δ h = .ok x h1) (cl : clsOf h1 x = some c) (m : sem [x] h1 = .ok d h2) : eProp c 1 sem fo δ h = .ok d h2 := by
  unfold eProp
  rw [a, bindOk]
  unfold kProp
  rw [if_pos ⟨cl, rfl⟩, m]
  rfl
theorem facing_is {p q r : Cn} (h : Hh) : f_Triangle_facing [tri p q r] h = .ok (.int ((if 0 < det p q r then 1 else 0) - (if det p q r < 0 then 1 else 0))) h := by
  rw [tri_is]; exact facing_ok _ _ _ _ _ _ _ _ _ _ _ h
theorem append_ok {fo fa : FnE} {δ : De} {h h2 : Hh} {n : Nat} {ds : List D} {d : D} (a : fo δ h = .ok (.ref n) h2) (b : fa δ h2 = .ok d h2) (e : h2[n]? = some (.lst ds)) (l : ds.length ≤ 1000) : eM appendM fo (aCons fa aNil) δ h = .ok .non (h2.set n (.lst (ds ++ [d]))) := by
  have m : mutL h2 (.ref n) = some (n, ds) := by unfold mutL; dsimp only; rw [e]
  have q : appendM (.ref n) [d] h2 = .ok .non (h2.set n (.lst (ds ++ [d]))) := by
    unfold appendM
    rw [m]
    dsimp only
    rw [if_pos (by omega)]
  unfold eM
  rw [a, bindOk]
  unfold kM
  rw [aC_ok b aN_ok, bindOk]
  have z : asL h2 (.ref n) = some ds := by unfold asL; dsimp only; rw [e]
  first
    | exact q
    | (rw [z]; exact q)
theorem tri_end {X Y Z : Cn} {k tr : Nat} (o1 : X.Ok) (o2 : Y.Ok) (o3 : Z.Ok) (hk : (k = 0 ∧ 0 < det X Y Z) ∨ (k = 1 ∧ det X Y Z < 0)) {h : Hh} {N : Nat} {os : List D} {rest : List (Nat × O)} (nn : ∀ p ∈ rest, p.1 ≠ tr) (l : os.length ≤ 100)
    (st : St h N ((tr, .lst os) :: rest)) (c0 : D) (x2 : Option D) (s w hh n : Nat) (A B : Pln) (x10 x12 x13 x14 x15 : Option D) :
    ∃ h', (sSeq u_law_2_4_3 (sSeq u_law_2_4_4 u_law_2_4_5)) (lDe c0 x2 s w hh n A B k tr x10 (some (.lst [X.d, Y.d, Z.d])) x12 x13 x14 x15) h = .nx (lDe c0 x2 s w hh n A B k tr x10 (some (.lst [X.d, Y.d, Z.d])) (some (tri X Y Z)) x13 x14 x15) h' ∧ St h' N ((tr, .lst (os ++ [tri X Y Z])) :: rest) := by
  have s1 := st.app [.dead]
  have g := s1.get List.mem_cons_self
  have a3 : (aCons (eBin ixA (eVar 11) (eC (.int 0))) (aCons (eBin ixA (eVar 11) (eC (.int 1))) (aCons (eBin ixA (eVar 11) (eC (.int 2))) aNil))) (lDe c0 x2 s w hh n A B k tr x10 (some (.lst [X.d, Y.d, Z.d])) x12 x13 x14 x15) h = .ok [X.d, Y.d, Z.d] h :=
    aC_ok ((eBin_ok (x := .lst [X.d, Y.d, Z.d]) rfl rfl).trans lst0) (aC_ok ((eBin_ok (x := .lst [X.d, Y.d, Z.d]) rfl rfl).trans lst1) (aC_ok ((eBin_ok (x := .lst [X.d, Y.d, Z.d]) rfl rfl).trans lst2) aN_ok))
  have mk := eMake_ok a3 (tri_ok o1 o2 o3)
  have e3 : u_law_2_4_3 (lDe c0 x2 s w hh n A B k tr x10 (some (.lst [X.d, Y.d, Z.d])) x12 x13 x14 x15) h = .nx (lDe c0 x2 s w hh n A B k tr x10 (some (.lst [X.d, Y.d, Z.d])) (some (tri X Y Z)) x13 x14 x15) (h ++ [.dead]) := by
    unfold u_law_2_4_3
    exact sSet_ok mk
  have fc := facing_is (p := X) (q := Y) (r := Z) (h ++ [.dead])
  have cl : clsOf (h ++ [.dead]) (tri X Y Z) = some 0 := rfl
  generalize tri X Y Z = T at *
  have vT : eVar 12 (lDe c0 x2 s w hh n A B k tr x10 (some (.lst [X.d, Y.d, Z.d])) (some T) x13 x14 x15) (h ++ [.dead]) = .ok T (h ++ [.dead]) := rfl
  have pf := eProp_ok vT cl fc
  have ls : (eLst (aCons (eC (.int 1)) (aCons (eUn negD (eC (.int 1))) aNil))) (lDe c0 x2 s w hh n A B k tr x10 (some (.lst [X.d, Y.d, Z.d])) (some T) x13 x14 x15) (h ++ [.dead]) = .ok (.lst [.int 1, .int (-1)]) (h ++ [.dead]) := rfl
  have e4 : u_law_2_4_4 (lDe c0 x2 s w hh n A B k tr x10 (some (.lst [X.d, Y.d, Z.d])) (some T) x13 x14 x15) (h ++ [.dead]) = .nx (lDe c0 x2 s w hh n A B k tr x10 (some (.lst [X.d, Y.d, Z.d])) (some T) x13 x14 x15) (h ++ [.dead]) := by
    unfold u_law_2_4_4
    rcases hk with ⟨rfl, hd⟩ | ⟨rfl, hd⟩
    · rw [if_pos hd, if_neg (by omega)] at pf
      exact if_nx (tI_ne pf ((eBin_ok ls rfl).trans lst0))
    · rw [if_neg (by omega), if_pos hd] at pf
      exact if_nx (tI_ne pf ((eBin_ok ls rfl).trans lst1))
  have e5 := append_ok (fo := eVar 9) (fa := eVar 12) (δ := lDe c0 x2 s w hh n A B k tr x10 (some (.lst [X.d, Y.d, Z.d])) (some T) x13 x14 x15) rfl vT g (by omega)
  refine ⟨_, (seq_nx e3).trans ((seq_nx e4).trans ?_), s1.put nn _⟩
  unfold u_law_2_4_5
  exact sExpr_ok e5
theorem trOk_of {A B : Pln} {t : Tr} (X Y Z : Cn) (o1 : X.Ok) (o2 : Y.Ok) (o3 : Z.Ok) (q : ∀ i j, cov X Y Z i j = cv t.1 t.2.1 t.2.2 (2 * i + 1) (2 * j + 1)) (q2 : ∀ i j, cv t.1 t.2.1 t.2.2 (2 * i + 1) (2 * j + 1) = true → frag X Y Z i j = dueV A B i j) : TrOk A B t (tri X Y Z) := by
  refine ⟨fun _ => rfl, fun i j h hi hj => ⟨?_, fun c => ?_⟩⟩
  · rw [← q]; exact cov_ok hi hj
  · rw [← q2 i j c]; exact frag_ok o1 o2 o3 hi hj
theorem tri_step {A B : Pln} (la : Lim A) (lb : Lim B) {t : Tr} (n1 : Nod t.1) (n2 : Nod t.2.1) (n3 : Nod t.2.2) (hd : 0 < dt t.1 t.2.1 t.2.2) {k tr : Nat} (hk : k < 2) {h : Hh} {N : Nat} {os : List D} {rest : List (Nat × O)} (nn : ∀ p ∈ rest, p.1 ≠ tr) (l : os.length ≤ 100)
    (st : St h (N + 3) ((tr, .lst os) :: rest)) (c0 : D) (x2 : Option D) (s w hh n : Nat) (x11 x12 x13 x14 x15 : Option D) :
    ∃ y11 y12 o h', (sSeq u_law_2_4_1 (sSeq u_law_2_4_2 (sSeq u_law_2_4_3 (sSeq u_law_2_4_4 u_law_2_4_5)))) (lDe c0 x2 s w hh n A B k tr (some (trD t)) x11 x12 x13 x14 x15) h = .nx (lDe c0 x2 s w hh n A B k tr (some (trD t)) y11 y12 x13 x14 x15) h' ∧
      St h' N ((tr, .lst (os ++ [o])) :: rest) ∧ TrOk A B t o := by
  obtain ⟨p, q, r⟩ := t
  dsimp only at n1 n2 n3 hd
  obtain ⟨a, h1, f1, ka, s1⟩ := corner10 (N := N + 2) (p := p) la lb st
  obtain ⟨b, h2, f2, kb, s2⟩ := corner10 (N := N + 1) (p := q) la lb s1
  obtain ⟨c, h3, f3, kc, s3⟩ := corner10 (N := N) (p := r) la lb s2
  have o1 := c4_ok la lb n1 ka
  have o2 := c4_ok la lb n2 kb
  have o3 := c4_ok la lb n3 kc
  have cc : ∀ i j, cov (sc a (c4 A B p)) (sc b (c4 A B q)) (sc c (c4 A B r)) i j = cv p q r (2 * i + 1) (2 * j + 1) := fun i j => (cov_sc3 (by omega) (by omega) (by omega) _ _ _ i j).trans (cov4 hd i j)
  have ff : ∀ i j, cv p q r (2 * i + 1) (2 * j + 1) = true → frag (sc a (c4 A B p)) (sc b (c4 A B q)) (sc c (c4 A B r)) i j = dueV A B i j := fun i j e => (frag_sc3 (by omega) (by omega) (by omega) _ _ _ i j).trans (frag4 hd e)
  have dd : 0 < det (sc a (c4 A B p)) (sc b (c4 A B q)) (sc c (c4 A B r)) := by
    rw [det_sc3, det4]
    exact Int.mul_pos (by omega) (Int.mul_pos (by omega) (Int.mul_pos (by omega) (by omega)))
  generalize sc a (c4 A B p) = X at *
  generalize sc b (c4 A B q) = Y at *
  generalize sc c (c4 A B r) = Z at *
  have call : ∀ (p : Pt) (h h' : Hh) (d : D), f__law_corner [.ref 2, ptD p, plsD A B] h = .ok d h' → (eCall 3 f__law_corner (aCons (eVar 1) (aCons (eVar 16) (aCons (eVar 7) aNil))) []) ((wipeD (lDe c0 x2 s w hh n A B k tr (some (trD (p, q, r))) x11 x12 x13 x14 x15) [16]).set 16 (some (ptD p))) h = .ok d h' := fun p h h' d e =>
    (eCall_ok (xs := [.ref 2, ptD p, plsD A B]) (aC_ok rfl (aC_ok rfl (aC_ok rfl aN_ok))) rfl).trans e
  have lc : lcs (gSet 16) tYes3 (eCall 3 f__law_corner (aCons (eVar 1) (aCons (eVar 16) (aCons (eVar 7) aNil))) []) (wipeD (lDe c0 x2 s w hh n A B k tr (some (trD (p, q, r))) x11 x12 x13 x14 x15) [16]) [ptD p, ptD q, ptD r] h = .ok [X.d, Y.d, Z.d] h3 :=
    lc_y2 rfl ((eCall_ok (xs := [.ref 2, ptD p, plsD A B]) (aC_ok rfl (aC_ok rfl (aC_ok rfl aN_ok))) rfl).trans f1) (lc_y2 rfl ((eCall_ok (xs := [.ref 2, ptD q, plsD A B]) (aC_ok rfl (aC_ok rfl (aC_ok rfl aN_ok))) rfl).trans f2) (lc_y2 rfl ((eCall_ok (xs := [.ref 2, ptD r, plsD A B]) (aC_ok rfl (aC_ok rfl (aC_ok rfl aN_ok))) rfl).trans f3) rfl))
  have e1 : u_law_2_4_1 (lDe c0 x2 s w hh n A B k tr (some (trD (p, q, r))) x11 x12 x13 x14 x15) h = .nx (lDe c0 x2 s w hh n A B k tr (some (trD (p, q, r))) (some (.lst [X.d, Y.d, Z.d])) x12 x13 x14 x15) h3 := by
    unfold u_law_2_4_1
    exact sSet_ok (lcW_okH (h1 := h) rfl lc (by simp))
  have tt : ∀ x, eTest (eBin eqD (eVar 8) (eC (.int 1))) (lDe c0 x2 s w hh n A B k tr (some (trD (p, q, r))) x x12 x13 x14 x15) h3 = .ok (decide ((k : Int) = 1)) h3 := fun x => tI_eq rfl rfl
  have hk' : k = 0 ∨ k = 1 := by omega
  rcases hk' with rfl | rfl
  · obtain ⟨h', e, s'⟩ := tri_end (k := 0) o1 o2 o3 (.inl ⟨rfl, dd⟩) nn l s3 c0 x2 s w hh n A B (some (trD (p, q, r))) x12 x13 x14 x15
    have e2 : u_law_2_4_2 (lDe c0 x2 s w hh n A B 0 tr (some (trD (p, q, r))) (some (.lst [X.d, Y.d, Z.d])) x12 x13 x14 x15) h3 = .nx (lDe c0 x2 s w hh n A B 0 tr (some (trD (p, q, r))) (some (.lst [X.d, Y.d, Z.d])) x12 x13 x14 x15) h3 := by
      unfold u_law_2_4_2
      exact if_nx (tt _)
    exact ⟨_, _, _, h', (seq_nx e1).trans ((seq_nx e2).trans e), s', trOk_of X Y Z o1 o2 o3 cc ff⟩
  · obtain ⟨h', e, s'⟩ := tri_end (k := 1) (X := X) (Y := Z) (Z := Y) o1 o3 o2 (.inr ⟨rfl, by rw [det13]; omega⟩) nn l s3 c0 x2 s w hh n A B (some (trD (p, q, r))) x12 x13 x14 x15
    have e2 : u_law_2_4_2 (lDe c0 x2 s w hh n A B 1 tr (some (trD (p, q, r))) (some (.lst [X.d, Y.d, Z.d])) x12 x13 x14 x15) h3 = .nx (lDe c0 x2 s w hh n A B 1 tr (some (trD (p, q, r))) (some (.lst [X.d, Z.d, Y.d])) x12 x13 x14 x15) h3 := by
      unfold u_law_2_4_2
      rw [sIf_t (tt _)]
      unfold u_law_2_4_2_a_1
      exact sSet_ok (eLst_ok (aC_ok ((eBin_ok (x := .lst [X.d, Y.d, Z.d]) rfl rfl).trans lst0) (aC_ok ((eBin_ok (x := .lst [X.d, Y.d, Z.d]) rfl rfl).trans lst2) (aC_ok ((eBin_ok (x := .lst [X.d, Y.d, Z.d]) rfl rfl).trans lst1) aN_ok))) (by simp))
    exact ⟨_, _, _, h', (seq_nx e1).trans ((seq_nx e2).trans e), s', trOk_of X Z Y o1 o3 o2 (fun i j => (sw13 X Y Z i j).1.trans (cc i j)) fun i j z => (sw13 X Y Z i j).2.trans (ff i j z)⟩
end Lw
set_option autoImplicit false
set_option maxHeartbeats 8000000
set_option autoImplicit true
namespace Lw
open PySem PySem.Spec L2 L3
/-! all tried -/
theorem chk1 : ([1, 2, 3].all fun w => [1, 2].all fun hh => [1, 2, 3].all fun s => if s = 3 ∧ hh = 2 ∧ 2 ≤ w then true else checkF (nodeC s w hh 0 0 0 0) s w hh) = true := by decide +kernel
theorem chk2 : (dl.all fun x => dl.all fun y => checkF (nodeC 3 2 2 x y 0 0) 3 2 2) = true := by decide +kernel
theorem chk3 (x : Int) (hx : x ∈ dl) : (dl.all fun y => dl.all fun z => dl.all fun t => checkF (nodeC 3 3 2 x y z t) 3 3 2) = true := by
  simp only [dl, List.mem_cons, List.not_mem_nil, or_false] at hx
  rcases hx with rfl | rfl | rfl <;> decide +kernel
end Lw
set_option autoImplicit false
set_option maxHeartbeats 8000000
set_option autoImplicit true
namespace Lw
open PySem PySem.Spec L2 L3
/-! the cover -/
theorem dl_of {d : Int} (h : -1 ≤ d ∧ d ≤ 1) : d ∈ dl := by
  have : d = -1 ∨ d = 0 ∨ d = 1 := by omega
  rcases this with rfl | rfl | rfl <;> decide
theorem canon {s w hh : Nat} (hs : 1 ≤ s ∧ s ≤ 3) (hw : 1 ≤ w ∧ w ≤ 3) (hhh : 1 ≤ hh ∧ hh ≤ 2) {f : Nat → Nat → Pt} (ok : ∀ c r, c ≤ w → r ≤ hh → NOk s w hh f c r) :
    ∃ g : Nat → Nat → Pt, (∀ c r, c ≤ w → r ≤ hh → f c r = g c r) ∧ checkF g s w hh = true := by
  by_cases q : s = 3 ∧ hh = 2 ∧ 2 ≤ w
  · obtain ⟨rfl, rfl, w2⟩ := q
    by_cases q3 : w = 2
    · subst q3
      obtain ⟨x, y, e, bx, by_, _⟩ := ok 1 1 (by omega) (by omega)
      refine ⟨nodeC 3 2 2 x y 0 0, fun c r hc hr => ?_, List.all_eq_true.mp (List.all_eq_true.mp chk2 x (dl_of bx)) y (dl_of by_)⟩
      unfold nodeC
      by_cases i : 3 = 3 ∧ (0 < r ∧ r < 2) ∧ (0 < c ∧ c < 2)
      · have ec : c = 1 := by omega
        have er : r = 1 := by omega
        subst ec; subst er
        rw [if_pos i, if_pos rfl, e]
      · rw [if_neg i]
        obtain ⟨dx, dy, e, _, _, z⟩ := ok c r hc hr
        obtain ⟨rfl, rfl⟩ := z i
        rw [e, Int.add_zero, Int.add_zero]
    · have q3 : w = 3 := by omega
      subst q3
      obtain ⟨x, y, e, bx, by_, _⟩ := ok 1 1 (by omega) (by omega)
      obtain ⟨x2, y2, e2, bx2, by2, _⟩ := ok 2 1 (by omega) (by omega)
      refine ⟨nodeC 3 3 2 x y x2 y2, fun c r hc hr => ?_, List.all_eq_true.mp (List.all_eq_true.mp (List.all_eq_true.mp (chk3 x (dl_of bx)) y (dl_of by_)) x2 (dl_of bx2)) y2 (dl_of by2)⟩
      unfold nodeC
      by_cases i : 3 = 3 ∧ (0 < r ∧ r < 2) ∧ (0 < c ∧ c < 3)
      · have er : r = 1 := by omega
        subst er
        by_cases ec : c = 1
        · subst ec
          rw [if_pos i, if_pos rfl, e]
        · have ec2 : c = 2 := by omega
          subst ec2
          rw [if_pos i, if_neg (by decide), e2]
      · rw [if_neg i]
        obtain ⟨dx, dy, e, _, _, z⟩ := ok c r hc hr
        obtain ⟨rfl, rfl⟩ := z i
        rw [e, Int.add_zero, Int.add_zero]
  · have k := List.all_eq_true.mp (List.all_eq_true.mp (List.all_eq_true.mp chk1 w (by simp; omega)) hh (by simp; omega)) s (by simp; omega)
    rw [if_neg q] at k
    refine ⟨nodeC s w hh 0 0 0 0, fun c r hc hr => ?_, k⟩
    have i : ¬ (s = 3 ∧ (0 < r ∧ r < hh) ∧ (0 < c ∧ c < w)) := by omega
    unfold nodeC
    rw [if_neg i]
    obtain ⟨dx, dy, e, _, _, z⟩ := ok c r hc hr
    obtain ⟨rfl, rfl⟩ := z i
    rw [e, Int.add_zero, Int.add_zero]
theorem Cut.congr {f g : Nat → Nat → Pt} {l : List (Nat × Nat)} {L : List Tr} (c : Cut f l L) (q : ∀ p ∈ l, ∀ b, cutT f p b = cutT g p b) : Cut g l L := by
  induction c with
  | nil => exact .nil
  | snoc p t _ ih =>
    rw [q p (by simp) t]
    exact (ih fun p hp => q p (by simp [hp])).snoc p t
theorem Cut.all {f : Nat → Nat → Pt} {R : Tr → Prop} {l : List (Nat × Nat)} {L : List Tr} (c : Cut f l L) (q : ∀ p ∈ l, ∀ b, ∀ t ∈ cutT f p b, R t) : ∀ t ∈ L, R t := by
  induction c with
  | nil => intro t m; cases m
  | snoc p b _ ih =>
    intro t m
    rcases List.mem_append.mp m with m | m
    · exact ih (fun p hp => q p (by simp [hp])) t m
    · exact q p (by simp) b t m
theorem sumN_app : ∀ (a b : List Nat), sumN (a ++ b) = sumN a + sumN b
  | [], b => (Nat.zero_add _).symm
  | x :: a, b => by
    show x + sumN (a ++ b) = x + sumN a + sumN b
    rw [sumN_app a b, Nat.add_assoc]
def cvT (u v : Int) (t : Tr) : Bool := cv t.1 t.2.1 t.2.2 u v
theorem filt2 (p : Tr → Bool) (a b : Tr) : ([a, b].filter p).length = b2n (p a) + b2n (p b) := by
  cases e1 : p a <;> cases e2 : p b <;> simp [e1, e2, b2n]
theorem cutT_n (f : Nat → Nat → Pt) (p : Nat × Nat) (t : Bool) (u v : Int) : ((cutT f p t).filter (cvT u v)).length = cnC f t p u v := by
  cases t
  · exact filt2 _ _ _
  · exact filt2 _ _ _
theorem Cut.count {f : Nat → Nat → Pt} {l : List (Nat × Nat)} {L : List Tr} {u v : Int} (c : Cut f l L) (q : ∀ p ∈ l, cnC f true p u v = cnC f false p u v) : (L.filter (cvT u v)).length = sumN (l.map fun p => cnC f true p u v) := by
  induction c with
  | nil => rfl
  | snoc p b _ ih =>
    rw [List.filter_append, List.length_append, ih fun p hp => q p (by simp [hp]), cutT_n, List.map_append, sumN_app]
    congr 1
    have := q p (by simp)
    cases b
    · exact this.symm
    · rfl
theorem grid_is {w hh : Nat} (hw : 1 ≤ w ∧ w ≤ 3) (hhh : 1 ≤ hh ∧ hh ≤ 2) : gridC w hh = cellsC w hh := by
  have a : w = 1 ∨ w = 2 ∨ w = 3 := by omega
  have b : hh = 1 ∨ hh = 2 := by omega
  rcases a with rfl | rfl | rfl <;> rcases b with rfl | rfl <;> rfl
theorem cells_m {w hh : Nat} {p : Nat × Nat} (m : p ∈ cellsC w hh) : p.1 < w ∧ p.2 < hh := by
  unfold cellsC at m
  obtain ⟨r, hr, m⟩ := List.mem_flatMap.mp m
  obtain ⟨c, hc, rfl⟩ := List.mem_map.mp m
  exact ⟨List.mem_range.mp hc, List.mem_range.mp hr⟩
theorem rgI_m {n : Nat} {i : Int} (h : -1 ≤ i ∧ i ≤ n) : i ∈ rgI n := by
  unfold rgI
  exact List.mem_map.mpr ⟨(i + 1).toNat, List.mem_range.mpr (by omega), by omega⟩
theorem cover {s w hh : Nat} (hs : 1 ≤ s ∧ s ≤ 3) (hw : 1 ≤ w ∧ w ≤ 3) (hhh : 1 ≤ hh ∧ hh ≤ 2) {f : Nat → Nat → Pt} (ok : ∀ c r, c ≤ w → r ≤ hh → NOk s w hh f c r) {L : List Tr} (cu : Cut f (gridC w hh) L) :
    (∀ t ∈ L, 0 < dt t.1 t.2.1 t.2.2 ∧ Nod t.1 ∧ Nod t.2.1 ∧ Nod t.2.2) ∧ ∀ i j : Int, -1 ≤ i ∧ i ≤ ((w * s : Nat) : Int) → -1 ≤ j ∧ j ≤ ((hh * s : Nat) : Int) → (L.filter (cvT (2 * i + 1) (2 * j + 1))).length = b2n (insB s w hh i j) := by
  rw [grid_is hw hhh] at cu
  have nod : ∀ c r, c ≤ w → r ≤ hh → Nod (f c r) := fun c r hc hr => by
    obtain ⟨dx, dy, e, bx, by_, _⟩ := ok c r hc hr
    rw [e]
    have a : s * c ≤ 3 * 3 := Nat.mul_le_mul hs.2 (by omega)
    have b : s * r ≤ 3 * 2 := Nat.mul_le_mul hs.2 (by omega)
    have a' : 2 * (s : Int) * c = 2 * ((s * c : Nat) : Int) := by push_cast; rw [Int.mul_assoc]
    have b' : 2 * (s : Int) * r = 2 * ((s * r : Nat) : Int) := by push_cast; rw [Int.mul_assoc]
    refine ⟨?_, ?_⟩
    · show -1 ≤ 2 * (s : Int) * c + dx ∧ 2 * (s : Int) * c + dx ≤ 19; omega
    · show -1 ≤ 2 * (s : Int) * r + dy ∧ 2 * (s : Int) * r + dy ≤ 13; omega
  have ns : ∀ t ∈ L, Nod t.1 ∧ Nod t.2.1 ∧ Nod t.2.2 := cu.all fun p hp b t m => by
    have k := cells_m hp
    have n1 := nod p.1 p.2 (by omega) (by omega)
    have n2 := nod (p.1 + 1) p.2 (by omega) (by omega)
    have n3 := nod (p.1 + 1) (p.2 + 1) (by omega) (by omega)
    have n4 := nod p.1 (p.2 + 1) (by omega) (by omega)
    cases b
    · have m : t ∈ [(f p.1 p.2, f (p.1 + 1) p.2, f p.1 (p.2 + 1)), (f (p.1 + 1) p.2, f (p.1 + 1) (p.2 + 1), f p.1 (p.2 + 1))] := m
      simp only [List.mem_cons, List.not_mem_nil, or_false] at m
      rcases m with rfl | rfl
      · exact ⟨n1, n2, n4⟩
      · exact ⟨n2, n3, n4⟩
    · have m : t ∈ [(f p.1 p.2, f (p.1 + 1) p.2, f (p.1 + 1) (p.2 + 1)), (f p.1 p.2, f (p.1 + 1) (p.2 + 1), f p.1 (p.2 + 1))] := m
      simp only [List.mem_cons, List.not_mem_nil, or_false] at m
      rcases m with rfl | rfl
      · exact ⟨n1, n2, n3⟩
      · exact ⟨n1, n3, n4⟩
  obtain ⟨g, ag, ck⟩ := canon hs hw hhh ok
  have cg := cu.congr (g := g) fun p hp b => by
    have k := cells_m hp
    unfold cutT
    rw [ag p.1 p.2 (by omega) (by omega), ag (p.1 + 1) p.2 (by omega) (by omega), ag (p.1 + 1) (p.2 + 1) (by omega) (by omega), ag p.1 (p.2 + 1) (by omega) (by omega)]
  unfold checkF at ck
  obtain ⟨c1, c2⟩ := Bool.and_eq_true_iff.mp ck
  refine ⟨fun t m => ⟨?_, ns t m⟩, fun i j hi hj => ?_⟩
  · refine cg.all (R := fun t => 0 < dt t.1 t.2.1 t.2.2) (fun p hp b t m => ?_) t m
    have k := List.all_eq_true.mp c1 p hp
    obtain ⟨k1, k2⟩ := Bool.and_eq_true_iff.mp k
    obtain ⟨k11, k12⟩ := Bool.and_eq_true_iff.mp k1
    obtain ⟨k21, k22⟩ := Bool.and_eq_true_iff.mp k2
    cases b
    · have m : t ∈ [(g p.1 p.2, g (p.1 + 1) p.2, g p.1 (p.2 + 1)), (g (p.1 + 1) p.2, g (p.1 + 1) (p.2 + 1), g p.1 (p.2 + 1))] := m
      simp only [List.mem_cons, List.not_mem_nil, or_false] at m
      rcases m with rfl | rfl
      · exact dtB_pos k21
      · exact dtB_pos k22
    · have m : t ∈ [(g p.1 p.2, g (p.1 + 1) p.2, g (p.1 + 1) (p.2 + 1)), (g p.1 p.2, g (p.1 + 1) (p.2 + 1), g p.1 (p.2 + 1))] := m
      simp only [List.mem_cons, List.not_mem_nil, or_false] at m
      rcases m with rfl | rfl
      · exact dtB_pos k11
      · exact dtB_pos k12
  · have k := List.all_eq_true.mp (List.all_eq_true.mp c2 j (rgI_m hj)) i (rgI_m hi)
    obtain ⟨k1, k2⟩ := Bool.and_eq_true_iff.mp k
    rw [cg.count fun p hp => Nat.eq_of_beq_eq_true (List.all_eq_true.mp k1 p hp)]
    exact Nat.eq_of_beq_eq_true k2
end Lw
set_option autoImplicit false
set_option maxHeartbeats 8000000
set_option autoImplicit true
namespace Lw
open PySem PySem.Spec L2 L3
/-! right -/
theorem lc_hp {g : FnG} {t : FnT} {e : FnE} {δ : De} {h : Hh} {n : Nat} {α : Type} (a : α → D) (p : α → Bool) {ps : List α} (q : h[n]? = some (.lst (ps.map a))) (l : ps.length ≤ 1000) (st : ∀ x ∈ ps, ∃ δ1, g (a x) δ = some δ1 ∧ t δ1 h = .ok (p x) h ∧ e δ1 h = .ok (a x) h) :
    ∀ (k i : Nat), i + k = ps.length → lcF g t e δ (.hp n) i h = .ok (((ps.drop i).filter p).map a) h
  | 0, i, hi => by
    rw [lcFN (look_hp q) i (by rw [List.length_map]; omega) (by omega), List.drop_eq_nil_of_le (by omega)]
    rfl
  | k + 1, i, hi => by
    have hlt : i < ps.length := by omega
    have ei : (ps.map a)[i]? = some (a ps[i]) := by rw [List.getElem?_map, List.getElem?_eq_getElem hlt]; rfl
    obtain ⟨δ1, e1, e2, e3⟩ := st ps[i] (List.getElem_mem hlt)
    have ih := lc_hp (g := g) (t := t) (e := e) (δ := δ) a p q l st k (i + 1) (by omega)
    rw [lcFC (look_hp q) i ei (by omega), e1, lcAS, e2, List.drop_eq_getElem_cons hlt]
    cases c : p ps[i] with
    | true =>
      rw [lcBT, e3, lcCO, ih, List.filter_cons_of_pos c]
      rfl
    | false =>
      rw [lcBF, ih, List.filter_cons_of_neg (by simp [c])]
abbrev rDe (tr : Nat) (A B : Pln) (i j : Int) (b : Bool) (x4 x5 : Option D) : De := [some (.ref tr), some (plsD A B), some (ptD (i, j)), some (.bl b), x4, x5]
theorem right_ok {A B : Pln} (la : Lim A) (lb : Lim B) {ps : List (Tr × D)} (ok : ∀ x ∈ ps, TrOk A B x.1 x.2) (l : ps.length ≤ 100) {h : Hh} {tr : Nat} (q : h[tr]? = some (.lst (ps.map (·.2)))) {i j : Int} (hi : -1000 ≤ i ∧ i ≤ 1000) (hj : -1000 ≤ j ∧ j ≤ 1000) (b : Bool)
    (cn : (ps.filter fun x => cvT (2 * i + 1) (2 * j + 1) x.1).length = b2n b) : f__law_right [.ref tr, plsD A B, ptD (i, j), .bl b] h = .ok (.bl true) h := by
  have w : wSeq (eVar 0) (rDe tr A B i j b none none) h = .ok (.hp tr) h := by
    show (match h[tr]? with
      | some (.lst _) => R.ok (Wk.hp tr) h
      | _ => .stk) = _
    rw [q]
  have lc := lc_hp (g := gSet 5) (t := eTest (eMeth 0 2 f_Triangle_covers (eVar 5) (aCons (eVar 2) aNil) [])) (e := eVar 5) (δ := wipeD (rDe tr A B i j b none none) [5]) (fun x : Tr × D => x.2) (fun x => cvT (2 * i + 1) (2 * j + 1) x.1) q (by omega) (fun x m => by
    obtain ⟨cl, o⟩ := ok x m
    exact ⟨[some (.ref tr), some (plsD A B), some (ptD (i, j)), some (.bl b), none, some x.2], rfl, eTest_ok ((eMeth_ok (x := x.2) (xs := [ptD (i, j)]) rfl (cl h) (aC_ok rfl aN_ok) rfl).trans (o i j h hi hj).1), rfl⟩) ps.length 0 (by omega)
  rw [List.drop_zero] at lc
  have e1 : u__law_right_1 (rDe tr A B i j b none none) h = .nx (rDe tr A B i j b (some (.lst ((ps.filter fun x => cvT (2 * i + 1) (2 * j + 1) x.1).map (·.2)))) none) h := by
    unfold u__law_right_1
    refine sSet_ok ?_
    unfold eLcW
    rw [w, bindOk]
    show (lcF _ _ _ _ (.hp tr) 0 h).bind (kLst false) = _
    rw [lc, bindOk, kL_ok (by rw [List.length_map, cn]; cases b <;> decide)]
  have st : startD 6 [.ref tr, plsD A B, ptD (i, j), .bl b] = rDe tr A B i j b none none := rfl
  have nb : ∀ h, intB [.bl b] h = .ok (.int ((b2n b : Nat) : Int)) h := fun h => by cases b <;> rfl
  have e2 : u__law_right_2 (rDe tr A B i j b (some (.lst ((ps.filter fun x => cvT (2 * i + 1) (2 * j + 1) x.1).map (·.2)))) none) h = .nx (rDe tr A B i j b (some (.lst ((ps.filter fun x => cvT (2 * i + 1) (2 * j + 1) x.1).map (·.2)))) none) h := by
    unfold u__law_right_2
    refine if_nx ?_
    have z := tI_ne (δ := rDe tr A B i j b (some (.lst ((ps.filter fun x => cvT (2 * i + 1) (2 * j + 1) x.1).map (·.2)))) none) (h := h) ((eB_ok (g := lenB) (fa := aCons (eVar 4) aNil) (aC_ok rfl aN_ok)).trans (lenLst _ h)) ((eB_ok (g := intB) (fa := aCons (eVar 3) aNil) (aC_ok rfl aN_ok)).trans (nb h))
    rw [List.length_map, cn, decide_eq_true rfl] at z
    exact z
  unfold f__law_right runD
  rw [st]
  unfold u__law_right
  rw [seq_nx e1, seq_nx e2]
  refine end_rt ?_
  unfold u__law_right_3
  refine sRet_ok ?_
  cases b with
  | false => exact eOr_t rfl
  | true =>
    have l1 : (ps.filter fun x => cvT (2 * i + 1) (2 * j + 1) x.1).length = 1 := cn
    obtain ⟨x, ex⟩ := List.length_eq_one_iff.mp l1
    have mx : x ∈ ps.filter fun x => cvT (2 * i + 1) (2 * j + 1) x.1 := by rw [ex]; exact List.mem_singleton.mpr rfl
    obtain ⟨m1, m2⟩ := List.mem_filter.mp mx
    obtain ⟨cl, o⟩ := ok x m1
    have fr := (o i j h hi hj).2 m2
    obtain ⟨s, rp⟩ := repr_due A B i j
    rw [ex]
    refine (eOr_f (h1 := h) rfl).trans ?_
    have o1 : (eBin ixA (eVar 4) (eC (.int 0))) (rDe tr A B i j true (some (.lst ([x].map (·.2)))) none) h = .ok x.2 h := (eBin_ok (x := .lst [x.2]) rfl rfl).trans lst0
    have r1 := (eB_ok (g := reprB) (aC_ok ((eMeth_ok (np := 2) (sem := f_Triangle_fragment_at) (fa := aCons (eVar 2) aNil) (xs := [ptD (i, j)]) o1 (cl h) (aC_ok rfl aN_ok) rfl).trans fr) aN_ok)).trans (rp h)
    have r2 := (eB_ok (g := reprB) (aC_ok ((eCall_ok (np := 2) (sem := f__law_due) (fa := aCons (eVar 1) (aCons (eVar 2) aNil)) (δ := rDe tr A B i j true (some (.lst ([x].map (·.2)))) none) (xs := [plsD A B, ptD (i, j)]) (aC_ok rfl (aC_ok rfl aN_ok)) rfl).trans (due_ok la lb i j h)) aN_ok)).trans (rp h)
    exact (eBin_ok r1 r2).trans (eqSame rfl rfl)
end Lw
set_option autoImplicit false
set_option maxHeartbeats 8000000
set_option autoImplicit true
namespace Lw
open PySem PySem.Spec L2 L3
/-! the law -/
theorem ins_ok (c0 : D) (x2 : Option D) {s w hh n : Nat} (hs : s ≤ 3) (hw : w ≤ 3) (hhh : hh ≤ 2) (A B : Pln) (k tr : Nat) (x10 x11 x12 x15 : Option D) (i j : Int) (h : Hh) : u_law_2_5_1_1 (lDe c0 x2 s w hh n A B k tr x10 x11 x12 (some (.int j)) (some (.int i)) x15) h =
    .nx (lDe c0 x2 s w hh n A B k tr x10 x11 x12 (some (.int j)) (some (.int i)) (some (.bl (insB s w hh i j)))) h := by
  have m1 : mulD (.int (w : Int)) (.int (s : Int)) h = .ok (.int (w * s)) h := mulL h (by omega) (by omega)
  have m2 : mulD (.int (hh : Int)) (.int (s : Int)) h = .ok (.int (hh * s)) h := mulL h (by omega) (by omega)
  have c : ∀ (v : Nat) (fc : FnE) (x z : Int) (δ : De), eVar v δ h = .ok (.int x) h → fc δ h = .ok (.int z) h → eChain leD ltD (eC (.int 0)) (eVar v) fc δ h = .ok (.bl (decide (0 ≤ x) && decide (x < z))) h := fun v fc x z δ e1 e2 => by
    have e0 : eC (.int 0) δ h = .ok (.int 0) h := rfl
    unfold eChain
    rw [e0, bindOk, e1, bindOk, leI, bindOk]
    by_cases q : 0 ≤ x
    · rw [decide_eq_true q]
      dsimp only
      rw [if_pos rfl, e2, bindOk, ltI]
      rfl
    · rw [decide_eq_false q]
      dsimp only
      rw [if_neg Bool.false_ne_true]
      rfl
  have a1 := c 14 (eBin mulD (eVar 4) (eVar 3)) i _ (lDe c0 x2 s w hh n A B k tr x10 x11 x12 (some (.int j)) (some (.int i)) x15) rfl ((eBin_ok rfl rfl).trans m1)
  have a2 := c 13 (eBin mulD (eVar 5) (eVar 3)) j _ (lDe c0 x2 s w hh n A B k tr x10 x11 x12 (some (.int j)) (some (.int i)) x15) rfl ((eBin_ok rfl rfl).trans m2)
  unfold u_law_2_5_1_1
  refine sSet_ok ?_
  unfold insB
  cases q : decide (0 ≤ i) && decide (i < (w : Int) * (s : Int)) with
  | false =>
    rw [q] at a1
    exact eAnd_f a1
  | true =>
    rw [q] at a1
    exact (eAnd_t a1).trans a2
theorem rg2_ok {fb : FnE} {δ : De} {h : Hh} {m : Nat} (b : fb δ h = .ok (.int ((m : Int) + 1)) h) (hm : m ≤ 100) : iRg2 (eUn negD (eC (.int 1))) fb δ h = .ok ((List.range' 0 (m + 2)).map fun k : Nat => D.int (-1 + (k : Int))) h := by
  have a : eUn negD (eC (.int 1)) δ h = .ok (.int (-1)) h := rfl
  unfold iRg2
  rw [a, bindOk, b, bindOk]
  unfold kRg2
  dsimp only
  rw [if_pos ⟨by omega, by omega, by omega, by omega⟩, show ((m : Int) + 1 - -1).toNat = m + 2 by omega, ← List.range_eq_range']
  rfl
/-- the places, all looked at -/
theorem places_ok {A B : Pln} (la : Lim A) (lb : Lim B) {ps : List (Tr × D)} (ok : ∀ x ∈ ps, TrOk A B x.1 x.2) (l : ps.length ≤ 100) {h : Hh} {tr : Nat} (q : h[tr]? = some (.lst (ps.map (·.2)))) {s w hh n k : Nat} (hs : s ≤ 3) (hw : w ≤ 3) (hhh : hh ≤ 2)
    (cn : ∀ i j : Int, -1 ≤ i ∧ i ≤ ((w * s : Nat) : Int) → -1 ≤ j ∧ j ≤ ((hh * s : Nat) : Int) → (ps.filter fun x => cvT (2 * i + 1) (2 * j + 1) x.1).length = b2n (insB s w hh i j)) (c0 : D) (x2 x10 x11 x12 x13 x14 x15 : Option D) :
    ∃ y13 y14 y15, u_law_2_5 (lDe c0 x2 s w hh n A B k tr x10 x11 x12 x13 x14 x15) h = .nx (lDe c0 x2 s w hh n A B k tr x10 x11 x12 y13 y14 y15) h := by
  have b1 : w * s ≤ 3 * 3 := Nat.mul_le_mul hw hs
  have b2 : hh * s ≤ 2 * 3 := Nat.mul_le_mul hhh hs
  have m1 : ∀ h, mulD (.int (w : Int)) (.int (s : Int)) h = .ok (.int ((w * s : Nat) : Int)) h := fun h => by push_cast; exact mulL h (by omega) (by omega)
  have m2 : ∀ h, mulD (.int (hh : Int)) (.int (s : Int)) h = .ok (.int ((hh * s : Nat) : Int)) h := fun h => by push_cast; exact mulL h (by omega) (by omega)
  have row : ∀ jj, jj < hh * s + 2 → ∀ δ h', (∃ x13 x14 x15, δ = lDe c0 x2 s w hh n A B k tr x10 x11 x12 x13 x14 x15 ∧ h' = h) → ∃ δ1 δ2 h2, gSet 13 (.int (-1 + (jj : Int))) δ = some δ1 ∧ u_law_2_5_1 δ1 h' = .nx δ2 h2 ∧ ∃ x13 x14 x15, δ2 = lDe c0 x2 s w hh n A B k tr x10 x11 x12 x13 x14 x15 ∧ h2 = h := by
    rintro jj hjj δ h' ⟨x13, x14, x15, rfl, rfl⟩
    obtain ⟨δ', h2, e, ⟨y14, y15, rfl, rfl⟩⟩ := loopK (g := gSet 14) (body := sSeq u_law_2_5_1_1 u_law_2_5_1_2) (fun k : Nat => D.int (-1 + (k : Int))) (fun _ δ h2 => ∃ x14 x15, δ = lDe c0 x2 s w hh n A B k tr x10 x11 x12 (some (.int (-1 + (jj : Int)))) x14 x15 ∧ h2 = h') (w * s + 2)
      (fun ii hii δ h2 ⟨x14, x15, e1, e2⟩ => by
        subst e1; subst e2
        have r := right_ok la lb ok l q (i := -1 + (ii : Int)) (j := -1 + (jj : Int)) (by omega) (by omega) _ (cn (-1 + (ii : Int)) (-1 + (jj : Int)) (by omega) (by omega))
        have e3 := ins_ok c0 x2 (n := n) hs hw hhh A B k tr x10 x11 x12 x15 (-1 + (ii : Int)) (-1 + (jj : Int)) h2
        generalize insB s w hh (-1 + (ii : Int)) (-1 + (jj : Int)) = b at *
        have ev : (eCall 4 f__law_right (aCons (eVar 9) (aCons (eVar 7) (aCons (eTup (aCons (eVar 14) (aCons (eVar 13) aNil))) (aCons (eVar 15) aNil)))) []) (lDe c0 x2 s w hh n A B k tr x10 x11 x12 (some (.int (-1 + (jj : Int)))) (some (.int (-1 + (ii : Int)))) (some (.bl b))) h2 = .ok (.bl true) h2 :=
          (eCall_ok (xs := [.ref tr, plsD A B, ptD (-1 + (ii : Int), -1 + (jj : Int)), .bl b]) (aC_ok rfl (aC_ok rfl (aC_ok rfl (aC_ok rfl aN_ok)))) rfl).trans r
        refine ⟨_, _, _, rfl, (seq_nx e3).trans ?_, ⟨some (.int (-1 + (ii : Int))), some (.bl b), rfl, rfl⟩⟩
        unfold u_law_2_5_1_2
        exact if_nx (tNot_ok (eTest_ok ev)))
      (w * s + 2) 0 (lDe c0 x2 s w hh n A B k tr x10 x11 x12 (some (.int (-1 + (jj : Int)))) x14 x15) h' (by omega) ⟨x14, x15, rfl, rfl⟩
    refine ⟨_, _, _, rfl, ?_, ⟨some (.int (-1 + (jj : Int))), y14, y15, rfl, rfl⟩⟩
    unfold u_law_2_5_1
    have ev : (eBin addD (eBin mulD (eVar 4) (eVar 3)) (eC (.int 1))) (lDe c0 x2 s w hh n A B k tr x10 x11 x12 (some (.int (-1 + (jj : Int)))) x14 x15) h2 = .ok (.int (((w * s : Nat) : Int) + 1)) h2 := (eBin_ok ((eBin_ok rfl rfl).trans (m1 h2)) rfl).trans (addI _ _ _)
    exact (sFor_ok (rg2_ok ev (by omega))).trans e
  obtain ⟨δ', h2, e, ⟨y13, y14, y15, rfl, rfl⟩⟩ := loopK (g := gSet 13) (body := u_law_2_5_1) (fun k : Nat => D.int (-1 + (k : Int))) _ (hh * s + 2) row (hh * s + 2) 0 (lDe c0 x2 s w hh n A B k tr x10 x11 x12 x13 x14 x15) h (by omega) ⟨x13, x14, x15, rfl, rfl⟩
  refine ⟨y13, y14, y15, ?_⟩
  unfold u_law_2_5
  have ev : (eBin addD (eBin mulD (eVar 5) (eVar 3)) (eC (.int 1))) (lDe c0 x2 s w hh n A B k tr x10 x11 x12 x13 x14 x15) h2 = .ok (.int (((hh * s : Nat) : Int) + 1)) h2 := (eBin_ok ((eBin_ok rfl rfl).trans (m2 h2)) rfl).trans (addI _ _ _)
  exact (sFor_ok (rg2_ok ev (by omega))).trans e
theorem loopS {g : FnG} {body : FnS} {α : Type} (a : α → D) (P : List α → De → Hh → Prop) : ∀ (l pre : List α) (δ : De) (h : Hh), P pre δ h → (∀ pre' x post δ h, pre ++ l = pre' ++ x :: post → P pre' δ h → ∃ δ1 δ2 h2, g (a x) δ = some δ1 ∧ body δ1 h = .nx δ2 h2 ∧ P (pre' ++ [x]) δ2 h2) →
    ∃ δ' h', loop3 g body (l.map a) δ h = .nx δ' h' ∧ P (pre ++ l) δ' h'
  | [], pre, δ, h, p, _ => ⟨δ, h, rfl, by simpa using p⟩
  | x :: l, pre, δ, h, p, st => by
    obtain ⟨δ1, δ2, h2, e1, e2, p2⟩ := st pre x l δ h rfl p
    obtain ⟨δ', h', e3, p3⟩ := loopS a P l (pre ++ [x]) δ2 h2 p2 fun pre' y post δ h e => st pre' y post δ h (by rw [← e]; simp)
    exact ⟨δ', h', by rw [List.map_cons, loCons, e1, loAS, e2, loNx, e3], by simpa using p3⟩
theorem asg_ok {g : FnG} {f : FnE} {δ δ' : De} {h h1 : Hh} {x : D} (a : f δ h = .ok x h1) (e : g x δ = some δ') : sAsg g f δ h = .nx δ' h1 := by
  unfold sAsg
  rw [a, toSOk, e]
def body10 : FnS := sSeq u_law_2_1 (sSeq u_law_2_2 (sSeq u_law_2_3 (sSeq u_law_2_4 u_law_2_5)))
theorem body_ok {h : Hh} {N : Nat} (st : St h (N + 76) []) (c0 : D) (x2 x3 x4 x5 x6 x7 x8 x9 x10 x11 x12 x13 x14 x15 : Option D) : ∃ y3 y4 y5 y6 y7 y8 y9 y10 y11 y12 y13 y14 y15 h', body10 [some c0, some (.ref 2), x2, x3, x4, x5, x6, x7, x8, x9, x10, x11, x12, x13, x14, x15, none] h =
    .nx [some c0, some (.ref 2), x2, y3, y4, y5, y6, y7, y8, y9, y10, y11, y12, y13, y14, y15, none] h' ∧ St h' N [] := by
  obtain ⟨v1, h1, k1, f1, s1⟩ := nxA (i := 1) (δ := [some c0, some (.ref 2), x2, x3, x4, x5, x6, x7, x8, x9, x10, x11, x12, x13, x14, x15, none]) (N := N + 75) st 3 (by decide) (by decide) rfl
  obtain ⟨v2, h2, k2, f2, s2⟩ := nxA (i := 1) (δ := [some c0, some (.ref 2), x2, x3, x4, x5, x6, x7, x8, x9, x10, x11, x12, x13, x14, x15, none]) (N := N + 74) s1 3 (by decide) (by decide) rfl
  obtain ⟨v3, h3, k3, f3, s3⟩ := nxA (i := 1) (δ := [some c0, some (.ref 2), x2, x3, x4, x5, x6, x7, x8, x9, x10, x11, x12, x13, x14, x15, none]) (N := N + 73) s2 2 (by decide) (by decide) rfl
  obtain ⟨s, hs⟩ : ∃ s, s = 1 + v1 := ⟨_, rfl⟩
  obtain ⟨w, hw⟩ : ∃ w, w = 1 + v2 := ⟨_, rfl⟩
  obtain ⟨hh, hhh⟩ : ∃ hh, hh = 1 + v3 := ⟨_, rfl⟩
  have es : (1 : Int) + (v1 : Int) = (s : Int) := by omega
  have ew : (1 : Int) + (v2 : Int) = (w : Int) := by omega
  have eh : (1 : Int) + (v3 : Int) = (hh : Int) := by omega
  have e1 : u_law_2_1 [some c0, some (.ref 2), x2, x3, x4, x5, x6, x7, x8, x9, x10, x11, x12, x13, x14, x15, none] h = .nx [some c0, some (.ref 2), x2, some (.int (s : Int)), some (.int (w : Int)), some (.int (hh : Int)), x6, x7, x8, x9, x10, x11, x12, x13, x14, x15, none] h3 := by
    have a := par_ok (ix := [3, 4, 5]) (aC_ok ((eBin_ok (g := addD) (fa := eC (.int 1)) rfl f1).trans (addI _ _ _)) (aC_ok ((eBin_ok (g := addD) (fa := eC (.int 1)) rfl f2).trans (addI _ _ _)) (aC_ok ((eBin_ok (g := addD) (fa := eC (.int 1)) rfl f3).trans (addI _ _ _)) aN_ok))) rfl
    rw [es, ew, eh] at a
    exact a
  obtain ⟨n, f, h4, f4, s4, _, nok⟩ := nodes_ok (w := w) (hh := hh) (s := s) (N := N + 49) (by omega) (by omega) (by omega) s3
  obtain ⟨A, B, h5, f5, la, lb, s5⟩ := plane_ok (N := N + 43) s4
  obtain ⟨k, h6, kk, f6, s6⟩ := nxA (i := 1) (δ := [some c0, some (.ref 2), x2, some (.int (s : Int)), some (.int (w : Int)), some (.int (hh : Int)), x6, x7, x8, x9, x10, x11, x12, x13, x14, x15, none]) (N := N + 42) s5 2 (by decide) (by decide) rfl
  have e2 : u_law_2_2 [some c0, some (.ref 2), x2, some (.int (s : Int)), some (.int (w : Int)), some (.int (hh : Int)), x6, x7, x8, x9, x10, x11, x12, x13, x14, x15, none] h3 = .nx [some c0, some (.ref 2), x2, some (.int (s : Int)), some (.int (w : Int)), some (.int (hh : Int)), some (.ref n), some (plsD A B), some (.int (k : Int)), x9, x10, x11, x12, x13, x14, x15, none] h6 := by
    have a := eTup_ok (aC_ok ((eCall_ok (np := 4) (sem := f__law_nodes) (fa := aCons (eVar 1) (aCons (eVar 4) (aCons (eVar 5) (aCons (eVar 3) aNil)))) (δ := [some c0, some (.ref 2), x2, some (.int (s : Int)), some (.int (w : Int)), some (.int (hh : Int)), x6, x7, x8, x9, x10, x11, x12, x13, x14, x15, none]) (h := h3) (xs := [.ref 2, .int (w : Int), .int (hh : Int), .int (s : Int)]) (aC_ok rfl (aC_ok rfl (aC_ok rfl (aC_ok rfl aN_ok)))) rfl).trans f4)
      (aC_ok ((eCall_ok (np := 1) (sem := f__law_plane) (fa := aCons (eVar 1) aNil) (xs := [.ref 2]) (aC_ok rfl aN_ok) rfl).trans f5) (aC_ok f6 aN_ok))) (by simp)
    unfold u_law_2_2
    exact asg_ok a rfl
  have e3 : u_law_2_3 [some c0, some (.ref 2), x2, some (.int (s : Int)), some (.int (w : Int)), some (.int (hh : Int)), some (.ref n), some (plsD A B), some (.int (k : Int)), x9, x10, x11, x12, x13, x14, x15, none] h6 = .nx (lDe c0 x2 s w hh n A B k h6.length x10 x11 x12 x13 x14 x15) (h6 ++ [.lst []]) := rfl
  have s7 := s6.new (.lst [])
  have dn : ∀ p ∈ [(n, ditO f (gridG w (hh + 1)))], p.1 ≠ h6.length := fun p m => by
    rw [List.mem_singleton.mp m]
    have := (List.getElem?_eq_some_iff.mp (s6.get List.mem_cons_self)).1
    show n ≠ h6.length
    omega
  obtain ⟨L, h8, f8, cu, s8⟩ := cells_ok (f := f) (w := w) (hh := hh) (n := n) (N := N + 36) (by omega) (by omega) (by simp) s7
  obtain ⟨tall, cn⟩ := cover (s := s) (w := w) (hh := hh) (by omega) (by omega) (by omega) nok cu
  have ll : L.length ≤ 12 := by
    rw [cu.len, grid_is (by omega) (by omega)]
    have a : w = 1 ∨ w = 2 ∨ w = 3 := by omega
    have b : hh = 1 ∨ hh = 2 := by omega
    rcases a with rfl | rfl | rfl <;> rcases b with rfl | rfl <;> decide
  obtain ⟨δ', h9, e9, ⟨ps, y10, y11, y12, q1, q2, rfl, s9⟩⟩ := loopS (g := gSet 10) (body := sSeq u_law_2_4_1 (sSeq u_law_2_4_2 (sSeq u_law_2_4_3 (sSeq u_law_2_4_4 u_law_2_4_5)))) trD
    (fun pre δ h' => ∃ (ps : List (Tr × D)) (y10 y11 y12 : Option D), ps.map (·.1) = pre ∧ (∀ x ∈ ps, TrOk A B x.1 x.2) ∧ δ = lDe c0 x2 s w hh n A B k h6.length y10 y11 y12 x13 x14 x15 ∧ St h' (N + 36 - 3 * pre.length) [(h6.length, .lst (ps.map (·.2))), (n, ditO f (gridG w (hh + 1)))])
    L [] (lDe c0 x2 s w hh n A B k h6.length x10 x11 x12 x13 x14 x15) h8 ⟨[], x10, x11, x12, rfl, by simp, rfl, s8.weak (by simp)⟩ (fun pre x post δ h e ⟨ps, y10, y11, y12, q1, q2, q3, sx⟩ => by
      subst q3
      have e : L = pre ++ x :: post := e
      have lp : pre.length + 1 ≤ L.length := by rw [e]; simp
      have lps : ps.length = pre.length := by rw [← q1, List.length_map]
      obtain ⟨t1, t2, t3, t4⟩ := tall x (by rw [e]; simp)
      obtain ⟨z11, z12, o, h', e', sy, to⟩ := tri_step (N := N + 36 - 3 * (pre.length + 1)) la lb t2 t3 t4 t1 (k := k) (by omega) dn (by rw [List.length_map]; omega) (sx.weak (by omega)) c0 x2 s w hh n y11 y12 x13 x14 x15
      refine ⟨_, _, h', rfl, e', ⟨ps ++ [(x, o)], _, z11, z12, by rw [List.map_append, q1]; rfl, fun y m => ?_, rfl, ?_⟩⟩
      · rcases List.mem_append.mp m with m | m
        · exact q2 y m
        · rw [List.mem_singleton.mp m]; exact to
      · rw [List.map_append, List.length_append]
        exact sy)
  have e4 : u_law_2_4 (lDe c0 x2 s w hh n A B k h6.length x10 x11 x12 x13 x14 x15) (h6 ++ [.lst []]) = .nx (lDe c0 x2 s w hh n A B k h6.length y10 y11 y12 x13 x14 x15) h9 := by
    have a : wSeq (eCall 4 f__law_cells (aCons (eVar 1) (aCons (eVar 6) (aCons (eVar 4) (aCons (eVar 5) aNil)))) []) (lDe c0 x2 s w hh n A B k h6.length x10 x11 x12 x13 x14 x15) (h6 ++ [.lst []]) = .ok (.im (L.map trD)) h8 := by
      have c8 : (aCons (eVar 1) (aCons (eVar 6) (aCons (eVar 4) (aCons (eVar 5) aNil)))) (lDe c0 x2 s w hh n A B k h6.length x10 x11 x12 x13 x14 x15) (h6 ++ [.lst []]) = .ok [.ref 2, .ref n, .int (w : Int), .int (hh : Int)] (h6 ++ [.lst []]) := rfl
      have b := (eCall_ok (np := 4) (sem := f__law_cells) c8 rfl).trans f8
      unfold wSeq
      rw [b]
      rfl
    unfold u_law_2_4 L3.sForW
    rw [a]
    exact e9
  have q1 : ps.map (·.1) = L := q1
  rw [List.nil_append] at s9
  have lps : ps.length = L.length := by rw [← q1, List.length_map]
  obtain ⟨y13, y14, y15, e5⟩ := places_ok la lb q2 (by omega) (s9.get List.mem_cons_self) (s := s) (w := w) (hh := hh) (n := n) (k := k) (by omega) (by omega) (by omega) (fun i j hi hj => by
    rw [← cn i j hi hj, ← q1, List.filter_map, List.length_map]
    rfl) c0 x2 y10 y11 y12 x13 x14 x15
  refine ⟨_, _, _, _, _, _, _, y10, y11, y12, y13, y14, y15, h9, (seq_nx e1).trans ((seq_nx e2).trans ((seq_nx e3).trans ((seq_nx e4).trans e5))), s9.sub (by omega) (by simp)⟩
theorem law_plain (ns : List Int) (hl : ns.length ≤ 63) : ∃ h', f_law [.scr (ns.map .int)] [] = .ok (.bl true) h' := by
  obtain ⟨h1, e1, g1⟩ := begun_ok ns hl
  have st1 : St h1 1000000 [] := ⟨1, g1, by simp⟩
  have mn : min ns.length 2 ≤ 2 := Nat.min_le_right _ _
  obtain ⟨δ', h', e, ⟨x2, x3, x4, x5, x6, x7, x8, x9, x10, x11, x12, x13, x14, x15, rfl, _⟩⟩ := loopR1 (g := gSet 2) (body := body10) (fun k δ h => ∃ x2 x3 x4 x5 x6 x7 x8 x9 x10 x11 x12 x13 x14 x15, δ = [some (.scr (ns.map .int)), some (.ref 2), x2, x3, x4, x5, x6, x7, x8, x9, x10, x11, x12, x13, x14, x15, none] ∧ St h (1000 - 76 * k) []) (1 + min ns.length 2)
    (fun k hk δ h ⟨x2, x3, x4, x5, x6, x7, x8, x9, x10, x11, x12, x13, x14, x15, q, st⟩ => by
      subst q
      obtain ⟨y3, y4, y5, y6, y7, y8, y9, y10, y11, y12, y13, y14, y15, h2, e2, s2⟩ := body_ok (N := 1000 - 76 * (k + 1)) (st.weak (by omega)) (.scr (ns.map .int)) (some (.int (k : Int))) x3 x4 x5 x6 x7 x8 x9 x10 x11 x12 x13 x14 x15
      exact ⟨_, _, h2, rfl, e2, ⟨_, y3, y4, y5, y6, y7, y8, y9, y10, y11, y12, y13, y14, y15, rfl, s2⟩⟩)
    [some (.scr (ns.map .int)), some (.ref 2), none, none, none, none, none, none, none, none, none, none, none, none, none, none, none] h1 ⟨none, none, none, none, none, none, none, none, none, none, none, none, none, none, rfl, st1.weak (by omega)⟩
  have ir := turns_ok 1 2 (by decide) (by decide) ns [some (.ref 2), none, none, none, none, none, none, none, none, none, none, none, none, none, none, none] h1
  have e2 : u_law_2 [some (.scr (ns.map .int)), some (.ref 2), none, none, none, none, none, none, none, none, none, none, none, none, none, none, none] h1 = .nx [some (.scr (ns.map .int)), some (.ref 2), x2, x3, x4, x5, x6, x7, x8, x9, x10, x11, x12, x13, x14, x15, none] h' := by
    unfold u_law_2
    exact (sFor_ok ir).trans e
  have st0 : startD 17 [.scr (ns.map D.int)] = [some (.scr (ns.map D.int)), none, none, none, none, none, none, none, none, none, none, none, none, none, none, none, none] := rfl
  have s1 : u_law_1 [some (.scr (ns.map D.int)), none, none, none, none, none, none, none, none, none, none, none, none, none, none, none, none] [] = .nx [some (.scr (ns.map D.int)), some (.ref 2), none, none, none, none, none, none, none, none, none, none, none, none, none, none, none] h1 := by
    unfold u_law_1
    exact sSet_ok ((eCall_ok (np := 1) (sem := f__law_begun) (xs := [.scr (ns.map D.int)]) (aC_ok rfl aN_ok) rfl).trans e1)
  refine ⟨h', ?_⟩
  unfold f_law runD
  rw [st0]
  unfold u_law
  rw [seq_nx s1, seq_nx e2]
  rfl
end Lw
set_option autoImplicit false
set_option maxHeartbeats 8000000
namespace Lw
open PySem PySem.Spec L2 L3
open He (ga ma)
def top (i : Nat) : Stmt := PySem.Challenge.pw_tilewright_k10_whole_regions_cut.main.body.getD i (.Pass ⟨0, 0, 0, 0⟩)
def clsB : Stmt → List Stmt
  | .ClassDef _ _ _ b _ _ _ _ _ _ _ => b
  | _ => []
def mem (i j : Nat) : Stmt := (clsB (top i)).getD j (.Pass ⟨0, 0, 0, 0⟩)
def TX (K : PySem.W.Frag) : Tx where
  cls := fun c => match c with
    | 0 => some (ga K "Triangle", ["corners", "own_size", "own_edges"])
    | _ => none
  exc := fun c => match c with
    | 0 => some (ga K "BadCorner", ["reason"])
    | 1 => some (ga K "BadPlace", ["reason"])
    | _ => none
  src := fun _ _ _ _ => False
  srcAt := fun _ _ _ _ h => h.elim
  srcStay := fun _ _ _ _ _ h _ => h.elim
def d__law_begun : DefL := ⟨("_law_begun", none), false, "_law_begun", "_law_begun", defArgs (top 20), defBody (top 20), defScope (top 20), [], none⟩
def d__law_next : DefL := ⟨("_law_next", none), false, "_law_next", "_law_next", defArgs (top 21), defBody (top 21), defScope (top 21), [], none⟩
def d__law_plane : DefL := ⟨("_law_plane", none), false, "_law_plane", "_law_plane", defArgs (top 23), defBody (top 23), defScope (top 23), [], none⟩
def d__law_nodes : DefL := ⟨("_law_nodes", none), false, "_law_nodes", "_law_nodes", defArgs (top 22), defBody (top 22), defScope (top 22), [], none⟩
def d__law_cells : DefL := ⟨("_law_cells", none), false, "_law_cells", "_law_cells", defArgs (top 26), defBody (top 26), defScope (top 26), [], none⟩
def d__law_worth : DefL := ⟨("_law_worth", none), false, "_law_worth", "_law_worth", defArgs (top 24), defBody (top 24), defScope (top 24), [], none⟩
def d__law_corner : DefL := ⟨("_law_corner", none), false, "_law_corner", "_law_corner", defArgs (top 25), defBody (top 25), defScope (top 25), [], none⟩
def d_is_whole_in : DefL := ⟨("is_whole_in", none), false, "is_whole_in", "is_whole_in", defArgs (top 6), defBody (top 6), defScope (top 6), [], none⟩
def d_are_whole_in : DefL := ⟨("are_whole_in", none), false, "are_whole_in", "are_whole_in", defArgs (top 7), defBody (top 7), defScope (top 7), [], none⟩
def d_is_corner : DefL := ⟨("is_corner", none), false, "is_corner", "is_corner", defArgs (top 12), defBody (top 12), defScope (top 12), [], none⟩
def d_eye_row : DefL := ⟨("eye_row", none), false, "eye_row", "eye_row", defArgs (top 13), defBody (top 13), defScope (top 13), [], none⟩
def d_crossed_rows : DefL := ⟨("crossed_rows", none), false, "crossed_rows", "crossed_rows", defArgs (top 14), defBody (top 14), defScope (top 14), [], none⟩
def d_linear_edge : DefL := ⟨("linear_edge", none), false, "linear_edge", "linear_edge", defArgs (top 15), defBody (top 15), defScope (top 15), [], none⟩
def d_Triangle___init__ : DefL := ⟨("Triangle", some "__init__"), false, "__init__", "Triangle.__init__", defArgs (mem 18 0), defBody (mem 18 0), defScope (mem 18 0), [], none⟩
def d_Triangle_facing : DefL := ⟨("Triangle", some "facing"), true, "facing", "Triangle.facing", defArgs (mem 18 3), defBody (mem 18 3), defScope (mem 18 3), [], none⟩
def d_need_whole_place : DefL := ⟨("need_whole_place", none), false, "need_whole_place", "need_whole_place", defArgs (top 16), defBody (top 16), defScope (top 16), [], none⟩
def d_Triangle_values_at : DefL := ⟨("Triangle", some "values_at"), false, "values_at", "Triangle.values_at", defArgs (mem 18 5), defBody (mem 18 5), defScope (mem 18 5), [], none⟩
def d_is_let_in : DefL := ⟨("is_let_in", none), false, "is_let_in", "is_let_in", defArgs (top 17), defBody (top 17), defScope (top 17), [], none⟩
def d_Triangle_is_over : DefL := ⟨("Triangle", some "is_over"), false, "is_over", "Triangle.is_over", defArgs (mem 18 7), defBody (mem 18 7), defScope (mem 18 7), [], none⟩
def d_Triangle_covers : DefL := ⟨("Triangle", some "covers"), false, "covers", "Triangle.covers", defArgs (mem 18 8), defBody (mem 18 8), defScope (mem 18 8), [], none⟩
def d_Triangle_depth_by : DefL := ⟨("Triangle", some "depth_by"), false, "depth_by", "Triangle.depth_by", defArgs (mem 18 9), defBody (mem 18 9), defScope (mem 18 9), [], none⟩
def d_Triangle_fragment_so : DefL := ⟨("Triangle", some "fragment_so"), false, "fragment_so", "Triangle.fragment_so", defArgs (mem 18 11), defBody (mem 18 11), defScope (mem 18 11), [], none⟩
def d_Triangle_fragment_at : DefL := ⟨("Triangle", some "fragment_at"), false, "fragment_at", "Triangle.fragment_at", defArgs (mem 18 10), defBody (mem 18 10), defScope (mem 18 10), [], none⟩
def d__law_due : DefL := ⟨("_law_due", none), false, "_law_due", "_law_due", defArgs (top 27), defBody (top 27), defScope (top 27), [], none⟩
def d__law_right : DefL := ⟨("_law_right", none), false, "_law_right", "_law_right", defArgs (top 28), defBody (top 28), defScope (top 28), [], none⟩
def d_law : DefL := ⟨("law", none), false, "law", "law", defArgs (top 29), defBody (top 29), defScope (top 29), [], none⟩
def d_BadCorner___init__ : DefL := ⟨("BadCorner", some "__init__"), false, "__init__", "BadCorner.__init__", defArgs (mem 4 0), defBody (mem 4 0), defScope (mem 4 0), [], some ("reason", "/claim/cut.py")⟩
def d_BadPlace___init__ : DefL := ⟨("BadPlace", some "__init__"), false, "__init__", "BadPlace.__init__", defArgs (mem 3 0), defBody (mem 3 0), defScope (mem 3 0), [], some ("reason", "/claim/cut.py")⟩
def fl : List Fl := [.k (.glo "_law_begun"), .k (.free "len"), .k (.free "min"), .k (.free "range"), .k (.glo "_law_next"), .k (.glo "_law_plane"), .k (.glo "_law_nodes"), .k (.glo "_law_cells"), .k (.glo "_law_corner"), .k (.mkr "Triangle"), .k (.glo "Triangle"), .k (.cls "Triangle"), .pr "Triangle" "facing", .k (.glo "_law_right"), .k (.free "list"), .k (.free "int"), .k (.glo "_law_worth"), .k (.glo "is_corner"), .k (.free "all"), .k (.glo "BadCorner"), .k (.glo "eye_row"), .k (.glo "crossed_rows"), .k (.glo "linear_edge"), .gc "MAX_NUMBER" c_MAX_NUMBER, .k (.glo "are_whole_in"), .k (.free "isinstance"), .k (.free "tuple"), .k (.glo "is_whole_in"), .k (.free "bool"), .k (.meth "Triangle" "covers"), .k (.meth "Triangle" "fragment_at"), .k (.free "repr"), .k (.glo "_law_due"), .k (.glo "need_whole_place"), .k (.meth "Triangle" "values_at"), .k (.meth "Triangle" "is_over"), .k (.glo "BadPlace"), .k (.free "zip"), .k (.glo "is_let_in"), .k (.meth "Triangle" "fragment_so"), .k (.meth "Triangle" "depth_by"), .gc "DEPTHS" c_DEPTHS, .k (.free "sum"), .gc "COLORS" c_COLORS, .k (.free "max"), .k (.free "abs"), .k (.noat "Triangle" "corners"), .k (.noat "Triangle" "own_size"), .k (.noat "Triangle" "own_edges"), .k (.glo "law")]
def fn : List DefL := [d__law_begun, d__law_next, d__law_plane, d__law_nodes, d__law_cells, d__law_worth, d__law_corner, d_is_whole_in, d_are_whole_in, d_is_corner, d_eye_row, d_crossed_rows, d_linear_edge, d_Triangle___init__, d_Triangle_facing, d_need_whole_place, d_Triangle_values_at, d_is_let_in, d_Triangle_is_over, d_Triangle_covers, d_Triangle_depth_by, d_Triangle_fragment_so, d_Triangle_fragment_at, d__law_due, d__law_right, d_law, d_BadCorner___init__, d_BadPlace___init__]
abbrev Bt := Bs fl fn
theorem err_BadCorner {K : PySem.W.Frag} {mg : Str → Option Value} (B : Bt K mg) : ErrC K (ga K "BadCorner") (ma K (ga K "BadCorner") "__init__") "reason" "reason" "/claim/cut.py" :=
  B.c.err_ 26 (d := d_BadCorner___init__) rfl rfl ⟨⟨_, _, rfl⟩, by decide, by decide, ⟨_, _, _, _, _, _, _, _, _, _, _, _, rfl, rfl⟩, rfl, rfl, rfl, rfl, by decide, rfl, rfl, rfl⟩
theorem err_BadPlace {K : PySem.W.Frag} {mg : Str → Option Value} (B : Bt K mg) : ErrC K (ga K "BadPlace") (ma K (ga K "BadPlace") "__init__") "reason" "reason" "/claim/cut.py" :=
  B.c.err_ 27 (d := d_BadPlace___init__) rfl rfl ⟨⟨_, _, rfl⟩, by decide, by decide, ⟨_, _, _, _, _, _, _, _, _, _, _, _, rfl, rfl⟩, rfl, rfl, rfl, rfl, by decide, rfl, rfl, rfl⟩
theorem at_corners {X : Cx} {mg : Str → Option Value} (B : Bt X.K mg) : AttrOk X (TX X.K) "corners" ix_corners := by
  intro c k e
  unfold ix_corners at e
  split at e
  · cases e; exact ⟨_, _, rfl, rfl, by decide, by decide, B.cls 11, B.noat 46⟩
  · cases e
theorem at_own_size {X : Cx} {mg : Str → Option Value} (B : Bt X.K mg) : AttrOk X (TX X.K) "own_size" ix_own_size := by
  intro c k e
  unfold ix_own_size at e
  split at e
  · cases e; exact ⟨_, _, rfl, rfl, by decide, by decide, B.cls 11, B.noat 47⟩
  · cases e
theorem at_own_edges {X : Cx} {mg : Str → Option Value} (B : Bt X.K mg) : AttrOk X (TX X.K) "own_edges" ix_own_edges := by
  intro c k e
  unfold ix_own_edges at e
  split at e
  · cases e; exact ⟨_, _, rfl, rfl, by decide, by decide, B.cls 11, B.noat 48⟩
  · cases e
abbrev N__law_begun : List Str := ["_law_script", "_law_cell"]
theorem sc__law_begun : FnScope ["_law_script", "_law_cell"] ["_law_script"] (defScope (top 20)) := ⟨rfl, rfl, rfl, by decide +kernel, rfl, by decide +kernel, by decide +kernel⟩
theorem ok__law_begun {P : Program} {w : World} {K : PySem.W.Frag} {mg : Str → Option Value} (B : Bt K mg) (hP : PrgOk P "/claim/cut.py") : ∃ fd, (∀ base, FnL P w K mg base (TX K) 1 (ga K "_law_begun") fd ["_law_script"] f__law_begun) ∧ Binds K fd ["_law_script"] [] ∧ PySem.W.keepIn K (.ref (ga K "_law_begun")) = true := by
  obtain ⟨fd, F⟩ := B.c.def_ 0 (d := d__law_begun) rfl
  refine ⟨fd, fun base => def_okD F sc__law_begun fun cdv A outer s H E W hr tk => ?_, FunD.bindsN F fun _ _ _ _ _ _ us hl => match us, hl with | [_], _ => rfl, F.kp⟩
  have hu := hr.units
  have hu1 := Nat.lt_of_le_of_lt (Nat.add_le_add_left (by decide : 1 ≤ 64) _) hu
  have sc := sc__law_begun
  exact (fss_one (fs_ret (fe_dict (fps_cons (fe_str (y := [99, 101, 108, 108, 115]) rfl) (fe_bt call_list_of cs_listM rfl (B.free 14) (by decide +kernel) (fa_cons (fe_var 0 (pv 0)) fa_nil)) (fps_cons (fe_str (y := [108, 101, 102, 116]) rfl) (fe_lcW (own := [("_law_cell", 1)]) rfl sc.nd (fw_seq (fe_var 0 (pv 0))) (blkOk_by (by first | (show blkC N__law_begun (defScope (top 20)) _ _ = true; decide +kernel) | kernel_rfl)) (fun s H C cl fp => by exact (fg_name 1 sc.nd rfl (by first | exact Or.inl rfl | exact Or.inr rfl))) (fun s H C cl fp => by exact (fts_one (ft_cmp L2.op_ge os_cmp (by rfl) (fe_var 1 (pv 1)) (fe_op L2.op_pow os_pow fe_int fe_int)))) (fun s H C cl fp => by exact (fe_var 1 (pv 1))) (by decide)) (fps_cons (fe_str (y := [97, 116]) rfl) fe_int fps_nil))) rfl rfl (by simp) (by decide))))
abbrev N__law_next : List Str := ["_law_m", "_law_many", "_law_rest", "_law_k", "_law_cell", "_law_mixed"]
theorem sc__law_next : FnScope ["_law_m", "_law_many", "_law_rest", "_law_k", "_law_cell", "_law_mixed"] ["_law_m", "_law_many"] (defScope (top 21)) := ⟨rfl, rfl, rfl, by decide +kernel, rfl, by decide +kernel, by decide +kernel⟩
theorem ok__law_next {P : Program} {w : World} {K : PySem.W.Frag} {mg : Str → Option Value} (B : Bt K mg) (hP : PrgOk P "/claim/cut.py") : ∃ fd, (∀ base, FnL P w K mg base (TX K) 1 (ga K "_law_next") fd ["_law_m", "_law_many"] f__law_next) ∧ Binds K fd ["_law_m", "_law_many"] [] ∧ PySem.W.keepIn K (.ref (ga K "_law_next")) = true := by
  obtain ⟨fd, F⟩ := B.c.def_ 1 (d := d__law_next) rfl
  refine ⟨fd, fun base => def_okD F sc__law_next fun cdv A outer s H E W hr tk => ?_, FunD.bindsN F fun _ _ _ _ _ _ us hl => match us, hl with | [_, _], _ => rfl, F.kp⟩
  have hu := hr.units
  have hu1 := Nat.lt_of_le_of_lt (Nat.add_le_add_left (by decide : 1 ≤ 64) _) hu
  have sc := sc__law_next
  exact (fss_cons (fs_while (passes_of rfl) (ft_bool (fw_and (ft_cmp (op_neP hu) os_ne (by rfl) (fe_ixA hu1 (fun _ _ => rfl) (fe_var 0 (pv 0)) (fe_str (y := [108, 101, 102, 116]) rfl)) (fe_lst fa_nil)) (fw_and1 (ft_cmp (op_eqP hu) os_eq (by rfl) (fe_ixA hu1 (fun _ _ => rfl) (fe_ixA hu1 (fun _ _ => rfl) (fe_var 0 (pv 0)) (fe_str (y := [108, 101, 102, 116]) rfl)) fe_int) fe_int)))) (fss_one (fs_ix hu1 (fe_var 0 (pv 0)) (fe_str (y := [108, 101, 102, 116]) rfl) (fe_sliceM (fe_ixA hu1 (fun _ _ => rfl) (fe_var 0 (pv 0)) (fe_str (y := [108, 101, 102, 116]) rfl)) (fo_some fe_int) fo_none)))) (fss_cons (fs_if (ft_cmp (op_neP hu) os_ne (by rfl) (fe_ixA hu1 (fun _ _ => rfl) (fe_var 0 (pv 0)) (fe_str (y := [108, 101, 102, 116]) rfl)) (fe_lst fa_nil)) (fss_cons (fs_set (i := 2) sc.nd rfl (by first | exact Or.inl rfl | exact Or.inr rfl) (fe_bt call_int1 cs_int rfl (B.free 15) (by decide +kernel) (fa_cons (fe_ixA hu1 (fun _ _ => rfl) (fe_ixA hu1 (fun _ _ => rfl) (fe_var 0 (pv 0)) (fe_str (y := [108, 101, 102, 116]) rfl)) fe_int) fa_nil))) (fss_cons (fs_ix hu1 (fe_ixA hu1 (fun _ _ => rfl) (fe_var 0 (pv 0)) (fe_str (y := [108, 101, 102, 116]) rfl)) fe_int (fe_op L2.op_fdivW os_div (fe_var 2 (pv 2)) (fe_var 1 (pv 1)))) (fss_one (fs_ret (fe_op L2.op_mod os_mod (fe_var 2 (pv 2)) (fe_var 1 (pv 1))))))) fss_nil) (fss_cons (fs_set (i := 3) sc.nd rfl (by first | exact Or.inl rfl | exact Or.inr rfl) (fe_op op_addA os_add (fe_ixA hu1 (fun _ _ => rfl) (fe_var 0 (pv 0)) (fe_str (y := [97, 116]) rfl)) fe_int)) (fss_cons (fs_ix hu1 (fe_var 0 (pv 0)) (fe_str (y := [97, 116]) rfl) (fe_var 3 (pv 3))) (fss_cons (fs_set (i := 4) sc.nd rfl (by first | exact Or.inl rfl | exact Or.inr rfl) (fe_if (ft_cmp (op_neP hu) os_ne (by rfl) (fe_ixA hu1 (fun _ _ => rfl) (fe_var 0 (pv 0)) (fe_str (y := [99, 101, 108, 108, 115]) rfl)) (fe_lst fa_nil)) (fe_ixA hu1 (fun _ _ => rfl) (fe_ixA hu1 (fun _ _ => rfl) (fe_var 0 (pv 0)) (fe_str (y := [99, 101, 108, 108, 115]) rfl)) (fe_op L2.op_mod os_mod (fe_bt call_int1 cs_int rfl (B.free 15) (by decide +kernel) (fa_cons (fe_var 3 (pv 3)) fa_nil)) (fe_b call_len cs_len rfl (B.free 1) (by decide +kernel) (fa_cons (fe_ixA hu1 (fun _ _ => rfl) (fe_var 0 (pv 0)) (fe_str (y := [99, 101, 108, 108, 115]) rfl)) fa_nil)))) fe_int)) (fss_cons (fs_set (i := 5) sc.nd rfl (by first | exact Or.inl rfl | exact Or.inr rfl) (fe_op op_mulA os_mul (fe_bt call_int1 cs_int rfl (B.free 15) (by decide +kernel) (fa_cons (fe_op op_addA os_add (fe_op op_addA os_add (fe_op L2.op_mod os_mod (fe_bt call_int1 cs_int rfl (B.free 15) (by decide +kernel) (fa_cons (fe_var 4 (pv 4)) fa_nil)) fe_int) (fe_op op_mulA os_mul fe_int (fe_var 3 (pv 3)))) (fe_op op_mulA os_mul (fe_op op_mulA os_mul fe_int (fe_var 3 (pv 3))) (fe_var 3 (pv 3)))) fa_nil)) fe_int)) (fss_cons (fs_set (i := 5) sc.nd rfl (by first | exact Or.inl rfl | exact Or.inr rfl) (fe_op op_mulA os_mul (fe_bt call_int1 cs_int rfl (B.free 15) (by decide +kernel) (fa_cons (fe_op op_addA os_add (fe_op L2.op_mod os_mod (fe_bt call_int1 cs_int rfl (B.free 15) (by decide +kernel) (fa_cons (fe_var 5 (pv 5)) fa_nil)) fe_int) (fe_op op_mulA os_mul fe_int (fe_var 3 (pv 3)))) fa_nil)) fe_int)) (fss_one (fs_ret (fe_op L2.op_mod os_mod (fe_bt call_int1 cs_int rfl (B.free 15) (by decide +kernel) (fa_cons (fe_op L2.op_fdivW os_div (fe_op L2.op_mod os_mod (fe_bt call_int1 cs_int rfl (B.free 15) (by decide +kernel) (fa_cons (fe_var 5 (pv 5)) fa_nil)) fe_int) fe_int) fa_nil)) (fe_var 1 (pv 1))))))))))))
abbrev N__law_plane : List Str := ["_law_m", "_law_deep", "_law_tint"]
theorem sc__law_plane : FnScope ["_law_m", "_law_deep", "_law_tint"] ["_law_m"] (defScope (top 23)) := ⟨rfl, rfl, rfl, by decide +kernel, rfl, by decide +kernel, by decide +kernel⟩
theorem ok__law_plane {P : Program} {w : World} {K : PySem.W.Frag} {mg : Str → Option Value} (B : Bt K mg) (hP : PrgOk P "/claim/cut.py") : ∃ fd, (∀ base, FnL P w K mg base (TX K) 2 (ga K "_law_plane") fd ["_law_m"] f__law_plane) ∧ Binds K fd ["_law_m"] [] ∧ PySem.W.keepIn K (.ref (ga K "_law_plane")) = true := by
  obtain ⟨fd, F⟩ := B.c.def_ 2 (d := d__law_plane) rfl
  obtain ⟨fd__law_next, G__law_next, b__law_next, k__law_next⟩ := ok__law_next (P := P) (w := w) B hP
  refine ⟨fd, fun base => def_okD F sc__law_plane fun cdv A outer s H E W hr tk => ?_, FunD.bindsN F fun _ _ _ _ _ _ us hl => match us, hl with | [_], _ => rfl, F.kp⟩
  have hu := hr.units
  have hu1 := Nat.lt_of_le_of_lt (Nat.add_le_add_left (by decide : 1 ≤ 64) _) hu
  have sc := sc__law_plane
  exact (fss_cons (fs_set (i := 1) sc.nd rfl (by first | exact Or.inl rfl | exact Or.inr rfl) (fe_tup (fa_cons (fe_op L2.op_sub os_sub (fe_call tk (G__law_next base) (hr.mono (by decide)) rfl (B.glo 4) k__law_next b__law_next Dfl.nil (fa_cons (fe_var 0 (pv 0)) (fa_cons fe_int fa_nil))) fe_int) (fa_cons (fe_op L2.op_sub os_sub (fe_call tk (G__law_next base) (hr.mono (by decide)) rfl (B.glo 4) k__law_next b__law_next Dfl.nil (fa_cons (fe_var 0 (pv 0)) (fa_cons fe_int fa_nil))) fe_int) (fa_cons (fe_op L2.op_sub os_sub (fe_call tk (G__law_next base) (hr.mono (by decide)) rfl (B.glo 4) k__law_next b__law_next Dfl.nil (fa_cons (fe_var 0 (pv 0)) (fa_cons fe_int fa_nil))) fe_int) fa_nil))))) (fss_cons (fs_set (i := 2) sc.nd rfl (by first | exact Or.inl rfl | exact Or.inr rfl) (fe_tup (fa_cons (fe_op L2.op_sub os_sub (fe_call tk (G__law_next base) (hr.mono (by decide)) rfl (B.glo 4) k__law_next b__law_next Dfl.nil (fa_cons (fe_var 0 (pv 0)) (fa_cons fe_int fa_nil))) fe_int) (fa_cons (fe_op L2.op_sub os_sub (fe_call tk (G__law_next base) (hr.mono (by decide)) rfl (B.glo 4) k__law_next b__law_next Dfl.nil (fa_cons (fe_var 0 (pv 0)) (fa_cons fe_int fa_nil))) fe_int) (fa_cons (fe_op L2.op_sub os_sub (fe_call tk (G__law_next base) (hr.mono (by decide)) rfl (B.glo 4) k__law_next b__law_next Dfl.nil (fa_cons (fe_var 0 (pv 0)) (fa_cons fe_int fa_nil))) fe_int) fa_nil))))) (fss_one (fs_ret (fe_tup (fa_cons (fe_var 1 (pv 1)) (fa_cons (fe_var 2 (pv 2)) fa_nil)))))))
abbrev N__law_nodes : List Str := ["_law_m", "_law_wide", "_law_high", "_law_step", "_law_found", "_law_row", "_law_column", "_law_x", "_law_y"]
theorem sc__law_nodes : FnScope ["_law_m", "_law_wide", "_law_high", "_law_step", "_law_found", "_law_row", "_law_column", "_law_x", "_law_y"] ["_law_m", "_law_wide", "_law_high", "_law_step"] (defScope (top 22)) := ⟨rfl, rfl, rfl, by decide +kernel, rfl, by decide +kernel, by decide +kernel⟩
theorem ok__law_nodes {P : Program} {w : World} {K : PySem.W.Frag} {mg : Str → Option Value} (B : Bt K mg) (hP : PrgOk P "/claim/cut.py") : ∃ fd, (∀ base, FnL P w K mg base (TX K) 2 (ga K "_law_nodes") fd ["_law_m", "_law_wide", "_law_high", "_law_step"] f__law_nodes) ∧ Binds K fd ["_law_m", "_law_wide", "_law_high", "_law_step"] [] ∧ PySem.W.keepIn K (.ref (ga K "_law_nodes")) = true := by
  obtain ⟨fd, F⟩ := B.c.def_ 3 (d := d__law_nodes) rfl
  obtain ⟨fd__law_next, G__law_next, b__law_next, k__law_next⟩ := ok__law_next (P := P) (w := w) B hP
  refine ⟨fd, fun base => def_okD F sc__law_nodes fun cdv A outer s H E W hr tk => ?_, FunD.bindsN F fun _ _ _ _ _ _ us hl => match us, hl with | [_, _, _, _], _ => rfl, F.kp⟩
  have hu := hr.units
  have hu1 := Nat.lt_of_le_of_lt (Nat.add_le_add_left (by decide : 1 ≤ 64) _) hu
  have sc := sc__law_nodes
  exact (fss_cons (fs_set (i := 4) sc.nd rfl (by first | exact Or.inl rfl | exact Or.inr rfl) fe_dictT) (fss_cons (fs_for (passes_of rfl) rfl (fi_range1 rfl (B.free 3) (fe_op op_addA os_add (fe_var 2 (pv 2)) fe_int)) (fg_name 5 sc.nd rfl (by first | exact Or.inl rfl | exact Or.inr rfl)) (fss_one (fs_for (passes_of rfl) rfl (fi_range1 rfl (B.free 3) (fe_op op_addA os_add (fe_var 1 (pv 1)) fe_int)) (fg_name 6 sc.nd rfl (by first | exact Or.inl rfl | exact Or.inr rfl)) (fss_cons (fs_par (i := 7) (j := 8) rfl sc.nd rfl rfl (by decide) rfl rfl (fa_cons (fe_op op_mulA os_mul (fe_op op_mulA os_mul fe_int (fe_var 3 (pv 3))) (fe_var 6 (pv 6))) (fa_cons (fe_op op_mulA os_mul (fe_op op_mulA os_mul fe_int (fe_var 3 (pv 3))) (fe_var 5 (pv 5))) fa_nil)) rfl) (fss_cons (fs_if (ft_bool (fw_and (ft_cmp (op_eqP hu) os_eq (by rfl) (fe_var 3 (pv 3)) fe_int) (fw_and (ft_chain L2.op_lt L2.op_lt os_cmp os_cmp (by rfl) fe_int (fe_var 5 (pv 5)) (fe_var 2 (pv 2))) (fw_and1 (ft_chain L2.op_lt L2.op_lt os_cmp os_cmp (by rfl) fe_int (fe_var 6 (pv 6)) (fe_var 1 (pv 1))))))) (fss_one (fs_par (i := 7) (j := 8) rfl sc.nd rfl rfl (by decide) rfl rfl (fa_cons (fe_op L2.op_sub os_sub (fe_op op_addA os_add (fe_var 7 (pv 7)) (fe_call tk (G__law_next base) (hr.mono (by decide)) rfl (B.glo 4) k__law_next b__law_next Dfl.nil (fa_cons (fe_var 0 (pv 0)) (fa_cons fe_int fa_nil)))) fe_int) (fa_cons (fe_op L2.op_sub os_sub (fe_op op_addA os_add (fe_var 8 (pv 8)) (fe_call tk (G__law_next base) (hr.mono (by decide)) rfl (B.glo 4) k__law_next b__law_next Dfl.nil (fa_cons (fe_var 0 (pv 0)) (fa_cons fe_int fa_nil)))) fe_int) fa_nil)) rfl)) fss_nil) (fss_one (fs_ixT hu1 (fe_var 4 (pv 4)) (fa_cons (fe_var 6 (pv 6)) (fa_cons (fe_var 5 (pv 5)) fa_nil)) (fe_tup (fa_cons (fe_var 7 (pv 7)) (fa_cons (fe_var 8 (pv 8)) fa_nil)))))))))) (fss_one (fs_ret (fe_var 4 (pv 4))))))
abbrev N__law_cells : List Str := ["_law_m", "_law_nodes_here", "_law_wide", "_law_high", "_law_found", "_law_row", "_law_column", "_law_a", "_law_b", "_law_c", "_law_d"]
theorem sc__law_cells : FnScope ["_law_m", "_law_nodes_here", "_law_wide", "_law_high", "_law_found", "_law_row", "_law_column", "_law_a", "_law_b", "_law_c", "_law_d"] ["_law_m", "_law_nodes_here", "_law_wide", "_law_high"] (defScope (top 26)) := ⟨rfl, rfl, rfl, by decide +kernel, rfl, by decide +kernel, by decide +kernel⟩
theorem ok__law_cells {P : Program} {w : World} {K : PySem.W.Frag} {mg : Str → Option Value} (B : Bt K mg) (hP : PrgOk P "/claim/cut.py") : ∃ fd, (∀ base, FnL P w K mg base (TX K) 2 (ga K "_law_cells") fd ["_law_m", "_law_nodes_here", "_law_wide", "_law_high"] f__law_cells) ∧ Binds K fd ["_law_m", "_law_nodes_here", "_law_wide", "_law_high"] [] ∧ PySem.W.keepIn K (.ref (ga K "_law_cells")) = true := by
  obtain ⟨fd, F⟩ := B.c.def_ 4 (d := d__law_cells) rfl
  obtain ⟨fd__law_next, G__law_next, b__law_next, k__law_next⟩ := ok__law_next (P := P) (w := w) B hP
  refine ⟨fd, fun base => def_okD F sc__law_cells fun cdv A outer s H E W hr tk => ?_, FunD.bindsN F fun _ _ _ _ _ _ us hl => match us, hl with | [_, _, _, _], _ => rfl, F.kp⟩
  have hu := hr.units
  have hu1 := Nat.lt_of_le_of_lt (Nat.add_le_add_left (by decide : 1 ≤ 64) _) hu
  have sc := sc__law_cells
  exact (fss_cons (fs_set (i := 4) sc.nd rfl (by first | exact Or.inl rfl | exact Or.inr rfl) (fe_lst fa_nil)) (fss_cons (fs_for (passes_of rfl) rfl (fi_range1 rfl (B.free 3) (fe_var 3 (pv 3))) (fg_name 5 sc.nd rfl (by first | exact Or.inl rfl | exact Or.inr rfl)) (fss_one (fs_for (passes_of rfl) rfl (fi_range1 rfl (B.free 3) (fe_var 2 (pv 2))) (fg_name 6 sc.nd rfl (by first | exact Or.inl rfl | exact Or.inr rfl)) (fss_cons (fs_par (i := 7) (j := 8) rfl sc.nd rfl rfl (by decide) rfl rfl (fa_cons (fe_ixT hu1 (fun _ _ => rfl) (fe_var 1 (pv 1)) (fa_cons (fe_var 6 (pv 6)) (fa_cons (fe_var 5 (pv 5)) fa_nil))) (fa_cons (fe_ixT hu1 (fun _ _ => rfl) (fe_var 1 (pv 1)) (fa_cons (fe_op op_addA os_add (fe_var 6 (pv 6)) fe_int) (fa_cons (fe_var 5 (pv 5)) fa_nil))) fa_nil)) rfl) (fss_cons (fs_par (i := 9) (j := 10) rfl sc.nd rfl rfl (by decide) rfl rfl (fa_cons (fe_ixT hu1 (fun _ _ => rfl) (fe_var 1 (pv 1)) (fa_cons (fe_op op_addA os_add (fe_var 6 (pv 6)) fe_int) (fa_cons (fe_op op_addA os_add (fe_var 5 (pv 5)) fe_int) fa_nil))) (fa_cons (fe_ixT hu1 (fun _ _ => rfl) (fe_var 1 (pv 1)) (fa_cons (fe_var 6 (pv 6)) (fa_cons (fe_op op_addA os_add (fe_var 5 (pv 5)) fe_int) fa_nil))) fa_nil)) rfl) (fss_one (fs_if (ft_cmp (op_eqP hu) os_eq (by rfl) (fe_call tk (G__law_next base) (hr.mono (by decide)) rfl (B.glo 4) k__law_next b__law_next Dfl.nil (fa_cons (fe_var 0 (pv 0)) (fa_cons fe_int fa_nil))) fe_int) (fss_one (fs_set (i := 4) sc.nd rfl (by first | exact Or.inl rfl | exact Or.inr rfl) (fe_op op_addA os_add (fe_var 4 (pv 4)) (fe_lst (fa_cons (fe_tup (fa_cons (fe_var 7 (pv 7)) (fa_cons (fe_var 8 (pv 8)) (fa_cons (fe_var 9 (pv 9)) fa_nil)))) (fa_cons (fe_tup (fa_cons (fe_var 7 (pv 7)) (fa_cons (fe_var 9 (pv 9)) (fa_cons (fe_var 10 (pv 10)) fa_nil)))) fa_nil)))))) (fss_one (fs_set (i := 4) sc.nd rfl (by first | exact Or.inl rfl | exact Or.inr rfl) (fe_op op_addA os_add (fe_var 4 (pv 4)) (fe_lst (fa_cons (fe_tup (fa_cons (fe_var 7 (pv 7)) (fa_cons (fe_var 8 (pv 8)) (fa_cons (fe_var 10 (pv 10)) fa_nil)))) (fa_cons (fe_tup (fa_cons (fe_var 8 (pv 8)) (fa_cons (fe_var 9 (pv 9)) (fa_cons (fe_var 10 (pv 10)) fa_nil)))) fa_nil))))))))))))) (fss_one (fs_ret (fe_var 4 (pv 4))))))
abbrev N__law_worth : List Str := ["_law_plane_here", "_law_node"]
theorem sc__law_worth : FnScope ["_law_plane_here", "_law_node"] ["_law_plane_here", "_law_node"] (defScope (top 24)) := ⟨rfl, rfl, rfl, by decide +kernel, rfl, by decide +kernel, by decide +kernel⟩
theorem ok__law_worth {P : Program} {w : World} {K : PySem.W.Frag} {mg : Str → Option Value} (B : Bt K mg) (hP : PrgOk P "/claim/cut.py") : ∃ fd, (∀ base, FnL P w K mg base (TX K) 1 (ga K "_law_worth") fd ["_law_plane_here", "_law_node"] f__law_worth) ∧ Binds K fd ["_law_plane_here", "_law_node"] [] ∧ PySem.W.keepIn K (.ref (ga K "_law_worth")) = true := by
  obtain ⟨fd, F⟩ := B.c.def_ 5 (d := d__law_worth) rfl
  refine ⟨fd, fun base => def_okD F sc__law_worth fun cdv A outer s H E W hr tk => ?_, FunD.bindsN F fun _ _ _ _ _ _ us hl => match us, hl with | [_, _], _ => rfl, F.kp⟩
  have hu := hr.units
  have hu1 := Nat.lt_of_le_of_lt (Nat.add_le_add_left (by decide : 1 ≤ 64) _) hu
  have sc := sc__law_worth
  exact (fss_one (fs_ret (fe_op op_addA os_add (fe_op op_addA os_add (fe_ixA hu1 (fun _ _ => rfl) (fe_var 0 (pv 0)) fe_int) (fe_op op_mulA os_mul (fe_ixA hu1 (fun _ _ => rfl) (fe_var 0 (pv 0)) fe_int) (fe_ixA hu1 (fun _ _ => rfl) (fe_var 1 (pv 1)) fe_int))) (fe_op op_mulA os_mul (fe_ixA hu1 (fun _ _ => rfl) (fe_var 0 (pv 0)) fe_int) (fe_ixA hu1 (fun _ _ => rfl) (fe_var 1 (pv 1)) fe_int)))))
abbrev N__law_corner : List Str := ["_law_m", "_law_node", "_law_planes", "_law_more", "_law_deep", "_law_tint"]
theorem sc__law_corner : FnScope ["_law_m", "_law_node", "_law_planes", "_law_more", "_law_deep", "_law_tint"] ["_law_m", "_law_node", "_law_planes"] (defScope (top 25)) := ⟨rfl, rfl, rfl, by decide +kernel, rfl, by decide +kernel, by decide +kernel⟩
theorem ok__law_corner {P : Program} {w : World} {K : PySem.W.Frag} {mg : Str → Option Value} (B : Bt K mg) (hP : PrgOk P "/claim/cut.py") : ∃ fd, (∀ base, FnL P w K mg base (TX K) 2 (ga K "_law_corner") fd ["_law_m", "_law_node", "_law_planes"] f__law_corner) ∧ Binds K fd ["_law_m", "_law_node", "_law_planes"] [] ∧ PySem.W.keepIn K (.ref (ga K "_law_corner")) = true := by
  obtain ⟨fd, F⟩ := B.c.def_ 6 (d := d__law_corner) rfl
  obtain ⟨fd__law_next, G__law_next, b__law_next, k__law_next⟩ := ok__law_next (P := P) (w := w) B hP
  obtain ⟨fd__law_worth, G__law_worth, b__law_worth, k__law_worth⟩ := ok__law_worth (P := P) (w := w) B hP
  refine ⟨fd, fun base => def_okD F sc__law_corner fun cdv A outer s H E W hr tk => ?_, FunD.bindsN F fun _ _ _ _ _ _ us hl => match us, hl with | [_, _, _], _ => rfl, F.kp⟩
  have hu := hr.units
  have hu1 := Nat.lt_of_le_of_lt (Nat.add_le_add_left (by decide : 1 ≤ 64) _) hu
  have sc := sc__law_corner
  exact (fss_cons (fs_set (i := 3) sc.nd rfl (by first | exact Or.inl rfl | exact Or.inr rfl) (fe_op op_addA os_add fe_int (fe_call tk (G__law_next base) (hr.mono (by decide)) rfl (B.glo 4) k__law_next b__law_next Dfl.nil (fa_cons (fe_var 0 (pv 0)) (fa_cons fe_int fa_nil))))) (fss_cons (fs_par (i := 4) (j := 5) rfl sc.nd rfl rfl (by decide) rfl rfl (fa_cons (fe_call tk (G__law_worth base) (hr.mono (by decide)) rfl (B.glo 16) k__law_worth b__law_worth Dfl.nil (fa_cons (fe_ixA hu1 (fun _ _ => rfl) (fe_var 2 (pv 2)) fe_int) (fa_cons (fe_var 1 (pv 1)) fa_nil))) (fa_cons (fe_call tk (G__law_worth base) (hr.mono (by decide)) rfl (B.glo 16) k__law_worth b__law_worth Dfl.nil (fa_cons (fe_ixA hu1 (fun _ _ => rfl) (fe_var 2 (pv 2)) fe_int) (fa_cons (fe_var 1 (pv 1)) fa_nil))) fa_nil)) rfl) (fss_one (fs_ret (fe_tup (fa_cons (fe_op op_mulA os_mul (fe_op op_mulA os_mul fe_int (fe_var 3 (pv 3))) (fe_ixA hu1 (fun _ _ => rfl) (fe_var 1 (pv 1)) fe_int)) (fa_cons (fe_op op_mulA os_mul (fe_op op_mulA os_mul fe_int (fe_var 3 (pv 3))) (fe_ixA hu1 (fun _ _ => rfl) (fe_var 1 (pv 1)) fe_int)) (fa_cons (fe_op op_mulA os_mul (fe_op op_mulA os_mul fe_int (fe_var 3 (pv 3))) (fe_var 4 (pv 4))) (fa_cons (fe_op op_mulA os_mul fe_int (fe_var 3 (pv 3))) (fa_cons (fe_op op_mulA os_mul (fe_var 3 (pv 3)) (fe_var 5 (pv 5))) (fa_cons (fe_op op_mulA os_mul fe_int (fe_var 3 (pv 3))) fa_nil)))))))))))
abbrev N_is_whole_in : List Str := ["value", "least", "most"]
theorem sc_is_whole_in : FnScope ["value", "least", "most"] ["value", "least", "most"] (defScope (top 6)) := ⟨rfl, rfl, rfl, by decide +kernel, rfl, by decide +kernel, by decide +kernel⟩
theorem ok_is_whole_in {P : Program} {w : World} {K : PySem.W.Frag} {mg : Str → Option Value} (B : Bt K mg) (hP : PrgOk P "/claim/cut.py") : ∃ fd, (∀ base, FnL P w K mg base (TX K) 1 (ga K "is_whole_in") fd ["value", "least", "most"] f_is_whole_in) ∧ Binds K fd ["value", "least", "most"] [] ∧ PySem.W.keepIn K (.ref (ga K "is_whole_in")) = true := by
  obtain ⟨fd, F⟩ := B.c.def_ 7 (d := d_is_whole_in) rfl
  refine ⟨fd, fun base => def_okD F sc_is_whole_in fun cdv A outer s H E W hr tk => ?_, FunD.bindsN F fun _ _ _ _ _ _ us hl => match us, hl with | [_, _, _], _ => rfl, F.kp⟩
  have hu := hr.units
  have hu1 := Nat.lt_of_le_of_lt (Nat.add_le_add_left (by decide : 1 ≤ 64) _) hu
  have sc := sc_is_whole_in
  exact (fss_one (fs_ret (fe_and (fe_isi (t := .int) (fe_var 0 (pv 0)) rfl (B.free 25) rfl (B.free 15) (by decide +kernel) (by decide +kernel)) (fe_and (fe_not (fe_isi (t := .bool) (fe_var 0 (pv 0)) rfl (B.free 25) rfl (B.free 28) (by decide +kernel) (by decide +kernel))) (fe_one (fe_chain L2.op_le L2.op_le os_cmp os_cmp (by rfl) (fe_var 1 (pv 1)) (fe_var 0 (pv 0)) (fe_var 2 (pv 2))))))))
abbrev N_are_whole_in : List Str := ["value", "many", "least", "most", "part"]
theorem sc_are_whole_in : FnScope ["value", "many", "least", "most", "part"] ["value", "many", "least", "most"] (defScope (top 7)) := ⟨rfl, rfl, rfl, by decide +kernel, rfl, by decide +kernel, by decide +kernel⟩
theorem ok_are_whole_in {P : Program} {w : World} {K : PySem.W.Frag} {mg : Str → Option Value} (B : Bt K mg) (hP : PrgOk P "/claim/cut.py") : ∃ fd, (∀ base, FnL P w K mg base (TX K) 2 (ga K "are_whole_in") fd ["value", "many", "least", "most"] f_are_whole_in) ∧ Binds K fd ["value", "many", "least", "most"] [] ∧ PySem.W.keepIn K (.ref (ga K "are_whole_in")) = true := by
  obtain ⟨fd, F⟩ := B.c.def_ 8 (d := d_are_whole_in) rfl
  obtain ⟨fd_is_whole_in, G_is_whole_in, b_is_whole_in, k_is_whole_in⟩ := ok_is_whole_in (P := P) (w := w) B hP
  refine ⟨fd, fun base => def_okD F sc_are_whole_in fun cdv A outer s H E W hr tk => ?_, FunD.bindsN F fun _ _ _ _ _ _ us hl => match us, hl with | [_, _, _, _], _ => rfl, F.kp⟩
  have hu := hr.units
  have hu1 := Nat.lt_of_le_of_lt (Nat.add_le_add_left (by decide : 1 ≤ 64) _) hu
  have sc := sc_are_whole_in
  exact (fss_cons (fs_if (ft_bool (fw_or (ft_not (ft_val (fe_isi (t := .tuple) (fe_var 0 (pv 0)) rfl (B.free 25) rfl (B.free 26) (by decide +kernel) (by decide +kernel)))) (fw_or1 (ft_cmp (op_neP hu) os_ne (by rfl) (fe_b call_len cs_len rfl (B.free 1) (by decide +kernel) (fa_cons (fe_var 0 (pv 0)) fa_nil)) (fe_var 1 (pv 1)))))) (fss_one (fs_ret fe_bl)) fss_nil) (fss_one (fs_ret (fe_b (cr_all rfl) cs_all rfl (B.free 18) (by decide +kernel) (fa_cons (fe_lcW (own := [("part", 4)]) rfl sc.nd (fw_seq (fe_var 0 (pv 0))) (blkOk_by (by first | (show blkC N_are_whole_in (defScope (top 7)) _ _ = true; decide +kernel) | kernel_rfl)) (fun s H C cl fp => by exact (fg_name 4 sc.nd rfl (by first | exact Or.inl rfl | exact Or.inr rfl))) (fun s H C cl fp => by exact fts_nil) (fun s H C cl fp => by exact (fe_call takes0 (G_is_whole_in base) (hr.mono (by decide)) rfl (B.glo 27) k_is_whole_in b_is_whole_in Dfl.nil (fa_cons (fe_var 4 (pv 4)) (fa_cons (fe_var 2 (pv 2)) (fa_cons (fe_var 3 (pv 3)) fa_nil))))) (by decide)) fa_nil)))))
abbrev N_is_corner : List Str := ["value"]
theorem sc_is_corner : FnScope ["value"] ["value"] (defScope (top 12)) := ⟨rfl, rfl, rfl, by decide +kernel, rfl, by decide +kernel, by decide +kernel⟩
theorem ok_is_corner {P : Program} {w : World} {K : PySem.W.Frag} {mg : Str → Option Value} (B : Bt K mg) (hP : PrgOk P "/claim/cut.py") : ∃ fd, (∀ base, FnL P w K mg base (TX K) 3 (ga K "is_corner") fd ["value"] f_is_corner) ∧ Binds K fd ["value"] [] ∧ PySem.W.keepIn K (.ref (ga K "is_corner")) = true := by
  obtain ⟨fd, F⟩ := B.c.def_ 9 (d := d_is_corner) rfl
  obtain ⟨fd_are_whole_in, G_are_whole_in, b_are_whole_in, k_are_whole_in⟩ := ok_are_whole_in (P := P) (w := w) B hP
  refine ⟨fd, fun base => def_okD F sc_is_corner fun cdv A outer s H E W hr tk => ?_, FunD.bindsN F fun _ _ _ _ _ _ us hl => match us, hl with | [_], _ => rfl, F.kp⟩
  have hu := hr.units
  have hu1 := Nat.lt_of_le_of_lt (Nat.add_le_add_left (by decide : 1 ≤ 64) _) hu
  have sc := sc_is_corner
  exact (fss_one (fs_ret (fe_and (fe_call tk (G_are_whole_in base) (hr.mono (by decide)) rfl (B.glo 24) k_are_whole_in b_are_whole_in Dfl.nil (fa_cons (fe_var 0 (pv 0)) (fa_cons fe_int (fa_cons (fe_un L2.un_neg us_neg (fe_gc rfl (B.gc 23))) (fa_cons (fe_gc rfl (B.gc 23)) fa_nil))))) (fe_one (fe_cmp L2.op_ge os_cmp (by rfl) (fe_ixA hu1 (fun _ _ => rfl) (fe_var 0 (pv 0)) fe_int) fe_int)))))
abbrev N_eye_row : List Str := ["corner"]
theorem sc_eye_row : FnScope ["corner"] ["corner"] (defScope (top 13)) := ⟨rfl, rfl, rfl, by decide +kernel, rfl, by decide +kernel, by decide +kernel⟩
theorem ok_eye_row {P : Program} {w : World} {K : PySem.W.Frag} {mg : Str → Option Value} (B : Bt K mg) (hP : PrgOk P "/claim/cut.py") : ∃ fd, (∀ base, FnL P w K mg base (TX K) 1 (ga K "eye_row") fd ["corner"] f_eye_row) ∧ Binds K fd ["corner"] [] ∧ PySem.W.keepIn K (.ref (ga K "eye_row")) = true := by
  obtain ⟨fd, F⟩ := B.c.def_ 10 (d := d_eye_row) rfl
  refine ⟨fd, fun base => def_okD F sc_eye_row fun cdv A outer s H E W hr tk => ?_, FunD.bindsN F fun _ _ _ _ _ _ us hl => match us, hl with | [_], _ => rfl, F.kp⟩
  have hu := hr.units
  have hu1 := Nat.lt_of_le_of_lt (Nat.add_le_add_left (by decide : 1 ≤ 64) _) hu
  have sc := sc_eye_row
  exact (fss_one (fs_ret (fe_tup (fa_cons (fe_ixA hu1 (fun _ _ => rfl) (fe_var 0 (pv 0)) fe_int) (fa_cons (fe_ixA hu1 (fun _ _ => rfl) (fe_var 0 (pv 0)) fe_int) (fa_cons (fe_ixA hu1 (fun _ _ => rfl) (fe_var 0 (pv 0)) fe_int) fa_nil))))))
abbrev N_crossed_rows : List Str := ["one", "other"]
theorem sc_crossed_rows : FnScope ["one", "other"] ["one", "other"] (defScope (top 14)) := ⟨rfl, rfl, rfl, by decide +kernel, rfl, by decide +kernel, by decide +kernel⟩
theorem ok_crossed_rows {P : Program} {w : World} {K : PySem.W.Frag} {mg : Str → Option Value} (B : Bt K mg) (hP : PrgOk P "/claim/cut.py") : ∃ fd, (∀ base, FnL P w K mg base (TX K) 1 (ga K "crossed_rows") fd ["one", "other"] f_crossed_rows) ∧ Binds K fd ["one", "other"] [] ∧ PySem.W.keepIn K (.ref (ga K "crossed_rows")) = true := by
  obtain ⟨fd, F⟩ := B.c.def_ 11 (d := d_crossed_rows) rfl
  refine ⟨fd, fun base => def_okD F sc_crossed_rows fun cdv A outer s H E W hr tk => ?_, FunD.bindsN F fun _ _ _ _ _ _ us hl => match us, hl with | [_, _], _ => rfl, F.kp⟩
  have hu := hr.units
  have hu1 := Nat.lt_of_le_of_lt (Nat.add_le_add_left (by decide : 1 ≤ 64) _) hu
  have sc := sc_crossed_rows
  exact (fss_one (fs_ret (fe_tup (fa_cons (fe_op L2.op_sub os_sub (fe_op op_mulA os_mul (fe_ixA hu1 (fun _ _ => rfl) (fe_var 0 (pv 0)) fe_int) (fe_ixA hu1 (fun _ _ => rfl) (fe_var 1 (pv 1)) fe_int)) (fe_op op_mulA os_mul (fe_ixA hu1 (fun _ _ => rfl) (fe_var 0 (pv 0)) fe_int) (fe_ixA hu1 (fun _ _ => rfl) (fe_var 1 (pv 1)) fe_int))) (fa_cons (fe_op L2.op_sub os_sub (fe_op op_mulA os_mul (fe_ixA hu1 (fun _ _ => rfl) (fe_var 0 (pv 0)) fe_int) (fe_ixA hu1 (fun _ _ => rfl) (fe_var 1 (pv 1)) fe_int)) (fe_op op_mulA os_mul (fe_ixA hu1 (fun _ _ => rfl) (fe_var 0 (pv 0)) fe_int) (fe_ixA hu1 (fun _ _ => rfl) (fe_var 1 (pv 1)) fe_int))) (fa_cons (fe_op L2.op_sub os_sub (fe_op op_mulA os_mul (fe_ixA hu1 (fun _ _ => rfl) (fe_var 0 (pv 0)) fe_int) (fe_ixA hu1 (fun _ _ => rfl) (fe_var 1 (pv 1)) fe_int)) (fe_op op_mulA os_mul (fe_ixA hu1 (fun _ _ => rfl) (fe_var 0 (pv 0)) fe_int) (fe_ixA hu1 (fun _ _ => rfl) (fe_var 1 (pv 1)) fe_int))) fa_nil))))))
abbrev N_linear_edge : List Str := ["one", "other", "sign", "x", "y", "w"]
theorem sc_linear_edge : FnScope ["one", "other", "sign", "x", "y", "w"] ["one", "other", "sign"] (defScope (top 15)) := ⟨rfl, rfl, rfl, by decide +kernel, rfl, by decide +kernel, by decide +kernel⟩
theorem ok_linear_edge {P : Program} {w : World} {K : PySem.W.Frag} {mg : Str → Option Value} (B : Bt K mg) (hP : PrgOk P "/claim/cut.py") : ∃ fd, (∀ base, FnL P w K mg base (TX K) 2 (ga K "linear_edge") fd ["one", "other", "sign"] f_linear_edge) ∧ Binds K fd ["one", "other", "sign"] [] ∧ PySem.W.keepIn K (.ref (ga K "linear_edge")) = true := by
  obtain ⟨fd, F⟩ := B.c.def_ 12 (d := d_linear_edge) rfl
  obtain ⟨fd_crossed_rows, G_crossed_rows, b_crossed_rows, k_crossed_rows⟩ := ok_crossed_rows (P := P) (w := w) B hP
  refine ⟨fd, fun base => def_okD F sc_linear_edge fun cdv A outer s H E W hr tk => ?_, FunD.bindsN F fun _ _ _ _ _ _ us hl => match us, hl with | [_, _, _], _ => rfl, F.kp⟩
  have hu := hr.units
  have hu1 := Nat.lt_of_le_of_lt (Nat.add_le_add_left (by decide : 1 ≤ 64) _) hu
  have sc := sc_linear_edge
  exact (fss_cons (fs_asg (fg_tup rfl (fgs_cons (fg_name 3 sc.nd rfl (by first | exact Or.inl rfl | exact Or.inr rfl)) (fgs_cons (fg_name 4 sc.nd rfl (by first | exact Or.inl rfl | exact Or.inr rfl)) (fgs_cons (fg_name 5 sc.nd rfl (by first | exact Or.inl rfl | exact Or.inr rfl)) fgs_nil)))) (fe_call tk (G_crossed_rows base) (hr.mono (by decide)) rfl (B.glo 21) k_crossed_rows b_crossed_rows Dfl.nil (fa_cons (fe_var 0 (pv 0)) (fa_cons (fe_var 1 (pv 1)) fa_nil)))) (fss_one (fs_ret (fe_tup (fa_cons (fe_op op_mulA os_mul (fe_op op_mulA os_mul (fe_var 2 (pv 2)) fe_int) (fe_var 3 (pv 3))) (fa_cons (fe_op op_mulA os_mul (fe_op op_mulA os_mul (fe_var 2 (pv 2)) fe_int) (fe_var 4 (pv 4))) (fa_cons (fe_op op_mulA os_mul (fe_var 2 (pv 2)) (fe_op op_addA os_add (fe_op op_addA os_add (fe_var 3 (pv 3)) (fe_var 4 (pv 4))) (fe_op op_mulA os_mul fe_int (fe_var 5 (pv 5))))) fa_nil)))))))
abbrev N_Triangle___init__ : List Str := ["self", "one", "two", "three", "rows", "behind", "sign", "corner"]
theorem sc_Triangle___init__ : FnScope ["self", "one", "two", "three", "rows", "behind", "sign", "corner"] ["self", "one", "two", "three"] (defScope (mem 18 0)) := ⟨rfl, rfl, rfl, by decide +kernel, rfl, by decide +kernel, by decide +kernel⟩
theorem ok_Triangle___init__ {P : Program} {w : World} {K : PySem.W.Frag} {mg : Str → Option Value} (B : Bt K mg) (hP : PrgOk P "/claim/cut.py") : ∃ fd, (∀ base, FnL P w K mg base (TX K) 4 (ma K (ga K "Triangle") "__init__") fd ["self", "one", "two", "three"] f_Triangle___init__) ∧ Binds K fd ["self", "one", "two", "three"] [] ∧ PySem.W.keepIn K (.ref (ma K (ga K "Triangle") "__init__")) = true := by
  obtain ⟨fd, F⟩ := B.c.def_ 13 (d := d_Triangle___init__) rfl
  obtain ⟨fd_is_corner, G_is_corner, b_is_corner, k_is_corner⟩ := ok_is_corner (P := P) (w := w) B hP
  obtain ⟨fd_eye_row, G_eye_row, b_eye_row, k_eye_row⟩ := ok_eye_row (P := P) (w := w) B hP
  obtain ⟨fd_crossed_rows, G_crossed_rows, b_crossed_rows, k_crossed_rows⟩ := ok_crossed_rows (P := P) (w := w) B hP
  obtain ⟨fd_linear_edge, G_linear_edge, b_linear_edge, k_linear_edge⟩ := ok_linear_edge (P := P) (w := w) B hP
  refine ⟨fd, fun base => def_okD F sc_Triangle___init__ fun cdv A outer s H E W hr tk => ?_, FunD.bindsN F fun _ _ _ _ _ _ us hl => match us, hl with | [_, _, _, _], _ => rfl, F.kp⟩
  have hu := hr.units
  have hu1 := Nat.lt_of_le_of_lt (Nat.add_le_add_left (by decide : 1 ≤ 64) _) hu
  have sc := sc_Triangle___init__
  exact (fss_cons (fs_if (ft_not (ft_val (fe_b (cr_all rfl) cs_all rfl (B.free 18) (by decide +kernel) (fa_cons (fe_lcW (own := [("corner", 7)]) rfl sc.nd (fw_seq (fe_tup (fa_cons (fe_var 1 (pv 1)) (fa_cons (fe_var 2 (pv 2)) (fa_cons (fe_var 3 (pv 3)) fa_nil))))) (blkOk_by (by first | (show blkC N_Triangle___init__ (defScope (mem 18 0)) _ _ = true; decide +kernel) | kernel_rfl)) (fun s H C cl fp => by exact (fg_name 7 sc.nd rfl (by first | exact Or.inl rfl | exact Or.inr rfl))) (fun s H C cl fp => by exact fts_nil) (fun s H C cl fp => by exact (fe_call takes0 (G_is_corner base) (hr.mono (by decide)) rfl (B.glo 17) k_is_corner b_is_corner Dfl.nil (fa_cons (fe_var 7 (pv 7)) fa_nil))) (by decide)) fa_nil)))) (fss_one (fs_raise rfl tk (err_BadCorner B) rfl hP (hr.mono (by decide)) rfl (B.glo 19) (fe_str (y := [110, 111, 32, 99, 111, 114, 110, 101, 114]) rfl))) fss_nil) (fss_cons (fs_fld (at_corners B) (fe_var 0 (pv 0)) (fe_tup (fa_cons (fe_var 1 (pv 1)) (fa_cons (fe_var 2 (pv 2)) (fa_cons (fe_var 3 (pv 3)) fa_nil))))) (fss_cons (by first | exact fs_setLcW (i := 4) (own := [("corner", 7)]) rfl sc.nd rfl rfl rfl (fw_seq (fe_fld (at_corners B) (fe_var 0 (pv 0)))) (blkOk_by (by first | (show blkC N_Triangle___init__ (defScope (mem 18 0)) _ _ = true; decide +kernel) | kernel_rfl)) (fun s H C cl fp => by exact (fg_name 7 sc.nd rfl (by first | exact Or.inl rfl | exact Or.inr rfl))) (fun s H C cl fp => by exact fts_nil) (fun s H C cl fp => by exact (fe_call takes0 (G_eye_row base) (hr.mono (by decide)) rfl (B.glo 20) k_eye_row b_eye_row Dfl.nil (fa_cons (fe_var 7 (pv 7)) fa_nil))) (by decide) | exact fs_set (i := 4) sc.nd rfl (by first | exact Or.inl rfl | exact Or.inr rfl) (fe_lcW (own := [("corner", 7)]) rfl sc.nd (fw_seq (fe_fld (at_corners B) (fe_var 0 (pv 0)))) (blkOk_by (by first | (show blkC N_Triangle___init__ (defScope (mem 18 0)) _ _ = true; decide +kernel) | kernel_rfl)) (fun s H C cl fp => by exact (fg_name 7 sc.nd rfl (by first | exact Or.inl rfl | exact Or.inr rfl))) (fun s H C cl fp => by exact fts_nil) (fun s H C cl fp => by exact (fe_call takes0 (G_eye_row base) (hr.mono (by decide)) rfl (B.glo 20) k_eye_row b_eye_row Dfl.nil (fa_cons (fe_var 7 (pv 7)) fa_nil))) (by decide))) (fss_cons (fs_set (i := 5) sc.nd rfl (by first | exact Or.inl rfl | exact Or.inr rfl) (fe_call tk (G_crossed_rows base) (hr.mono (by decide)) rfl (B.glo 21) k_crossed_rows b_crossed_rows Dfl.nil (fa_cons (fe_ixA hu1 (fun _ _ => rfl) (fe_var 4 (pv 4)) fe_int) (fa_cons (fe_ixA hu1 (fun _ _ => rfl) (fe_var 4 (pv 4)) fe_int) fa_nil)))) (fss_cons (fs_fld (at_own_size B) (fe_var 0 (pv 0)) (fe_op op_addA os_add (fe_op op_addA os_add (fe_op op_mulA os_mul (fe_ixA hu1 (fun _ _ => rfl) (fe_ixA hu1 (fun _ _ => rfl) (fe_var 4 (pv 4)) fe_int) fe_int) (fe_ixA hu1 (fun _ _ => rfl) (fe_var 5 (pv 5)) fe_int)) (fe_op op_mulA os_mul (fe_ixA hu1 (fun _ _ => rfl) (fe_ixA hu1 (fun _ _ => rfl) (fe_var 4 (pv 4)) fe_int) fe_int) (fe_ixA hu1 (fun _ _ => rfl) (fe_var 5 (pv 5)) fe_int))) (fe_op op_mulA os_mul (fe_ixA hu1 (fun _ _ => rfl) (fe_ixA hu1 (fun _ _ => rfl) (fe_var 4 (pv 4)) fe_int) fe_int) (fe_ixA hu1 (fun _ _ => rfl) (fe_var 5 (pv 5)) fe_int)))) (fss_cons (fs_set (i := 6) sc.nd rfl (by first | exact Or.inl rfl | exact Or.inr rfl) (fe_if (ft_cmp L2.op_lt os_cmp (by rfl) (fe_fld (at_own_size B) (fe_var 0 (pv 0))) fe_int) (fe_un L2.un_neg us_neg fe_int) fe_int)) (fss_one (fs_fld (at_own_edges B) (fe_var 0 (pv 0)) (fe_tup (fa_cons (fe_call tk (G_linear_edge base) (hr.mono (by decide)) rfl (B.glo 22) k_linear_edge b_linear_edge Dfl.nil (fa_cons (fe_ixA hu1 (fun _ _ => rfl) (fe_var 4 (pv 4)) fe_int) (fa_cons (fe_ixA hu1 (fun _ _ => rfl) (fe_var 4 (pv 4)) fe_int) (fa_cons (fe_var 6 (pv 6)) fa_nil)))) (fa_cons (fe_call tk (G_linear_edge base) (hr.mono (by decide)) rfl (B.glo 22) k_linear_edge b_linear_edge Dfl.nil (fa_cons (fe_ixA hu1 (fun _ _ => rfl) (fe_var 4 (pv 4)) fe_int) (fa_cons (fe_ixA hu1 (fun _ _ => rfl) (fe_var 4 (pv 4)) fe_int) (fa_cons (fe_var 6 (pv 6)) fa_nil)))) (fa_cons (fe_call tk (G_linear_edge base) (hr.mono (by decide)) rfl (B.glo 22) k_linear_edge b_linear_edge Dfl.nil (fa_cons (fe_ixA hu1 (fun _ _ => rfl) (fe_var 4 (pv 4)) fe_int) (fa_cons (fe_ixA hu1 (fun _ _ => rfl) (fe_var 4 (pv 4)) fe_int) (fa_cons (fe_var 6 (pv 6)) fa_nil)))) fa_nil))))))))))))
abbrev N_Triangle_facing : List Str := ["self"]
theorem sc_Triangle_facing : FnScope ["self"] ["self"] (defScope (mem 18 3)) := ⟨rfl, rfl, rfl, by decide +kernel, rfl, by decide +kernel, by decide +kernel⟩
theorem ok_Triangle_facing {P : Program} {w : World} {K : PySem.W.Frag} {mg : Str → Option Value} (B : Bt K mg) (hP : PrgOk P "/claim/cut.py") : ∃ fd, (∀ base, FnL P w K mg base (TX K) 1 ((pgA K "Triangle" "facing").2) fd ["self"] f_Triangle_facing) ∧ Binds K fd ["self"] [] ∧ PySem.W.keepIn K (.ref ((pgA K "Triangle" "facing").2)) = true := by
  obtain ⟨fd, F⟩ := B.c.def_ 14 (d := d_Triangle_facing) rfl
  refine ⟨fd, fun base => def_okD F sc_Triangle_facing fun cdv A outer s H E W hr tk => ?_, FunD.bindsN F fun _ _ _ _ _ _ us hl => match us, hl with | [_], _ => rfl, F.kp⟩
  have hu := hr.units
  have hu1 := Nat.lt_of_le_of_lt (Nat.add_le_add_left (by decide : 1 ≤ 64) _) hu
  have sc := sc_Triangle_facing
  exact (fss_one (fs_ret (fe_op L2.op_sub os_sub (fe_bt call_int1 cs_int rfl (B.free 15) (by decide +kernel) (fa_cons (fe_cmp L2.op_gt os_cmp (by rfl) (fe_fld (at_own_size B) (fe_var 0 (pv 0))) fe_int) fa_nil)) (fe_bt call_int1 cs_int rfl (B.free 15) (by decide +kernel) (fa_cons (fe_cmp L2.op_lt os_cmp (by rfl) (fe_fld (at_own_size B) (fe_var 0 (pv 0))) fe_int) fa_nil)))))
abbrev N_need_whole_place : List Str := ["value"]
theorem sc_need_whole_place : FnScope ["value"] ["value"] (defScope (top 16)) := ⟨rfl, rfl, rfl, by decide +kernel, rfl, by decide +kernel, by decide +kernel⟩
theorem ok_need_whole_place {P : Program} {w : World} {K : PySem.W.Frag} {mg : Str → Option Value} (B : Bt K mg) (hP : PrgOk P "/claim/cut.py") : ∃ fd, (∀ base, FnL P w K mg base (TX K) 3 (ga K "need_whole_place") fd ["value"] f_need_whole_place) ∧ Binds K fd ["value"] [] ∧ PySem.W.keepIn K (.ref (ga K "need_whole_place")) = true := by
  obtain ⟨fd, F⟩ := B.c.def_ 15 (d := d_need_whole_place) rfl
  obtain ⟨fd_are_whole_in, G_are_whole_in, b_are_whole_in, k_are_whole_in⟩ := ok_are_whole_in (P := P) (w := w) B hP
  refine ⟨fd, fun base => def_okD F sc_need_whole_place fun cdv A outer s H E W hr tk => ?_, FunD.bindsN F fun _ _ _ _ _ _ us hl => match us, hl with | [_], _ => rfl, F.kp⟩
  have hu := hr.units
  have hu1 := Nat.lt_of_le_of_lt (Nat.add_le_add_left (by decide : 1 ≤ 64) _) hu
  have sc := sc_need_whole_place
  exact (fss_one (fs_if (ft_not (ft_val (fe_call tk (G_are_whole_in base) (hr.mono (by decide)) rfl (B.glo 24) k_are_whole_in b_are_whole_in Dfl.nil (fa_cons (fe_var 0 (pv 0)) (fa_cons fe_int (fa_cons (fe_un L2.un_neg us_neg (fe_gc rfl (B.gc 23))) (fa_cons (fe_gc rfl (B.gc 23)) fa_nil))))))) (fss_one (fs_raise rfl tk (err_BadPlace B) rfl hP (hr.mono (by decide)) rfl (B.glo 36) (fe_str (y := [110, 111, 32, 112, 97, 105, 114, 32, 111, 102, 32, 105, 110, 116, 101, 103, 101, 114, 115]) rfl))) fss_nil))
abbrev N_Triangle_values_at : List Str := ["self", "place", "i", "j", "a", "b", "c"]
theorem sc_Triangle_values_at : FnScope ["self", "place", "i", "j", "a", "b", "c"] ["self", "place"] (defScope (mem 18 5)) := ⟨rfl, rfl, rfl, by decide +kernel, rfl, by decide +kernel, by decide +kernel⟩
theorem ok_Triangle_values_at {P : Program} {w : World} {K : PySem.W.Frag} {mg : Str → Option Value} (B : Bt K mg) (hP : PrgOk P "/claim/cut.py") : ∃ fd, (∀ base, FnL P w K mg base (TX K) 1 (ma K (ga K "Triangle") "values_at") fd ["self", "place"] f_Triangle_values_at) ∧ Binds K fd ["self", "place"] [] ∧ PySem.W.keepIn K (.ref (ma K (ga K "Triangle") "values_at")) = true := by
  obtain ⟨fd, F⟩ := B.c.def_ 16 (d := d_Triangle_values_at) rfl
  refine ⟨fd, fun base => def_okD F sc_Triangle_values_at fun cdv A outer s H E W hr tk => ?_, FunD.bindsN F fun _ _ _ _ _ _ us hl => match us, hl with | [_, _], _ => rfl, F.kp⟩
  have hu := hr.units
  have hu1 := Nat.lt_of_le_of_lt (Nat.add_le_add_left (by decide : 1 ≤ 64) _) hu
  have sc := sc_Triangle_values_at
  exact (fss_cons (fs_asg (fg_tup rfl (fgs_cons (fg_name 2 sc.nd rfl (by first | exact Or.inl rfl | exact Or.inr rfl)) (fgs_cons (fg_name 3 sc.nd rfl (by first | exact Or.inl rfl | exact Or.inr rfl)) fgs_nil))) (fe_var 1 (pv 1))) (fss_one (fs_ret (fe_lcW (own := [("a", 4), ("b", 5), ("c", 6)]) rfl sc.nd (fw_seq (fe_fld (at_own_edges B) (fe_var 0 (pv 0)))) (blkOk_by (by first | (show blkC N_Triangle_values_at (defScope (mem 18 5)) _ _ = true; decide +kernel) | kernel_rfl)) (fun s H C cl fp => by exact (fg_tup rfl (fgs_cons (fg_name 4 sc.nd rfl (by first | exact Or.inl rfl | exact Or.inr rfl)) (fgs_cons (fg_name 5 sc.nd rfl (by first | exact Or.inl rfl | exact Or.inr rfl)) (fgs_cons (fg_name 6 sc.nd rfl (by first | exact Or.inl rfl | exact Or.inr rfl)) fgs_nil))))) (fun s H C cl fp => by exact fts_nil) (fun s H C cl fp => by exact (fe_op op_addA os_add (fe_op op_addA os_add (fe_op op_mulA os_mul (fe_var 4 (pv 4)) (fe_var 2 (pv 2))) (fe_op op_mulA os_mul (fe_var 5 (pv 5)) (fe_var 3 (pv 3)))) (fe_var 6 (pv 6)))) (by decide)))))
abbrev N_is_let_in : List Str := ["edge", "value"]
theorem sc_is_let_in : FnScope ["edge", "value"] ["edge", "value"] (defScope (top 17)) := ⟨rfl, rfl, rfl, by decide +kernel, rfl, by decide +kernel, by decide +kernel⟩
theorem ok_is_let_in {P : Program} {w : World} {K : PySem.W.Frag} {mg : Str → Option Value} (B : Bt K mg) (hP : PrgOk P "/claim/cut.py") : ∃ fd, (∀ base, FnL P w K mg base (TX K) 1 (ga K "is_let_in") fd ["edge", "value"] f_is_let_in) ∧ Binds K fd ["edge", "value"] [] ∧ PySem.W.keepIn K (.ref (ga K "is_let_in")) = true := by
  obtain ⟨fd, F⟩ := B.c.def_ 17 (d := d_is_let_in) rfl
  refine ⟨fd, fun base => def_okD F sc_is_let_in fun cdv A outer s H E W hr tk => ?_, FunD.bindsN F fun _ _ _ _ _ _ us hl => match us, hl with | [_, _], _ => rfl, F.kp⟩
  have hu := hr.units
  have hu1 := Nat.lt_of_le_of_lt (Nat.add_le_add_left (by decide : 1 ≤ 64) _) hu
  have sc := sc_is_let_in
  exact (fss_one (fs_ret (fe_or (fe_cmp L2.op_gt os_cmp (by rfl) (fe_var 1 (pv 1)) fe_int) (fe_one (fe_and (fe_cmp (op_eqP hu) os_eq (by rfl) (fe_var 1 (pv 1)) fe_int) (fe_one (fe_or (fe_cmp L2.op_gt os_cmp (by rfl) (fe_ixA hu1 (fun _ _ => rfl) (fe_var 0 (pv 0)) fe_int) fe_int) (fe_one (fe_and (fe_cmp (op_eqP hu) os_eq (by rfl) (fe_ixA hu1 (fun _ _ => rfl) (fe_var 0 (pv 0)) fe_int) fe_int) (fe_one (fe_cmp L2.op_gt os_cmp (by rfl) (fe_ixA hu1 (fun _ _ => rfl) (fe_var 0 (pv 0)) fe_int) fe_int)))))))))))
abbrev N_Triangle_is_over : List Str := ["self", "values", "edge", "value"]
theorem sc_Triangle_is_over : FnScope ["self", "values", "edge", "value"] ["self", "values"] (defScope (mem 18 7)) := ⟨rfl, rfl, rfl, by decide +kernel, rfl, by decide +kernel, by decide +kernel⟩
theorem ok_Triangle_is_over {P : Program} {w : World} {K : PySem.W.Frag} {mg : Str → Option Value} (B : Bt K mg) (hP : PrgOk P "/claim/cut.py") : ∃ fd, (∀ base, FnL P w K mg base (TX K) 2 (ma K (ga K "Triangle") "is_over") fd ["self", "values"] f_Triangle_is_over) ∧ Binds K fd ["self", "values"] [] ∧ PySem.W.keepIn K (.ref (ma K (ga K "Triangle") "is_over")) = true := by
  obtain ⟨fd, F⟩ := B.c.def_ 18 (d := d_Triangle_is_over) rfl
  obtain ⟨fd_is_let_in, G_is_let_in, b_is_let_in, k_is_let_in⟩ := ok_is_let_in (P := P) (w := w) B hP
  refine ⟨fd, fun base => def_okD F sc_Triangle_is_over fun cdv A outer s H E W hr tk => ?_, FunD.bindsN F fun _ _ _ _ _ _ us hl => match us, hl with | [_, _], _ => rfl, F.kp⟩
  have hu := hr.units
  have hu1 := Nat.lt_of_le_of_lt (Nat.add_le_add_left (by decide : 1 ≤ 64) _) hu
  have sc := sc_Triangle_is_over
  exact (fss_one (fs_ret (fe_and (fe_cmp (op_neP hu) os_ne (by rfl) (fe_fld (at_own_size B) (fe_var 0 (pv 0))) fe_int) (fe_one (fe_b (cr_all rfl) cs_all rfl (B.free 18) (by decide +kernel) (fa_cons (fe_lcW (own := [("edge", 2), ("value", 3)]) rfl sc.nd (fw_zip rfl (B.free 37) (fa_cons (fe_fld (at_own_edges B) (fe_var 0 (pv 0))) (fa_cons (fe_var 1 (pv 1)) fa_nil))) (blkOk_by (by first | (show blkC N_Triangle_is_over (defScope (mem 18 7)) _ _ = true; decide +kernel) | kernel_rfl)) (fun s H C cl fp => by exact (fg_tup rfl (fgs_cons (fg_name 2 sc.nd rfl (by first | exact Or.inl rfl | exact Or.inr rfl)) (fgs_cons (fg_name 3 sc.nd rfl (by first | exact Or.inl rfl | exact Or.inr rfl)) fgs_nil)))) (fun s H C cl fp => by exact fts_nil) (fun s H C cl fp => by exact (fe_call takes0 (G_is_let_in base) (hr.mono (by decide)) rfl (B.glo 38) k_is_let_in b_is_let_in Dfl.nil (fa_cons (fe_var 2 (pv 2)) (fa_cons (fe_var 3 (pv 3)) fa_nil)))) (by decide)) fa_nil))))))
abbrev N_Triangle_covers : List Str := ["self", "place"]
theorem sc_Triangle_covers : FnScope ["self", "place"] ["self", "place"] (defScope (mem 18 8)) := ⟨rfl, rfl, rfl, by decide +kernel, rfl, by decide +kernel, by decide +kernel⟩
theorem ok_Triangle_covers {P : Program} {w : World} {K : PySem.W.Frag} {mg : Str → Option Value} (B : Bt K mg) (hP : PrgOk P "/claim/cut.py") : ∃ fd, (∀ base, FnL P w K mg base (TX K) 4 (ma K (ga K "Triangle") "covers") fd ["self", "place"] f_Triangle_covers) ∧ Binds K fd ["self", "place"] [] ∧ PySem.W.keepIn K (.ref (ma K (ga K "Triangle") "covers")) = true := by
  obtain ⟨fd, F⟩ := B.c.def_ 19 (d := d_Triangle_covers) rfl
  obtain ⟨fd_need_whole_place, G_need_whole_place, b_need_whole_place, k_need_whole_place⟩ := ok_need_whole_place (P := P) (w := w) B hP
  obtain ⟨fd_Triangle_values_at, G_Triangle_values_at, b_Triangle_values_at, k_Triangle_values_at⟩ := ok_Triangle_values_at (P := P) (w := w) B hP
  obtain ⟨fd_Triangle_is_over, G_Triangle_is_over, b_Triangle_is_over, k_Triangle_is_over⟩ := ok_Triangle_is_over (P := P) (w := w) B hP
  refine ⟨fd, fun base => def_okD F sc_Triangle_covers fun cdv A outer s H E W hr tk => ?_, FunD.bindsN F fun _ _ _ _ _ _ us hl => match us, hl with | [_, _], _ => rfl, F.kp⟩
  have hu := hr.units
  have hu1 := Nat.lt_of_le_of_lt (Nat.add_le_add_left (by decide : 1 ≤ 64) _) hu
  have sc := sc_Triangle_covers
  exact (fss_cons (fs_expr (fe_call tk (G_need_whole_place base) (hr.mono (by decide)) rfl (B.glo 33) k_need_whole_place b_need_whole_place Dfl.nil (fa_cons (fe_var 1 (pv 1)) fa_nil))) (fss_one (fs_ret (fe_meth (c := 0) tk ⟨⟨_, rfl, by decide⟩, B.cls 11, B.meth 35⟩ (G_Triangle_is_over base) (hr.mono (by decide)) b_Triangle_is_over Dfl.nil (fe_var 0 (pv 0)) (fa_cons (fe_meth (c := 0) tk ⟨⟨_, rfl, by decide⟩, B.cls 11, B.meth 34⟩ (G_Triangle_values_at base) (hr.mono (by decide)) b_Triangle_values_at Dfl.nil (fe_var 0 (pv 0)) (fa_cons (fe_var 1 (pv 1)) fa_nil)) fa_nil)))))
abbrev N_Triangle_depth_by : List Str := ["self", "values", "near", "value", "corner"]
theorem sc_Triangle_depth_by : FnScope ["self", "values", "near", "value", "corner"] ["self", "values"] (defScope (mem 18 9)) := ⟨rfl, rfl, rfl, by decide +kernel, rfl, by decide +kernel, by decide +kernel⟩
theorem ok_Triangle_depth_by {P : Program} {w : World} {K : PySem.W.Frag} {mg : Str → Option Value} (B : Bt K mg) (hP : PrgOk P "/claim/cut.py") : ∃ fd, (∀ base, FnL P w K mg base (TX K) 1 (ma K (ga K "Triangle") "depth_by") fd ["self", "values"] f_Triangle_depth_by) ∧ Binds K fd ["self", "values"] [] ∧ PySem.W.keepIn K (.ref (ma K (ga K "Triangle") "depth_by")) = true := by
  obtain ⟨fd, F⟩ := B.c.def_ 20 (d := d_Triangle_depth_by) rfl
  refine ⟨fd, fun base => def_okD F sc_Triangle_depth_by fun cdv A outer s H E W hr tk => ?_, FunD.bindsN F fun _ _ _ _ _ _ us hl => match us, hl with | [_, _], _ => rfl, F.kp⟩
  have hu := hr.units
  have hu1 := Nat.lt_of_le_of_lt (Nat.add_le_add_left (by decide : 1 ≤ 64) _) hu
  have sc := sc_Triangle_depth_by
  exact (fss_cons (fs_set (i := 2) sc.nd rfl (by first | exact Or.inl rfl | exact Or.inr rfl) (fe_b (cr_sum rfl) cs_sum rfl (B.free 42) (by decide +kernel) (fa_cons (fe_lcW (own := [("value", 3), ("corner", 4)]) rfl sc.nd (fw_zip rfl (B.free 37) (fa_cons (fe_var 1 (pv 1)) (fa_cons (fe_fld (at_corners B) (fe_var 0 (pv 0))) fa_nil))) (blkOk_by (by first | (show blkC N_Triangle_depth_by (defScope (mem 18 9)) _ _ = true; decide +kernel) | kernel_rfl)) (fun s H C cl fp => by exact (fg_tup rfl (fgs_cons (fg_name 3 sc.nd rfl (by first | exact Or.inl rfl | exact Or.inr rfl)) (fgs_cons (fg_name 4 sc.nd rfl (by first | exact Or.inl rfl | exact Or.inr rfl)) fgs_nil)))) (fun s H C cl fp => by exact fts_nil) (fun s H C cl fp => by exact (fe_op op_mulA os_mul (fe_var 3 (pv 3)) (fe_ixA hu1 (fun _ _ => rfl) (fe_var 4 (pv 4)) fe_int))) (by decide)) fa_nil))) (fss_one (fs_ret (fe_op L2.op_fdivW os_div (fe_var 2 (pv 2)) (fe_op op_mulA os_mul fe_int (fe_b call_abs cs_abs rfl (B.free 45) (by decide +kernel) (fa_cons (fe_fld (at_own_size B) (fe_var 0 (pv 0))) fa_nil)))))))
abbrev N_Triangle_fragment_so : List Str := ["self", "place", "values", "depth", "tint", "value", "corner"]
theorem sc_Triangle_fragment_so : FnScope ["self", "place", "values", "depth", "tint", "value", "corner"] ["self", "place"] (defScope (mem 18 11)) := ⟨rfl, rfl, rfl, by decide +kernel, rfl, by decide +kernel, by decide +kernel⟩
theorem ok_Triangle_fragment_so {P : Program} {w : World} {K : PySem.W.Frag} {mg : Str → Option Value} (B : Bt K mg) (hP : PrgOk P "/claim/cut.py") : ∃ fd, (∀ base, FnL P w K mg base (TX K) 3 (ma K (ga K "Triangle") "fragment_so") fd ["self", "place"] f_Triangle_fragment_so) ∧ Binds K fd ["self", "place"] [] ∧ PySem.W.keepIn K (.ref (ma K (ga K "Triangle") "fragment_so")) = true := by
  obtain ⟨fd, F⟩ := B.c.def_ 21 (d := d_Triangle_fragment_so) rfl
  obtain ⟨fd_Triangle_values_at, G_Triangle_values_at, b_Triangle_values_at, k_Triangle_values_at⟩ := ok_Triangle_values_at (P := P) (w := w) B hP
  obtain ⟨fd_Triangle_is_over, G_Triangle_is_over, b_Triangle_is_over, k_Triangle_is_over⟩ := ok_Triangle_is_over (P := P) (w := w) B hP
  obtain ⟨fd_Triangle_depth_by, G_Triangle_depth_by, b_Triangle_depth_by, k_Triangle_depth_by⟩ := ok_Triangle_depth_by (P := P) (w := w) B hP
  refine ⟨fd, fun base => def_okD F sc_Triangle_fragment_so fun cdv A outer s H E W hr tk => ?_, FunD.bindsN F fun _ _ _ _ _ _ us hl => match us, hl with | [_, _], _ => rfl, F.kp⟩
  have hu := hr.units
  have hu1 := Nat.lt_of_le_of_lt (Nat.add_le_add_left (by decide : 1 ≤ 64) _) hu
  have sc := sc_Triangle_fragment_so
  exact (fss_cons (fs_set (i := 2) sc.nd rfl (by first | exact Or.inl rfl | exact Or.inr rfl) (fe_meth (c := 0) tk ⟨⟨_, rfl, by decide⟩, B.cls 11, B.meth 34⟩ (G_Triangle_values_at base) (hr.mono (by decide)) b_Triangle_values_at Dfl.nil (fe_var 0 (pv 0)) (fa_cons (fe_var 1 (pv 1)) fa_nil))) (fss_cons (fs_if (ft_not (ft_val (fe_meth (c := 0) tk ⟨⟨_, rfl, by decide⟩, B.cls 11, B.meth 35⟩ (G_Triangle_is_over base) (hr.mono (by decide)) b_Triangle_is_over Dfl.nil (fe_var 0 (pv 0)) (fa_cons (fe_var 2 (pv 2)) fa_nil)))) (fss_one (fs_ret fe_non)) fss_nil) (fss_cons (fs_set (i := 3) sc.nd rfl (by first | exact Or.inl rfl | exact Or.inr rfl) (fe_meth (c := 0) tk ⟨⟨_, rfl, by decide⟩, B.cls 11, B.meth 40⟩ (G_Triangle_depth_by base) (hr.mono (by decide)) b_Triangle_depth_by Dfl.nil (fe_var 0 (pv 0)) (fa_cons (fe_var 2 (pv 2)) fa_nil))) (fss_cons (fs_if (ft_not (ft_chain L2.op_le L2.op_lt os_cmp os_cmp (by rfl) fe_int (fe_var 3 (pv 3)) (fe_gc rfl (B.gc 41)))) (fss_one (fs_ret fe_non)) fss_nil) (fss_cons (fs_set (i := 4) sc.nd rfl (by first | exact Or.inl rfl | exact Or.inr rfl) (fe_b (cr_sum rfl) cs_sum rfl (B.free 42) (by decide +kernel) (fa_cons (fe_lcW (own := [("value", 5), ("corner", 6)]) rfl sc.nd (fw_zip rfl (B.free 37) (fa_cons (fe_var 2 (pv 2)) (fa_cons (fe_fld (at_corners B) (fe_var 0 (pv 0))) fa_nil))) (blkOk_by (by first | (show blkC N_Triangle_fragment_so (defScope (mem 18 11)) _ _ = true; decide +kernel) | kernel_rfl)) (fun s H C cl fp => by exact (fg_tup rfl (fgs_cons (fg_name 5 sc.nd rfl (by first | exact Or.inl rfl | exact Or.inr rfl)) (fgs_cons (fg_name 6 sc.nd rfl (by first | exact Or.inl rfl | exact Or.inr rfl)) fgs_nil)))) (fun s H C cl fp => by exact fts_nil) (fun s H C cl fp => by exact (fe_op op_mulA os_mul (fe_var 5 (pv 5)) (fe_ixA hu1 (fun _ _ => rfl) (fe_var 6 (pv 6)) fe_int))) (by decide)) fa_nil))) (fss_cons (fs_set (i := 4) sc.nd rfl (by first | exact Or.inl rfl | exact Or.inr rfl) (fe_op L2.op_fdivW os_div (fe_var 4 (pv 4)) (fe_b (cr_sum rfl) cs_sum rfl (B.free 42) (by decide +kernel) (fa_cons (fe_lcW (own := [("value", 5), ("corner", 6)]) rfl sc.nd (fw_zip rfl (B.free 37) (fa_cons (fe_var 2 (pv 2)) (fa_cons (fe_fld (at_corners B) (fe_var 0 (pv 0))) fa_nil))) (blkOk_by (by first | (show blkC N_Triangle_fragment_so (defScope (mem 18 11)) _ _ = true; decide +kernel) | kernel_rfl)) (fun s H C cl fp => by exact (fg_tup rfl (fgs_cons (fg_name 5 sc.nd rfl (by first | exact Or.inl rfl | exact Or.inr rfl)) (fgs_cons (fg_name 6 sc.nd rfl (by first | exact Or.inl rfl | exact Or.inr rfl)) fgs_nil)))) (fun s H C cl fp => by exact fts_nil) (fun s H C cl fp => by exact (fe_op op_mulA os_mul (fe_var 5 (pv 5)) (fe_ixA hu1 (fun _ _ => rfl) (fe_var 6 (pv 6)) fe_int))) (by decide)) fa_nil)))) (fss_one (fs_ret (fe_tup (fa_cons (fe_b (call_max2 rfl) cs_max2 rfl (B.free 44) (by decide +kernel) (fa_cons fe_int (fa_cons (fe_b (call_min2 rfl) cs_min2 rfl (B.free 2) (by decide +kernel) (fa_cons (fe_op L2.op_sub os_sub (fe_gc rfl (B.gc 43)) fe_int) (fa_cons (fe_var 4 (pv 4)) fa_nil))) fa_nil))) (fa_cons (fe_var 3 (pv 3)) fa_nil)))))))))))
abbrev N_Triangle_fragment_at : List Str := ["self", "place"]
theorem sc_Triangle_fragment_at : FnScope ["self", "place"] ["self", "place"] (defScope (mem 18 10)) := ⟨rfl, rfl, rfl, by decide +kernel, rfl, by decide +kernel, by decide +kernel⟩
theorem ok_Triangle_fragment_at {P : Program} {w : World} {K : PySem.W.Frag} {mg : Str → Option Value} (B : Bt K mg) (hP : PrgOk P "/claim/cut.py") : ∃ fd, (∀ base, FnL P w K mg base (TX K) 4 (ma K (ga K "Triangle") "fragment_at") fd ["self", "place"] f_Triangle_fragment_at) ∧ Binds K fd ["self", "place"] [] ∧ PySem.W.keepIn K (.ref (ma K (ga K "Triangle") "fragment_at")) = true := by
  obtain ⟨fd, F⟩ := B.c.def_ 22 (d := d_Triangle_fragment_at) rfl
  obtain ⟨fd_need_whole_place, G_need_whole_place, b_need_whole_place, k_need_whole_place⟩ := ok_need_whole_place (P := P) (w := w) B hP
  obtain ⟨fd_Triangle_fragment_so, G_Triangle_fragment_so, b_Triangle_fragment_so, k_Triangle_fragment_so⟩ := ok_Triangle_fragment_so (P := P) (w := w) B hP
  refine ⟨fd, fun base => def_okD F sc_Triangle_fragment_at fun cdv A outer s H E W hr tk => ?_, FunD.bindsN F fun _ _ _ _ _ _ us hl => match us, hl with | [_, _], _ => rfl, F.kp⟩
  have hu := hr.units
  have hu1 := Nat.lt_of_le_of_lt (Nat.add_le_add_left (by decide : 1 ≤ 64) _) hu
  have sc := sc_Triangle_fragment_at
  exact (fss_cons (fs_expr (fe_call tk (G_need_whole_place base) (hr.mono (by decide)) rfl (B.glo 33) k_need_whole_place b_need_whole_place Dfl.nil (fa_cons (fe_var 1 (pv 1)) fa_nil))) (fss_one (fs_ret (fe_meth (c := 0) tk ⟨⟨_, rfl, by decide⟩, B.cls 11, B.meth 39⟩ (G_Triangle_fragment_so base) (hr.mono (by decide)) b_Triangle_fragment_so Dfl.nil (fe_var 0 (pv 0)) (fa_cons (fe_var 1 (pv 1)) fa_nil)))))
abbrev N__law_due : List Str := ["_law_planes", "_law_spot", "_law_middle", "_law_depth", "_law_tint"]
theorem sc__law_due : FnScope ["_law_planes", "_law_spot", "_law_middle", "_law_depth", "_law_tint"] ["_law_planes", "_law_spot"] (defScope (top 27)) := ⟨rfl, rfl, rfl, by decide +kernel, rfl, by decide +kernel, by decide +kernel⟩
theorem ok__law_due {P : Program} {w : World} {K : PySem.W.Frag} {mg : Str → Option Value} (B : Bt K mg) (hP : PrgOk P "/claim/cut.py") : ∃ fd, (∀ base, FnL P w K mg base (TX K) 2 (ga K "_law_due") fd ["_law_planes", "_law_spot"] f__law_due) ∧ Binds K fd ["_law_planes", "_law_spot"] [] ∧ PySem.W.keepIn K (.ref (ga K "_law_due")) = true := by
  obtain ⟨fd, F⟩ := B.c.def_ 23 (d := d__law_due) rfl
  obtain ⟨fd__law_worth, G__law_worth, b__law_worth, k__law_worth⟩ := ok__law_worth (P := P) (w := w) B hP
  refine ⟨fd, fun base => def_okD F sc__law_due fun cdv A outer s H E W hr tk => ?_, FunD.bindsN F fun _ _ _ _ _ _ us hl => match us, hl with | [_, _], _ => rfl, F.kp⟩
  have hu := hr.units
  have hu1 := Nat.lt_of_le_of_lt (Nat.add_le_add_left (by decide : 1 ≤ 64) _) hu
  have sc := sc__law_due
  exact (fss_cons (fs_set (i := 2) sc.nd rfl (by first | exact Or.inl rfl | exact Or.inr rfl) (fe_tup (fa_cons (fe_op op_addA os_add (fe_op op_mulA os_mul fe_int (fe_ixA hu1 (fun _ _ => rfl) (fe_var 1 (pv 1)) fe_int)) fe_int) (fa_cons (fe_op op_addA os_add (fe_op op_mulA os_mul fe_int (fe_ixA hu1 (fun _ _ => rfl) (fe_var 1 (pv 1)) fe_int)) fe_int) fa_nil)))) (fss_cons (fs_set (i := 3) sc.nd rfl (by first | exact Or.inl rfl | exact Or.inr rfl) (fe_op L2.op_fdivW os_div (fe_call tk (G__law_worth base) (hr.mono (by decide)) rfl (B.glo 16) k__law_worth b__law_worth Dfl.nil (fa_cons (fe_ixA hu1 (fun _ _ => rfl) (fe_var 0 (pv 0)) fe_int) (fa_cons (fe_var 2 (pv 2)) fa_nil))) fe_int)) (fss_cons (fs_set (i := 4) sc.nd rfl (by first | exact Or.inl rfl | exact Or.inr rfl) (fe_op L2.op_fdivW os_div (fe_call tk (G__law_worth base) (hr.mono (by decide)) rfl (B.glo 16) k__law_worth b__law_worth Dfl.nil (fa_cons (fe_ixA hu1 (fun _ _ => rfl) (fe_var 0 (pv 0)) fe_int) (fa_cons (fe_var 2 (pv 2)) fa_nil))) fe_int)) (fss_one (fs_ret (fe_if (ft_chain L2.op_le L2.op_lt os_cmp os_cmp (by rfl) fe_int (fe_var 3 (pv 3)) fe_int) (fe_tup (fa_cons (fe_b (call_max2 rfl) cs_max2 rfl (B.free 44) (by decide +kernel) (fa_cons fe_int (fa_cons (fe_b (call_min2 rfl) cs_min2 rfl (B.free 2) (by decide +kernel) (fa_cons fe_int (fa_cons (fe_var 4 (pv 4)) fa_nil))) fa_nil))) (fa_cons (fe_var 3 (pv 3)) fa_nil))) fe_non))))))
abbrev N__law_right : List Str := ["_law_triangles", "_law_planes", "_law_spot", "_law_is_inside", "_law_over", "_law_made"]
theorem sc__law_right : FnScope ["_law_triangles", "_law_planes", "_law_spot", "_law_is_inside", "_law_over", "_law_made"] ["_law_triangles", "_law_planes", "_law_spot", "_law_is_inside"] (defScope (top 28)) := ⟨rfl, rfl, rfl, by decide +kernel, rfl, by decide +kernel, by decide +kernel⟩
theorem ok__law_right {P : Program} {w : World} {K : PySem.W.Frag} {mg : Str → Option Value} (B : Bt K mg) (hP : PrgOk P "/claim/cut.py") : ∃ fd, (∀ base, FnL P w K mg base (TX K) 5 (ga K "_law_right") fd ["_law_triangles", "_law_planes", "_law_spot", "_law_is_inside"] f__law_right) ∧ Binds K fd ["_law_triangles", "_law_planes", "_law_spot", "_law_is_inside"] [] ∧ PySem.W.keepIn K (.ref (ga K "_law_right")) = true := by
  obtain ⟨fd, F⟩ := B.c.def_ 24 (d := d__law_right) rfl
  obtain ⟨fd_Triangle_covers, G_Triangle_covers, b_Triangle_covers, k_Triangle_covers⟩ := ok_Triangle_covers (P := P) (w := w) B hP
  obtain ⟨fd_Triangle_fragment_at, G_Triangle_fragment_at, b_Triangle_fragment_at, k_Triangle_fragment_at⟩ := ok_Triangle_fragment_at (P := P) (w := w) B hP
  obtain ⟨fd__law_due, G__law_due, b__law_due, k__law_due⟩ := ok__law_due (P := P) (w := w) B hP
  refine ⟨fd, fun base => def_okD F sc__law_right fun cdv A outer s H E W hr tk => ?_, FunD.bindsN F fun _ _ _ _ _ _ us hl => match us, hl with | [_, _, _, _], _ => rfl, F.kp⟩
  have hu := hr.units
  have hu1 := Nat.lt_of_le_of_lt (Nat.add_le_add_left (by decide : 1 ≤ 64) _) hu
  have sc := sc__law_right
  exact (fss_cons (by first | exact fs_setLcW (i := 4) (own := [("_law_made", 5)]) rfl sc.nd rfl rfl rfl (fw_seq (fe_var 0 (pv 0))) (blkOk_by (by first | (show blkC N__law_right (defScope (top 28)) _ _ = true; decide +kernel) | kernel_rfl)) (fun s H C cl fp => by exact (fg_name 5 sc.nd rfl (by first | exact Or.inl rfl | exact Or.inr rfl))) (fun s H C cl fp => by exact (fts_one (ft_val (fe_meth (c := 0) takes0 ⟨⟨_, rfl, by decide⟩, B.cls 11, B.meth 29⟩ (G_Triangle_covers base) (hr.mono (by decide)) b_Triangle_covers Dfl.nil (fe_var 5 (pv 5)) (fa_cons (fe_var 2 (pv 2)) fa_nil))))) (fun s H C cl fp => by exact (fe_var 5 (pv 5))) (by decide) | exact fs_set (i := 4) sc.nd rfl (by first | exact Or.inl rfl | exact Or.inr rfl) (fe_lcW (own := [("_law_made", 5)]) rfl sc.nd (fw_seq (fe_var 0 (pv 0))) (blkOk_by (by first | (show blkC N__law_right (defScope (top 28)) _ _ = true; decide +kernel) | kernel_rfl)) (fun s H C cl fp => by exact (fg_name 5 sc.nd rfl (by first | exact Or.inl rfl | exact Or.inr rfl))) (fun s H C cl fp => by exact (fts_one (ft_val (fe_meth (c := 0) takes0 ⟨⟨_, rfl, by decide⟩, B.cls 11, B.meth 29⟩ (G_Triangle_covers base) (hr.mono (by decide)) b_Triangle_covers Dfl.nil (fe_var 5 (pv 5)) (fa_cons (fe_var 2 (pv 2)) fa_nil))))) (fun s H C cl fp => by exact (fe_var 5 (pv 5))) (by decide))) (fss_cons (fs_if (ft_cmp (op_neP hu) os_ne (by rfl) (fe_b call_len cs_len rfl (B.free 1) (by decide +kernel) (fa_cons (fe_var 4 (pv 4)) fa_nil)) (fe_bt call_int1 cs_int rfl (B.free 15) (by decide +kernel) (fa_cons (fe_var 3 (pv 3)) fa_nil))) (fss_one (fs_ret fe_bl)) fss_nil) (fss_one (fs_ret (fe_or (fe_not (fe_var 3 (pv 3))) (fe_one (fe_cmp (op_eqP hu) os_eq (by rfl) (fe_b (call_reprP hu hr.g) cs_repr rfl (B.free 31) (by decide +kernel) (fa_cons (fe_meth (c := 0) tk ⟨⟨_, rfl, by decide⟩, B.cls 11, B.meth 30⟩ (G_Triangle_fragment_at base) (hr.mono (by decide)) b_Triangle_fragment_at Dfl.nil (fe_ixA hu1 (fun _ _ => rfl) (fe_var 4 (pv 4)) fe_int) (fa_cons (fe_var 2 (pv 2)) fa_nil)) fa_nil)) (fe_b (call_reprP hu hr.g) cs_repr rfl (B.free 31) (by decide +kernel) (fa_cons (fe_call tk (G__law_due base) (hr.mono (by decide)) rfl (B.glo 32) k__law_due b__law_due Dfl.nil (fa_cons (fe_var 1 (pv 1)) (fa_cons (fe_var 2 (pv 2)) fa_nil))) fa_nil)))))))))
abbrev N_law : List Str := ["_law_script", "_law_m", "_law_turn", "_law_step", "_law_wide", "_law_high", "_law_nodes_here", "_law_planes", "_law_turned", "_law_triangles", "_law_points", "_law_corners", "_law_made", "_law_j", "_law_i", "_law_is_inside", "_law_node"]
theorem sc_law : FnScope ["_law_script", "_law_m", "_law_turn", "_law_step", "_law_wide", "_law_high", "_law_nodes_here", "_law_planes", "_law_turned", "_law_triangles", "_law_points", "_law_corners", "_law_made", "_law_j", "_law_i", "_law_is_inside", "_law_node"] ["_law_script"] (defScope (top 29)) := ⟨rfl, rfl, rfl, by decide +kernel, rfl, by decide +kernel, by decide +kernel⟩
theorem ok_law {P : Program} {w : World} {K : PySem.W.Frag} {mg : Str → Option Value} (B : Bt K mg) (hP : PrgOk P "/claim/cut.py") : ∃ fd, (∀ base, FnL P w K mg base (TX K) 6 (ga K "law") fd ["_law_script"] f_law) ∧ Binds K fd ["_law_script"] [] ∧ PySem.W.keepIn K (.ref (ga K "law")) = true ∧ ∀ (s : Shared) (u : Value), BindsTo s fd ⟨[u], []⟩ [("_law_script", u)] := by
  obtain ⟨fd, F⟩ := B.c.def_ 25 (d := d_law) rfl
  obtain ⟨fd__law_begun, G__law_begun, b__law_begun, k__law_begun⟩ := ok__law_begun (P := P) (w := w) B hP
  obtain ⟨fd__law_next, G__law_next, b__law_next, k__law_next⟩ := ok__law_next (P := P) (w := w) B hP
  obtain ⟨fd__law_plane, G__law_plane, b__law_plane, k__law_plane⟩ := ok__law_plane (P := P) (w := w) B hP
  obtain ⟨fd__law_nodes, G__law_nodes, b__law_nodes, k__law_nodes⟩ := ok__law_nodes (P := P) (w := w) B hP
  obtain ⟨fd__law_cells, G__law_cells, b__law_cells, k__law_cells⟩ := ok__law_cells (P := P) (w := w) B hP
  obtain ⟨fd__law_corner, G__law_corner, b__law_corner, k__law_corner⟩ := ok__law_corner (P := P) (w := w) B hP
  obtain ⟨fd_Triangle___init__, G_Triangle___init__, b_Triangle___init__, k_Triangle___init__⟩ := ok_Triangle___init__ (P := P) (w := w) B hP
  obtain ⟨fd_Triangle_facing, G_Triangle_facing, b_Triangle_facing, k_Triangle_facing⟩ := ok_Triangle_facing (P := P) (w := w) B hP
  obtain ⟨fd__law_right, G__law_right, b__law_right, k__law_right⟩ := ok__law_right (P := P) (w := w) B hP
  have bA := FunD.bindsA (ps := ["_law_script"]) F fun _ _ _ _ _ _ us hl => match us, hl with | [_], _ => rfl
  refine ⟨fd, fun base => def_okD F sc_law fun cdv A outer s H E W hr tk => ?_, FunD.bindsN F fun _ _ _ _ _ _ us hl => match us, hl with | [_], _ => rfl, F.kp, fun s v => bA s [v] rfl⟩
  have hu := hr.units
  have hu1 := Nat.lt_of_le_of_lt (Nat.add_le_add_left (by decide : 1 ≤ 64) _) hu
  have sc := sc_law
  exact (fss_cons (fs_set (i := 1) sc.nd rfl (by first | exact Or.inl rfl | exact Or.inr rfl) (fe_call tk (G__law_begun base) (hr.mono (by decide)) rfl (B.glo 0) k__law_begun b__law_begun Dfl.nil (fa_cons (fe_var 0 (pv 0)) fa_nil))) (fss_cons (fs_for (passes_of rfl) rfl (fi_range1 rfl (B.free 3) (fe_op op_addA os_add fe_int (fe_b (call_min2 rfl) cs_min2 rfl (B.free 2) (by decide +kernel) (fa_cons (fe_b call_len cs_len rfl (B.free 1) (by decide +kernel) (fa_cons (fe_var 0 (pv 0)) fa_nil)) (fa_cons fe_int fa_nil))))) (fg_name 2 sc.nd rfl (by first | exact Or.inl rfl | exact Or.inr rfl)) (fss_cons (fs_par3 (i := 3) (j := 4) (l := 5) rfl sc.nd rfl rfl rfl (by decide) (by decide) (by decide) rfl rfl rfl (fa_cons (fe_op op_addA os_add fe_int (fe_call tk (G__law_next base) (hr.mono (by decide)) rfl (B.glo 4) k__law_next b__law_next Dfl.nil (fa_cons (fe_var 1 (pv 1)) (fa_cons fe_int fa_nil)))) (fa_cons (fe_op op_addA os_add fe_int (fe_call tk (G__law_next base) (hr.mono (by decide)) rfl (B.glo 4) k__law_next b__law_next Dfl.nil (fa_cons (fe_var 1 (pv 1)) (fa_cons fe_int fa_nil)))) (fa_cons (fe_op op_addA os_add fe_int (fe_call tk (G__law_next base) (hr.mono (by decide)) rfl (B.glo 4) k__law_next b__law_next Dfl.nil (fa_cons (fe_var 1 (pv 1)) (fa_cons fe_int fa_nil)))) fa_nil))) rfl) (fss_cons (fs_asg (fg_tup rfl (fgs_cons (fg_name 6 sc.nd rfl (by first | exact Or.inl rfl | exact Or.inr rfl)) (fgs_cons (fg_name 7 sc.nd rfl (by first | exact Or.inl rfl | exact Or.inr rfl)) (fgs_cons (fg_name 8 sc.nd rfl (by first | exact Or.inl rfl | exact Or.inr rfl)) fgs_nil)))) (fe_tup (fa_cons (fe_call tk (G__law_nodes base) (hr.mono (by decide)) rfl (B.glo 6) k__law_nodes b__law_nodes Dfl.nil (fa_cons (fe_var 1 (pv 1)) (fa_cons (fe_var 4 (pv 4)) (fa_cons (fe_var 5 (pv 5)) (fa_cons (fe_var 3 (pv 3)) fa_nil))))) (fa_cons (fe_call tk (G__law_plane base) (hr.mono (by decide)) rfl (B.glo 5) k__law_plane b__law_plane Dfl.nil (fa_cons (fe_var 1 (pv 1)) fa_nil)) (fa_cons (fe_call tk (G__law_next base) (hr.mono (by decide)) rfl (B.glo 4) k__law_next b__law_next Dfl.nil (fa_cons (fe_var 1 (pv 1)) (fa_cons fe_int fa_nil))) fa_nil))))) (fss_cons (fs_set (i := 9) sc.nd rfl (by first | exact Or.inl rfl | exact Or.inr rfl) (fe_lstM fa_nil)) (fss_cons (fs_forW (passes_of rfl) rfl (fw_seq (fe_call tk (G__law_cells base) (hr.mono (by decide)) rfl (B.glo 7) k__law_cells b__law_cells Dfl.nil (fa_cons (fe_var 1 (pv 1)) (fa_cons (fe_var 6 (pv 6)) (fa_cons (fe_var 4 (pv 4)) (fa_cons (fe_var 5 (pv 5)) fa_nil)))))) (fg_name 10 sc.nd rfl (by first | exact Or.inl rfl | exact Or.inr rfl)) (fss_cons (by first | exact fs_setLcW (i := 11) (own := [("_law_node", 16)]) rfl sc.nd rfl rfl rfl (fw_seq (fe_var 10 (pv 10))) (blkOk_by (by first | (show blkC N_law (defScope (top 29)) _ _ = true; decide +kernel) | kernel_rfl)) (fun s H C cl fp => by exact (fg_name 16 sc.nd rfl (by first | exact Or.inl rfl | exact Or.inr rfl))) (fun s H C cl fp => by exact fts_nil) (fun s H C cl fp => by exact (fe_call takes0 (G__law_corner base) (hr.mono (by decide)) rfl (B.glo 8) k__law_corner b__law_corner Dfl.nil (fa_cons (fe_var 1 (pv 1)) (fa_cons (fe_var 16 (pv 16)) (fa_cons (fe_var 7 (pv 7)) fa_nil))))) (by decide) | exact fs_set (i := 11) sc.nd rfl (by first | exact Or.inl rfl | exact Or.inr rfl) (fe_lcW (own := [("_law_node", 16)]) rfl sc.nd (fw_seq (fe_var 10 (pv 10))) (blkOk_by (by first | (show blkC N_law (defScope (top 29)) _ _ = true; decide +kernel) | kernel_rfl)) (fun s H C cl fp => by exact (fg_name 16 sc.nd rfl (by first | exact Or.inl rfl | exact Or.inr rfl))) (fun s H C cl fp => by exact fts_nil) (fun s H C cl fp => by exact (fe_call takes0 (G__law_corner base) (hr.mono (by decide)) rfl (B.glo 8) k__law_corner b__law_corner Dfl.nil (fa_cons (fe_var 1 (pv 1)) (fa_cons (fe_var 16 (pv 16)) (fa_cons (fe_var 7 (pv 7)) fa_nil))))) (by decide))) (fss_cons (fs_if (ft_cmp (op_eqP hu) os_eq (by rfl) (fe_var 8 (pv 8)) fe_int) (fss_one (fs_set (i := 11) sc.nd rfl (by first | exact Or.inl rfl | exact Or.inr rfl) (fe_lst (fa_cons (fe_ixA hu1 (fun _ _ => rfl) (fe_var 11 (pv 11)) fe_int) (fa_cons (fe_ixA hu1 (fun _ _ => rfl) (fe_var 11 (pv 11)) fe_int) (fa_cons (fe_ixA hu1 (fun _ _ => rfl) (fe_var 11 (pv 11)) fe_int) fa_nil)))))) fss_nil) (fss_cons (fs_set (i := 12) sc.nd rfl (by first | exact Or.inl rfl | exact Or.inr rfl) (fe_make (c := 0) tk ⟨⟨_, rfl, rfl⟩, B.mkr 9⟩ (G_Triangle___init__ base) (hr.mono (by decide)) rfl (B.glo 10) b_Triangle___init__ Dfl.nil (fa_cons (fe_ixA hu1 (fun _ _ => rfl) (fe_var 11 (pv 11)) fe_int) (fa_cons (fe_ixA hu1 (fun _ _ => rfl) (fe_var 11 (pv 11)) fe_int) (fa_cons (fe_ixA hu1 (fun _ _ => rfl) (fe_var 11 (pv 11)) fe_int) fa_nil))))) (fss_cons (fs_if (ft_cmp (op_neP hu) os_ne (by rfl) (fe_prop (c := 0) ⟨_, rfl⟩ (B.cls 11) (B.pr 12) (G_Triangle_facing base) (hr.mono (by decide)) b_Triangle_facing (fe_var 12 (pv 12))) (fe_ixA hu1 (fun _ _ => rfl) (fe_lst (fa_cons fe_int (fa_cons (fe_un L2.un_neg us_neg fe_int) fa_nil))) (fe_var 8 (pv 8)))) (fss_one (fs_ret fe_bl)) fss_nil) (fss_one (fs_expr (fe_m PySem.F.slot_list_append (by rfl) mt_append ms_append (fe_var 9 (pv 9)) (fa_cons (fe_var 12 (pv 12)) fa_nil))))))))) (fss_one (fs_for (passes_of rfl) rfl (fi_range2 rfl (B.free 3) (fe_un L2.un_neg us_neg fe_int) (fe_op op_addA os_add (fe_op op_mulA os_mul (fe_var 5 (pv 5)) (fe_var 3 (pv 3))) fe_int)) (fg_name 13 sc.nd rfl (by first | exact Or.inl rfl | exact Or.inr rfl)) (fss_one (fs_for (passes_of rfl) rfl (fi_range2 rfl (B.free 3) (fe_un L2.un_neg us_neg fe_int) (fe_op op_addA os_add (fe_op op_mulA os_mul (fe_var 4 (pv 4)) (fe_var 3 (pv 3))) fe_int)) (fg_name 14 sc.nd rfl (by first | exact Or.inl rfl | exact Or.inr rfl)) (fss_cons (fs_set (i := 15) sc.nd rfl (by first | exact Or.inl rfl | exact Or.inr rfl) (fe_and (fe_chain L2.op_le L2.op_lt os_cmp os_cmp (by rfl) fe_int (fe_var 14 (pv 14)) (fe_op op_mulA os_mul (fe_var 4 (pv 4)) (fe_var 3 (pv 3)))) (fe_one (fe_chain L2.op_le L2.op_lt os_cmp os_cmp (by rfl) fe_int (fe_var 13 (pv 13)) (fe_op op_mulA os_mul (fe_var 5 (pv 5)) (fe_var 3 (pv 3))))))) (fss_one (fs_if (ft_not (ft_val (fe_call tk (G__law_right base) (hr.mono (by decide)) rfl (B.glo 13) k__law_right b__law_right Dfl.nil (fa_cons (fe_var 9 (pv 9)) (fa_cons (fe_var 7 (pv 7)) (fa_cons (fe_tup (fa_cons (fe_var 14 (pv 14)) (fa_cons (fe_var 13 (pv 13)) fa_nil))) (fa_cons (fe_var 15 (pv 15)) fa_nil))))))) (fss_one (fs_ret fe_bl)) fss_nil)))))))))))) (fss_one (fs_ret fe_bl))))
def nm0 : List Str := ["_wall", "Invalid", "BadPlace", "BadCorner", "is_whole_in", "are_whole_in", "COLORS", "DEPTHS", "MAX_NUMBER", "is_corner", "eye_row", "crossed_rows", "linear_edge", "need_whole_place", "is_let_in", "Triangle", "_law_begun", "_law_next", "_law_nodes", "_law_plane"]
def nm1 : List Str := ["_law_worth", "_law_corner", "_law_cells", "_law_due", "_law_right"]
def nms : List Str := nm0 ++ nm1
abbrev Rw : PySem.W.OpenRow := PySem.W.OpenLaw.row PySem.Challenge.rw_tilewright_k10_whole_regions_cut
abbrev hk : PySem.W.Hook := hookL 7 fl fn
def ob (s : PySem.W.SharedT) : AlL := obsLG 7 fl fn (HandSHeadRun.getT s)
theorem ob_eq (s : PySem.W.SharedT) : ob s = hk.obs s.abs := obsLG_eq (HandSHeadRun.getT_eq s)
theorem run (w : World) : HandSHeadRun.RunEq Rw (PySem.W.view Rw.prog [29]) hk ob 4000 nms w := by
  intro os
  kernel_rfl
end Lw
open PySem PySem.W PySem.Calls PyProof.Rows
theorem holds_of (hp : ∀ ns : List Int, ns.length ≤ 63 → ∃ h', Lw.f_law [.scr (ns.map L3.D.int)] [] = .ok (.bl true) h') : PySem.Challenge.rw_tilewright_k10_whole_regions_cut.Holds := by
  w_on; o_law
  refine HandSHeadRun.head_any (r := OpenLaw.row PySem.Challenge.rw_tilewright_k10_whole_regions_cut) (q := view (OpenLaw.row PySem.Challenge.rw_tilewright_k10_whole_regions_cut).prog [29]) (H := Lw.hk) (ob := Lw.ob) (M := 4000) (loose := Lw.nms) (d := HandSHeadRun.topDef (OpenLaw.row PySem.Challenge.rw_tilewright_k10_whole_regions_cut).prog 29) (kwd := []) Lw.ob_eq
    (by kernel_rfl) (fun s => by kernel_rfl) Lw.run (by kernel_rfl) (by kernel_rfl) (by kernel_rfl) (by rfl) (by first | assumption | decide +kernel) (by decide +kernel) ⟨rfl, rfl, rfl, rfl, rfl, by decide +kernel⟩ ?hw ?hc
  case hw => w_witness2
  case hc =>
    refine L3.law_end (l := PySem.Challenge.rw_tilewright_k10_whole_regions_cut) (n := 63) (k := 6) (TX := Lw.TX) (x := "law") rfl (by decide) (by kernel_rfl) ⟨rfl, by decide, by decide⟩ (by kernel_rfl) 49 rfl ?F hp (params := default) (body := []) (scope := default)
    intro w mg K B
    obtain ⟨fd, h1, h2, h3, h4⟩ := Lw.ok_law (P := PySem.Challenge.pw_tilewright_k10_whole_regions_cut) (w := w) B ⟨by decide +kernel, by decide +kernel⟩
    exact ⟨fd, h1, h4⟩
set_option autoImplicit false
theorem PySem.Challenge.cw_tilewright_k10_whole_regions_cut_holds : PySem.Challenge.rw_tilewright_k10_whole_regions_cut.Holds := by
  exact holds_of Lw.law_plain
