import PyProof.Rows.All
import Wide.All
import OpenK.AllK
import Wide.FinOn
import HandS.ForMost
import HandS.Exc
import HandS.TryOnly
import KE.DataEq
import HandS.TupAny
import HandS.TupMul
import HandS.Style
import HandS.Deep
import HandS.IsInst
import HandS.Wide
import HandS.CallSlots
import HandS.WordsExc
import HandS.Property
import HandS.Defaults
import HandS.Iter
import HandS.Zip
import KE.GoesMore
import KE.GoesZip
import HandS.Small
import HandS.Head0
import HandS.Head1
import HandS.Head2
import HandS.HeadEnd
import HandS.HeadHook1
import HandS.HeadHook2
import PyProof.ReprRoads
import PyProof.ReprLen
import PyProof.CallFns
import KE.KRevSl
import HandS.Flt
import PySem.Challenge.RW_tilewright_k14_whole_rows_side_by_side
set_option Elab.async false
set_option linter.all false
set_option maxRecDepth 100000
set_option maxHeartbeats 4000000
/-! L3A: data as trees, an own small heap, the relation to the abstract heap of HandS. -/
namespace L3
open PySem PySem.Spec L2
inductive D where
  | non | bl (b : Bool) | int (i : Int) | str (x : List Nat) | tup (ds : List D) | lst (ds : List D)
  | dic (ks vs : List D) | obj (c : Nat) (ds : List D) | ref (n : Nat) | scr (ds : List D)
deriving Inhabited
/-- what a source of draws holds -/
structure Src where
  a : List Int
  b : List Int
  c : Int
  d : Int
/-- what changes -/
inductive O where
  | lst (ds : List D) | dic (ks vs : List D) | obj (c : Nat) (ds : List D) | src (s : Src) | dead
abbrev Hh := List O
abbrev De := List (Option D)
inductive R (α : Type) where
  | ok (x : α) (h : Hh) | exc (c : Nat) (ds : List D) (h : Hh) | stk
/-- the end of statements -/
inductive RS where
  | nx (δ : De) (h : Hh) | rt (d : D) (h : Hh) | bk (δ : De) (h : Hh) | ct (δ : De) (h : Hh) | exc (c : Nat) (ds : List D) (δ : De) (h : Hh) | stk
def R.bind {α β : Type} (r : R α) (k : α → Hh → R β) : R β := match r with
  | .ok x h => k x h
  | .exc c ds h => .exc c ds h
  | .stk => .stk
/-! ### the ghost -/
structure Gst where
  ι : List Addr
  own : Addr → Option Nat
  fz : Hp
  /-- what is another's, kept as it is -/
  pr : Hp
/-- what is fixed of the text -/
structure Tx where
  /-- own classes: where, the attributes in order -/
  cls : Nat → Option (Addr × List Str)
  /-- own classes of exceptions: where, the attributes -/
  exc : Nat → Option (Addr × List Str)
  /-- a source's objects: where it stands, what it owns -/
  src : Src → Addr → (Addr → Prop) → Hp → Prop
  srcAt : ∀ s a p H, src s a p H → p a
  srcStay : ∀ s a p H H', src s a p H → (∀ b, p b → H' b = H b) → src s a p H'
mutual
inductive RD (K : PySem.W.Frag) (T : Tx) (G : Gst) : D → V → Prop where
  | non : RD K T G .non .non
  | bl {b} : RD K T G (.bl b) (.bl b)
  | int {i} : RD K T G (.int i) (.int i)
  | str {x} : RD K T G (.str x) (.str ⟨x.toArray⟩)
  | tup {ds a vs} (h : SqT K G.fz a vs) (r : RDs K T G ds vs) : RD K T G (.tup ds) (.ref a)
  | lst {ds a vs} (h : G.fz a = some (.lst vs)) (r : RDs K T G ds vs) : RD K T G (.lst ds) (.ref a)
  | scr {ds a vs} (h : SqL K G.fz a vs) (r : RDs K T G ds vs) : RD K T G (.scr ds) (.ref a)
  | dic {ks vs a kvs} (h : G.fz a = some (.dK kvs)) (k : RDs K T G ks (kvs.map fun p => kV p.1)) (r : RDs K T G vs (kvs.map (·.2))) : RD K T G (.dic ks vs) (.ref a)
  | obj {c ds a C dx nm fs} (h : G.fz a = some (.ins C dx fs)) (hc : T.cls c = some (C, nm)) (hn : fs.map (·.1) = nm) (r : RDs K T G ds (fs.map (·.2))) : RD K T G (.obj c ds) (.ref a)
  | ref {n a} (h : G.ι[n]? = some a) : RD K T G (.ref n) (.ref a)
inductive RDs (K : PySem.W.Frag) (T : Tx) (G : Gst) : List D → List V → Prop where
  | nil : RDs K T G [] []
  | cons {d v ds vs} (h : RD K T G d v) (t : RDs K T G ds vs) : RDs K T G (d :: ds) (v :: vs)
end
structure Ext (G G' : Gst) : Prop where
  ι : ∃ t, G'.ι = G.ι ++ t
  fz : ∀ a o, G.fz a = some o → G'.fz a = some o
  pr : G'.pr = G.pr
theorem Ext.refl (G : Gst) : Ext G G := ⟨⟨[], by simp⟩, fun _ _ h => h, rfl⟩
theorem Ext.trans {G G1 G2 : Gst} (a : Ext G G1) (b : Ext G1 G2) : Ext G G2 := by
  obtain ⟨t, e⟩ := a.ι
  obtain ⟨u, e'⟩ := b.ι
  exact ⟨⟨t ++ u, by rw [e', e, List.append_assoc]⟩, fun x o h => b.fz x o (a.fz x o h), b.pr.trans a.pr⟩
/-- the part of it that values ask -/
structure Ext0 (G G' : Gst) : Prop where
  ι : ∃ t, G'.ι = G.ι ++ t
  fz : ∀ a o, G.fz a = some o → G'.fz a = some o
theorem Ext.e0 {G G' : Gst} (x : Ext G G') : Ext0 G G' := ⟨x.ι, x.fz⟩
theorem Rd.sub {H H' : Hp} {a : Addr} {u : HO} (s : ∀ a o, H a = some o → H' a = some o) (h : Rd H a u) : Rd H' a u := by
  rcases h with h | ⟨o, h⟩
  · exact .inl (s _ _ h)
  · exact .inr ⟨o, s _ _ h⟩
theorem SqL.sub {K : PySem.W.Frag} {H H' : Hp} {a : Addr} {xs : List V} (s : ∀ a o, H a = some o → H' a = some o) (h : SqL K H a xs) : SqL K H' a xs := by
  rcases h with h | h
  · exact .inl (Rd.sub s h)
  · exact .inr h
theorem SqT.sub {K : PySem.W.Frag} {H H' : Hp} {a : Addr} {xs : List V} (s : ∀ a o, H a = some o → H' a = some o) (h : SqT K H a xs) : SqT K H' a xs := by
  rcases h with h | h
  · exact .inl (Rd.sub s h)
  · exact .inr h
mutual
theorem RD.mono0 {K : PySem.W.Frag} {T : Tx} {G G' : Gst} (x : Ext0 G G') : ∀ {d v}, RD K T G d v → RD K T G' d v
  | _, _, .non => .non
  | _, _, .bl => .bl
  | _, _, .int => .int
  | _, _, .str => .str
  | _, _, .tup h r => .tup (SqT.sub x.fz h) (RDs.mono0 x r)
  | _, _, .lst h r => .lst (x.fz _ _ h) (RDs.mono0 x r)
  | _, _, .scr h r => .scr (SqL.sub x.fz h) (RDs.mono0 x r)
  | _, _, .dic h k r => .dic (x.fz _ _ h) (RDs.mono0 x k) (RDs.mono0 x r)
  | _, _, .obj h hc hn r => .obj (x.fz _ _ h) hc hn (RDs.mono0 x r)
  | _, _, .ref h => by
    obtain ⟨t, e⟩ := x.ι
    refine .ref ?_
    rw [e, List.getElem?_append_left (List.getElem?_eq_some_iff.mp h).1]
    exact h
theorem RDs.mono0 {K : PySem.W.Frag} {T : Tx} {G G' : Gst} (x : Ext0 G G') : ∀ {ds vs}, RDs K T G ds vs → RDs K T G' ds vs
  | _, _, .nil => .nil
  | _, _, .cons h t => .cons (RD.mono0 x h) (RDs.mono0 x t)
end
theorem RD.mono {K : PySem.W.Frag} {T : Tx} {G G' : Gst} (x : Ext G G') {d v} (r : RD K T G d v) : RD K T G' d v := RD.mono0 x.e0 r
theorem RDs.mono {K : PySem.W.Frag} {T : Tx} {G G' : Gst} (x : Ext G G') {d v} (r : RDs K T G d v) : RDs K T G' d v := RDs.mono0 x.e0 r
theorem RDs.length {K : PySem.W.Frag} {T : Tx} {G : Gst} : ∀ {ds vs}, RDs K T G ds vs → ds.length = vs.length
  | _, _, .nil => rfl
  | _, _, .cons _ t => by simp [RDs.length t]
theorem RDs.append {K : PySem.W.Frag} {T : Tx} {G : Gst} : ∀ {ds vs es ws}, RDs K T G ds vs → RDs K T G es ws → RDs K T G (ds ++ es) (vs ++ ws)
  | _, _, _, _, .nil, s => s
  | _, _, _, _, .cons h t, s => .cons h (RDs.append t s)
theorem RDs.get {K : PySem.W.Frag} {T : Tx} {G : Gst} : ∀ {ds vs} {i : Nat} {d}, RDs K T G ds vs → ds[i]? = some d → ∃ v, vs[i]? = some v ∧ RD K T G d v
  | _, _, _, _, .nil, e => by simp at e
  | _, _, 0, _, .cons h _, e => by simp at e; subst e; exact ⟨_, rfl, h⟩
  | _, _, i + 1, d, .cons _ t, e => by
    obtain ⟨v, h1, h2⟩ := RDs.get (i := i) (d := d) t (by simpa using e)
    exact ⟨v, by simpa using h1, h2⟩
theorem RDs.getV {K : PySem.W.Frag} {T : Tx} {G : Gst} : ∀ {ds vs} {i : Nat} {v}, RDs K T G ds vs → vs[i]? = some v → ∃ d, ds[i]? = some d ∧ RD K T G d v
  | _, _, _, _, .nil, e => by simp at e
  | _, _, 0, _, .cons h _, e => by simp at e; subst e; exact ⟨_, rfl, h⟩
  | _, _, i + 1, v, .cons _ t, e => by
    obtain ⟨d, h1, h2⟩ := RDs.getV (i := i) (v := v) t (by simpa using e)
    exact ⟨d, by simpa using h1, h2⟩
theorem RDs.set {K : PySem.W.Frag} {T : Tx} {G : Gst} {d v} (r : RD K T G d v) : ∀ {ds vs} (i : Nat), RDs K T G ds vs → RDs K T G (ds.set i d) (vs.set i v)
  | _, _, _, .nil => .nil
  | _, _, 0, .cons _ t => .cons r t
  | _, _, i + 1, .cons h t => .cons h (RDs.set r i t)
theorem RDs.take {K : PySem.W.Frag} {T : Tx} {G : Gst} : ∀ {ds vs} (n : Nat), RDs K T G ds vs → RDs K T G (ds.take n) (vs.take n)
  | _, _, 0, _ => by simpa using RDs.nil
  | _, _, _ + 1, .nil => .nil
  | _, _, n + 1, .cons h t => .cons h (RDs.take n t)
theorem RDs.drop {K : PySem.W.Frag} {T : Tx} {G : Gst} : ∀ {ds vs} (n : Nat), RDs K T G ds vs → RDs K T G (ds.drop n) (vs.drop n)
  | _, _, 0, r => r
  | _, _, _ + 1, .nil => .nil
  | _, _, n + 1, .cons _ t => RDs.drop n t
theorem RDs.rep {K : PySem.W.Frag} {T : Tx} {G : Gst} {ds vs} (h : RDs K T G ds vs) : ∀ k : Nat, RDs K T G (List.replicate k ds).flatten (List.replicate k vs).flatten
  | 0 => .nil
  | k + 1 => by
    rw [List.replicate_succ, List.replicate_succ, List.flatten_cons, List.flatten_cons]
    exact h.append (h.rep k)
theorem RDs.reverse {K : PySem.W.Frag} {T : Tx} {G : Gst} : ∀ {ds vs}, RDs K T G ds vs → RDs K T G ds.reverse vs.reverse
  | _, _, .nil => .nil
  | _, _, .cons h t => by
    rw [List.reverse_cons, List.reverse_cons]
    exact (RDs.reverse t).append (.cons h .nil)
/-! ### what stands at n -/
def RO (K : PySem.W.Frag) (T : Tx) (G : Gst) (H : Hp) (n : Nat) : O → Prop
  | .lst ds => ∃ a vs, G.ι[n]? = some a ∧ G.own a = some n ∧ H a = some (.lst vs) ∧ RDs K T G ds vs
  | .dic ks vs => ∃ a kvs, G.ι[n]? = some a ∧ G.own a = some n ∧ H a = some (.dK kvs) ∧ RDs K T G ks (kvs.map fun p => kV p.1) ∧ RDs K T G vs (kvs.map (·.2))
  | .obj c ds => ∃ a C dx nm fs, G.ι[n]? = some a ∧ G.own a = some n ∧ H a = some (.ins C dx fs) ∧ T.cls c = some (C, nm) ∧ fs.map (·.1) = nm.take ds.length ∧ RDs K T G ds (fs.map (·.2))
  | .src s => ∃ a, G.ι[n]? = some a ∧ T.src s a (fun b => G.own b = some n) H
  | .dead => True
structure Rel (K : PySem.W.Frag) (T : Tx) (G : Gst) (h : Hh) (H : Hp) : Prop where
  len : G.ι.length = h.length
  sub : ∀ a o, G.fz a = some o → H a = some o
  own : ∀ a n, G.own a = some n → n < h.length ∧ G.fz a = none ∧ H a ≠ none
  pr : ∀ a o, G.pr a = some o → H a = some o ∧ G.fz a = none ∧ G.own a = none
  obj : ∀ n o, h[n]? = some o → RO K T G H n o
/-- slots -/
structure RSl (K : PySem.W.Frag) (T : Tx) (G : Gst) (δ : De) (σ : St) : Prop where
  len : δ.length = σ.length
  at_ : ∀ (i : Nat) d, δ[i]? = some (some d) → ∃ v, σ[i]? = some (some v) ∧ RD K T G d v
theorem RSl.mono {K : PySem.W.Frag} {T : Tx} {G G' : Gst} {δ : De} {σ : St} (x : Ext G G') (r : RSl K T G δ σ) : RSl K T G' δ σ :=
  ⟨r.len, fun i d e => let ⟨v, h1, h2⟩ := r.at_ i d e; ⟨v, h1, h2.mono x⟩⟩
theorem RSl.set {K : PySem.W.Frag} {T : Tx} {G : Gst} {δ : De} {σ : St} {d : D} {v : V} (r : RSl K T G δ σ) (h : RD K T G d v) (i : Nat) : RSl K T G (δ.set i (some d)) (σ.set i (some v)) := by
  refine ⟨by simp [r.len], fun j e q => ?_⟩
  by_cases hj : j = i
  · subst hj
    by_cases hl : j < δ.length
    · rw [List.getElem?_set_self hl] at q
      cases q
      exact ⟨v, List.getElem?_set_self (by rw [← r.len]; exact hl), h⟩
    · rw [List.getElem?_eq_none (by simpa using hl)] at q
      cases q
  · rw [List.getElem?_set_ne (Ne.symm hj)] at q ⊢
    exact r.at_ j e q
theorem RSl.unset {K : PySem.W.Frag} {T : Tx} {G : Gst} {δ : De} {σ : St} (r : RSl K T G δ σ) (i : Nat) (x : Option V) : RSl K T G (δ.set i none) (σ.set i x) := by
  refine ⟨by simp [r.len], fun j e q => ?_⟩
  by_cases hj : j = i
  · subst hj
    by_cases hl : j < δ.length
    · rw [List.getElem?_set_self hl] at q
      cases q
    · rw [List.getElem?_eq_none (by simpa using hl)] at q
      cases q
  · rw [List.getElem?_set_ne (Ne.symm hj)] at q ⊢
    exact r.at_ j e q
/-- an exception's class and its own dict -/
def RX (K : PySem.W.Frag) (T : Tx) (G : Gst) (c : Nat) (ds : List D) (cls : Value) (dd : Option Addr) : Prop :=
  ∃ C nm, T.exc c = some (C, nm) ∧ cls = .ref C ∧ ((ds = [] ∧ nm = []) ∨ ∃ dx fs, dd = some dx ∧ G.fz dx = some (.xd fs) ∧ fs.map (·.1) = nm ∧ RDs K T G ds (fs.map (·.2)))
/-! ### changes of the heap -/
section
variable {K : PySem.W.Frag} {T : Tx} {G : Gst} {h : Hh} {H : Hp}
theorem RO.stay {n : Nat} {o : O} {G' : Gst} {H' : Hp} (r : RO K T G H n o) (x : Ext G G') (ho : ∀ b, G.own b = some n → G'.own b = some n) (hb : ∀ b, G'.own b = some n → H' b = H b) (hc : ∀ b, G'.own b = some n → G.own b = some n) : RO K T G' H' n o := by
  have hi : ∀ a, G.ι[n]? = some a → G'.ι[n]? = some a := fun a e => by
    obtain ⟨t, q⟩ := x.ι
    rw [q, List.getElem?_append_left (List.getElem?_eq_some_iff.mp e).1]; exact e
  cases o with
  | lst ds => obtain ⟨a, vs, e1, e2, e3, e4⟩ := r; exact ⟨a, vs, hi _ e1, ho _ e2, by rw [hb _ (ho _ e2)]; exact e3, e4.mono x⟩
  | dic ks vs => obtain ⟨a, kvs, e1, e2, e3, e4, e5⟩ := r; exact ⟨a, kvs, hi _ e1, ho _ e2, by rw [hb _ (ho _ e2)]; exact e3, e4.mono x, e5.mono x⟩
  | obj c ds => obtain ⟨a, C, dx, nm, fs, e1, e2, e3, e4, e5, e6⟩ := r; exact ⟨a, C, dx, nm, fs, hi _ e1, ho _ e2, by rw [hb _ (ho _ e2)]; exact e3, e4, e5, e6.mono x⟩
  | src s =>
    obtain ⟨a, e1, e2⟩ := r
    refine ⟨a, hi _ e1, ?_⟩
    have e : (fun b => G'.own b = some n) = (fun b => G.own b = some n) := funext fun b => propext ⟨hc b, ho b⟩
    rw [e]
    exact T.srcStay _ _ _ _ _ e2 fun b q => hb b (ho b q)
  | dead => trivial
/-- a new thing that never changes -/
def Gst.frz (G : Gst) (p : Addr) (o : HO) : Gst := { G with fz := upd G.fz p o }
theorem Rel.fzNone (r : Rel K T G h H) {p : Addr} (hp : H p = none) : G.fz p = none := by
  cases e : G.fz p with
  | none => rfl
  | some o => rw [r.sub _ _ e] at hp; cases hp
theorem Gst.frz_ext {p : Addr} {o : HO} (e : G.fz p = none) : Ext G (G.frz p o) :=
  ⟨⟨[], by simp [Gst.frz]⟩, fun a u q => by
    show upd G.fz p o a = some u
    rw [upd_ne (ne_of_none q e)]; exact q, rfl⟩
theorem Rel.newF (r : Rel K T G h H) {p : Addr} {o : HO} (hp : H p = none) : Ext G (G.frz p o) ∧ Rel K T (G.frz p o) h (upd H p o) := by
  have e := r.fzNone hp
  have x := Gst.frz_ext (o := o) e
  refine ⟨x, r.len, fun a u q => ?_, fun a n q => ?_, fun a u q => ?_, fun n u q => ?_⟩
  · have q' : upd G.fz p o a = some u := q
    by_cases ha : a = p
    · subst ha; rw [upd_same] at q' ⊢; exact q'
    · rw [upd_ne ha] at q' ⊢; exact r.sub _ _ q'
  · have q' : G.own a = some n := q
    obtain ⟨h1, h2, h3⟩ := r.own a n q'
    have na : a ≠ p := fun z => h3 (by rw [z]; exact hp)
    exact ⟨h1, by show upd G.fz p o a = none; rw [upd_ne na]; exact h2, by rw [upd_ne na]; exact h3⟩
  · obtain ⟨h1, h2, h3⟩ := r.pr a u q
    have na : a ≠ p := ne_of_none h1 hp
    exact ⟨by rw [upd_ne na]; exact h1, by show upd G.fz p o a = none; rw [upd_ne na]; exact h2, h3⟩
  · refine (r.obj n u q).stay x (fun _ z => z) (fun b z => ?_) fun _ z => z
    have z' : G.own b = some n := z
    exact upd_ne fun w => (r.own b n z').2.2 (by rw [w]; exact hp)
/-- a new thing that may change -/
def Gst.new (G : Gst) (p : Addr) : Gst := { ι := G.ι ++ [p], own := fun b => if b = p then some G.ι.length else G.own b, fz := G.fz, pr := G.pr }
theorem Gst.new_ext {p : Addr} : Ext G (G.new p) := ⟨⟨[p], rfl⟩, fun _ _ q => q, rfl⟩
theorem Rel.newO (r : Rel K T G h H) {p : Addr} {o : HO} {u : O} (hp : H p = none) (ho : ∀ G', Ext G G' → G'.ι[h.length]? = some p → G'.own p = some h.length → (∀ b, G'.own b = some h.length → b = p) → RO K T G' (upd H p o) h.length u) : Ext G (G.new p) ∧ Rel K T (G.new p) (h ++ [u]) (upd H p o) := by
  have nown : ∀ b n, G.own b = some n → b ≠ p := fun b n q z => (r.own b n q).2.2 (by rw [z]; exact hp)
  refine ⟨Gst.new_ext, by simp [Gst.new, r.len], fun a v q => ?_, fun a n q => ?_, fun a v q => ?_, fun n v q => ?_⟩
  · have := r.sub a v q
    rw [upd_ne (ne_of_none this hp)]; exact this
  · have q' : (if a = p then some G.ι.length else G.own a) = some n := q
    by_cases ha : a = p
    · rw [if_pos ha] at q'
      cases q'
      refine ⟨by simp [r.len], ?_, ?_⟩
      · rw [ha]; exact r.fzNone hp
      · rw [ha, upd_same]; simp
    · rw [if_neg ha] at q'
      obtain ⟨h1, h2, h3⟩ := r.own a n q'
      exact ⟨by simp; omega, h2, by rw [upd_ne ha]; exact h3⟩
  · obtain ⟨h1, h2, h3⟩ := r.pr a v q
    have na : a ≠ p := ne_of_none h1 hp
    exact ⟨by rw [upd_ne na]; exact h1, h2, by show (if a = p then some G.ι.length else G.own a) = none; rw [if_neg na]; exact h3⟩
  · by_cases hn : n < h.length
    · rw [List.getElem?_append_left hn] at q
      have old : ∀ b, (if b = p then some G.ι.length else G.own b) = some n → G.own b = some n := fun b z => by
        by_cases hb : b = p
        · rw [if_pos hb] at z; cases z; rw [r.len] at hn; omega
        · rw [if_neg hb] at z; exact z
      refine (r.obj n v q).stay Gst.new_ext (fun b z => ?_) (fun b z => ?_) old
      · show (if b = p then some G.ι.length else G.own b) = some n
        rw [if_neg (nown b n z)]; exact z
      · exact upd_ne (nown b n (old b z))
    · have hn' : n = h.length := by
        have := (List.getElem?_eq_some_iff.mp q).1
        simp at this; omega
      subst hn'
      simp at q
      subst q
      refine ho _ Gst.new_ext ?_ ?_ ?_
      · show (G.ι ++ [p])[h.length]? = some p
        rw [← r.len]; simp
      · show (if p = p then some G.ι.length else G.own p) = some h.length
        rw [if_pos rfl, r.len]
      · intro b z
        have z' : (if b = p then some G.ι.length else G.own b) = some h.length := z
        by_cases hb : b = p
        · exact hb
        · rw [if_neg hb] at z'
          have := (r.own b _ z').1
          omega
/-- the thing at n is changed at its own address -/
theorem Rel.put (r : Rel K T G h H) {n : Nat} {a : Addr} {o : HO} {u : O} (hn : n < h.length) (ha : G.own a = some n) (ho : RO K T G (upd H a o) n u) : Rel K T G (h.set n u) (upd H a o) := by
  obtain ⟨_, f0, _⟩ := r.own a n ha
  refine ⟨by simpa using r.len, fun b v q => ?_, fun b m q => ?_, fun b v q => ?_, fun m v q => ?_⟩
  · have nb : b ≠ a := fun z => by rw [z, f0] at q; cases q
    rw [upd_ne nb]; exact r.sub b v q
  · obtain ⟨h1, h2, h3⟩ := r.own b m q
    refine ⟨by simpa using h1, h2, ?_⟩
    by_cases hb : b = a
    · rw [hb, upd_same]; simp
    · rw [upd_ne hb]; exact h3
  · obtain ⟨h1, h2, h3⟩ := r.pr b v q
    have nb : b ≠ a := fun z => by rw [z, ha] at h3; cases h3
    exact ⟨by rw [upd_ne nb]; exact h1, h2, h3⟩
  · by_cases hm : m = n
    · subst hm
      rw [List.getElem?_set_self hn] at q
      cases q
      exact ho
    · rw [List.getElem?_set_ne (Ne.symm hm)] at q
      refine (r.obj m v q).stay (Ext.refl G) (fun _ z => z) (fun b z => ?_) fun _ z => z
      exact upd_ne fun w => by rw [w, ha] at z; cases z; exact hm rfl
end
end L3
set_option autoImplicit false
set_option maxHeartbeats 4000000
/-! L3B: the judgements over HandS's: functional readings. -/
namespace L3
open PySem PySem.Spec L2
abbrev FnE := De → Hh → R D
abbrev FnA := De → Hh → R (List D)
abbrev FnT := De → Hh → R Bool
abbrev FnS := De → Hh → RS
def okR {α β : Type} (K : PySem.W.Frag) (T : Tx) (W : WX) (G : Gst) (σ : L2.St) (rel : Gst → α → β → Prop) (r : R α) (Q : β → Hp → Prop) : Prop := match r with
  | .ok x h => ∀ G' H' v, Ext G G' → Rel K T G' h H' → rel G' x v → Q v H'
  | .exc c ds h => ∀ G' H' cls dd, Ext G G' → Rel K T G' h H' → RX K T G' c ds cls dd → W cls dd σ H'
  | .stk => False
theorem okR.ext {α β : Type} {K : PySem.W.Frag} {T : Tx} {W : WX} {G G' : Gst} {σ : L2.St} {rel : Gst → α → β → Prop} {r : R α} {Q : β → Hp → Prop} (x : Ext G G') (h : okR K T W G σ rel r Q) : okR K T W G' σ rel r Q := by
  cases r with
  | ok y hh => exact fun G2 H2 v e => h G2 H2 v (x.trans e)
  | exc c ds hh => exact fun G2 H2 cls dd e => h G2 H2 cls dd (x.trans e)
  | stk => exact h
theorem okR.mono {α β : Type} {K : PySem.W.Frag} {T : Tx} {W : WX} {G : Gst} {σ : L2.St} {rel : Gst → α → β → Prop} {r : R α} {Q Q' : β → Hp → Prop} (h : okR K T W G σ rel r Q) (q : ∀ v H, Q v H → Q' v H) : okR K T W G σ rel r Q' := by
  cases r with
  | ok y hh => exact fun G2 H2 v e a b => q _ _ (h G2 H2 v e a b)
  | exc c ds hh => exact h
  | stk => exact h
theorem okR.bind {α β γ ε : Type} {K : PySem.W.Frag} {T : Tx} {W : WX} {G : Gst} {σ : L2.St} {rel : Gst → α → β → Prop} {rel' : Gst → γ → ε → Prop} {r : R α} {k : α → Hh → R γ} {Q : ε → Hp → Prop} (h : okR K T W G σ rel' (r.bind k) Q) :
    okR K T W G σ rel r fun v H1 => ∃ G1 x h1, Ext G G1 ∧ Rel K T G1 h1 H1 ∧ rel G1 x v ∧ okR K T W G1 σ rel' (k x h1) Q := by
  cases r with
  | ok y hh => exact fun G2 H2 v e a b => ⟨G2, y, hh, e, a, b, okR.ext e h⟩
  | exc c ds hh => exact h
  | stk => exact h
/-- a value that is there -/
theorem okR.at {α β : Type} {K : PySem.W.Frag} {T : Tx} {W : WX} {G : Gst} {σ : L2.St} {rel : Gst → α → β → Prop} {x : α} {v : β} {h : Hh} {H : Hp} {Q : β → Hp → Prop} (q : okR K T W G σ rel (.ok x h) Q) (r : Rel K T G h H) (d : rel G x v) : Q v H := q G H v (Ext.refl G) r d
abbrev relB : Gst → Bool → Bool → Prop := fun _ a b => a = b
def tF {α β : Type} (K : PySem.W.Frag) (T : Tx) (W : WX) (rel : Gst → α → β → Prop) (f : De → Hh → R α) : L2.St → Hp → (β → Hp → Prop) → Prop := fun σ H Q =>
  ∃ G h δ, Rel K T G h H ∧ RSl K T G δ σ ∧ okR K T W G σ rel (f δ h) Q
abbrev tE (K : PySem.W.Frag) (T : Tx) (W : WX) (f : FnE) : TE := tF K T W (RD K T) f
abbrev tA (K : PySem.W.Frag) (T : Tx) (W : WX) (f : FnA) : TA := tF K T W (RDs K T) f
abbrev tT (K : PySem.W.Frag) (T : Tx) (W : WX) (f : FnT) : TT := tF K T W relB f
/-- first f, then what comes of it -/
theorem tF.bind {α β γ ε : Type} {K : PySem.W.Frag} {T : Tx} {W : WX} {rel : Gst → α → β → Prop} {rel' : Gst → γ → ε → Prop} {f : De → Hh → R α} {k : De → α → Hh → R γ} {σ : L2.St} {H : Hp} {Q : ε → Hp → Prop} {Q' : β → Hp → Prop}
    (h : tF K T W rel' (fun δ h => (f δ h).bind (k δ)) σ H Q)
    (q : ∀ G δ x v h1 H1, Rel K T G h1 H1 → RSl K T G δ σ → rel G x v → okR K T W G σ rel' (k δ x h1) Q → Q' v H1) : tF K T W rel f σ H Q' := by
  obtain ⟨G, h0, δ, r, s, o⟩ := h
  refine ⟨G, h0, δ, r, s, (okR.bind (rel := rel) o).mono ?_⟩
  rintro v H1 ⟨G1, x, h1, e, r1, d, o1⟩
  exact q G1 δ x v h1 H1 r1 (s.mono e) d o1
theorem tF.of {α β : Type} {K : PySem.W.Frag} {T : Tx} {W : WX} {rel : Gst → α → β → Prop} {f : De → Hh → R α} {σ : L2.St} {H : Hp} {Q : β → Hp → Prop} {G : Gst} {h : Hh} {δ : De} (r : Rel K T G h H) (s : RSl K T G δ σ) (o : okR K T W G σ rel (f δ h) Q) : tF K T W rel f σ H Q := ⟨G, h, δ, r, s, o⟩
def okS (K : PySem.W.Frag) (T : Tx) (W : WX) (G : Gst) (r : RS) (D : Ends) : Prop := match r with
  | .nx δ h => ∀ G' H' σ', Ext G G' → Rel K T G' h H' → RSl K T G' δ σ' → D.nx σ' H'
  | .rt d h => ∀ G' H' v, Ext G G' → Rel K T G' h H' → RD K T G' d v → D.rt v H'
  | .bk δ h => ∀ G' H' σ', Ext G G' → Rel K T G' h H' → RSl K T G' δ σ' → D.bk σ' H'
  | .ct δ h => ∀ G' H' σ', Ext G G' → Rel K T G' h H' → RSl K T G' δ σ' → D.ct σ' H'
  | .exc c ds δ h => ∀ G' H' σ' cls dd, Ext G G' → Rel K T G' h H' → RSl K T G' δ σ' → RX K T G' c ds cls dd → W cls dd σ' H'
  | .stk => False
theorem okS.ext {K : PySem.W.Frag} {T : Tx} {W : WX} {G G' : Gst} {r : RS} {D : Ends} (x : Ext G G') (h : okS K T W G r D) : okS K T W G' r D := by
  cases r with
  | nx δ hh => exact fun G2 H2 v e => h G2 H2 v (x.trans e)
  | rt δ hh => exact fun G2 H2 v e => h G2 H2 v (x.trans e)
  | bk δ hh => exact fun G2 H2 v e => h G2 H2 v (x.trans e)
  | ct δ hh => exact fun G2 H2 v e => h G2 H2 v (x.trans e)
  | exc c ds δ hh => exact fun G2 H2 v c d e => h G2 H2 v c d (x.trans e)
  | stk => exact h
def tS (K : PySem.W.Frag) (T : Tx) (W : WX) (u : FnS) : TS := fun D σ H => ∃ G h δ, Rel K T G h H ∧ RSl K T G δ σ ∧ okS K T W G (u δ h) D
def R.toS {α : Type} (r : R α) (δ : De) (k : α → Hh → RS) : RS := match r with
  | .ok x h => k x h
  | .exc c ds h => .exc c ds δ h
  | .stk => .stk
theorem okS.toS {α β : Type} {K : PySem.W.Frag} {T : Tx} {W : WX} {G : Gst} {δ : De} {σ : L2.St} {rel : Gst → α → β → Prop} {r : R α} {k : α → Hh → RS} {D : Ends} (s : RSl K T G δ σ) (h : okS K T W G (r.toS δ k) D) :
    okR K T W G σ rel r fun v H1 => ∃ G1 x h1, Ext G G1 ∧ Rel K T G1 h1 H1 ∧ rel G1 x v ∧ okS K T W G1 (k x h1) D := by
  cases r with
  | ok y hh => exact fun G2 H2 v e a b => ⟨G2, y, hh, e, a, b, okS.ext e h⟩
  | exc c ds hh => exact fun G2 H2 cls dd e a b => h G2 H2 σ cls dd e a (s.mono e) b
  | stk => exact h
theorem tS.bind {α β : Type} {K : PySem.W.Frag} {T : Tx} {W : WX} {rel : Gst → α → β → Prop} {f : De → Hh → R α} {k : De → α → Hh → RS} {σ : L2.St} {H : Hp} {D : Ends} {Q' : β → Hp → Prop}
    (h : tS K T W (fun δ h => (f δ h).toS δ (k δ)) D σ H)
    (q : ∀ G δ x v h1 H1, Rel K T G h1 H1 → RSl K T G δ σ → rel G x v → okS K T W G (k δ x h1) D → Q' v H1) : tF K T W rel f σ H Q' := by
  obtain ⟨G, h0, δ, r, s, o⟩ := h
  refine ⟨G, h0, δ, r, s, (okS.toS (rel := rel) s o).mono ?_⟩
  rintro v H1 ⟨G1, x, h1, e, r1, d, o1⟩
  exact q G1 δ x v h1 H1 r1 (s.mono e) d o1
abbrev FE (X : Cx) (T : Tx) (W : WX) (e : Expr) (f : FnE) : Prop := PE X e (tE X.K T W f)
abbrev FA (X : Cx) (T : Tx) (W : WX) (es : List Expr) (f : FnA) : Prop := PA X es (tA X.K T W f)
abbrev FT (X : Cx) (T : Tx) (W : WX) (e : Expr) (f : FnT) : Prop := PT X e (tT X.K T W f)
abbrev FS (X : Cx) (T : Tx) (W : WX) (st : Stmt) (u : FnS) : Prop := PS X st (tS X.K T W u)
abbrev FSs (X : Cx) (T : Tx) (W : WX) (st : List Stmt) (u : FnS) : Prop := PSs X st (tS X.K T W u)
theorem PE.imp {X : Cx} {e : Expr} {t t' : TE} (h : PE X e t) (q : ∀ σ H Q, t' σ H Q → t σ H Q) : PE X e t' := ⟨fun pins s σ H Q I z => h.run pins s σ H Q I (q _ _ _ z)⟩
theorem PT.imp {X : Cx} {e : Expr} {t t' : TT} (h : PT X e t) (q : ∀ σ H Q, t' σ H Q → t σ H Q) : PT X e t' := ⟨fun pins s σ H Q I z => h.run pins s σ H Q I (q _ _ _ z)⟩
theorem PA.imp {X : Cx} {e : List Expr} {t t' : TA} (h : PA X e t) (q : ∀ σ H Q, t' σ H Q → t σ H Q) : PA X e t' := ⟨fun pos pins s σ H Q I z => h.run pos pins s σ H Q I (q _ _ _ z)⟩
theorem PS.imp {X : Cx} {e : Stmt} {t t' : TS} (h : PS X e t) (q : ∀ D σ H, t' D σ H → t D σ H) : PS X e t' := ⟨fun pins s σ H D I z => h.run pins s σ H D I (q _ _ _ z)⟩
theorem PSs.imp {X : Cx} {e : List Stmt} {t t' : TS} (h : PSs X e t) (q : ∀ D σ H, t' D σ H → t D σ H) : PSs X e t' := ⟨fun pins s σ H D I z => h.run pins s σ H D I (q _ _ _ z)⟩
/-! ### names, constants -/
section
variable {X : Cx} {T : Tx} {W : WX} {pos : Pos}
def eVar (i : Nat) : FnE := fun δ h => match δ[i]? with
  | some (some d) => .ok d h
  | _ => .stk
def eC (d : D) : FnE := fun _ h => .ok d h
theorem fe_var (i : Nat) {x : Str} (h : PE X (.Name x pos) (tVar i)) : FE X T W (.Name x pos) (eVar i) := by
  refine PE.imp h fun σ H Q => ?_
  rintro ⟨G, h0, δ, r, s, o⟩
  unfold eVar at o
  cases e : δ[i]? with
  | none => rw [e] at o; exact o.elim
  | some z =>
    cases z with
    | none => rw [e] at o; exact o.elim
    | some d =>
      rw [e] at o
      obtain ⟨v, h1, h2⟩ := s.at_ i d e
      exact ⟨v, h1, o.at r h2⟩
/-- what stands there without the heap -/
def Cst (K : PySem.W.Frag) (T : Tx) (d : D) (v : V) : Prop := ∀ G, RD K T G d v
theorem fe_const {e : Expr} {d : D} {v : V} (h : PE X e (tC v)) (c : Cst X.K T d v) : FE X T W e (eC d) := by
  refine PE.imp h fun σ H Q => ?_
  rintro ⟨G, h0, δ, r, s, o⟩
  exact okR.at o r (c G)
theorem fe_int {i j} : FE X T W (.Constant (.int i) j pos) (eC (.int i)) := fe_const pe_int fun _ => .int
theorem fe_bl {b j} : FE X T W (.Constant (.bool b) j pos) (eC (.bl b)) := fe_const pe_bl fun _ => .bl
theorem fe_non {j} : FE X T W (.Constant .none j pos) (eC .non) := fe_const pe_non fun _ => .non
theorem fe_str {x : Str} {y : List Nat} {j} (e : x = ⟨y.toArray⟩) : FE X T W (.Constant (.str x) j pos) (eC (.str y)) := by
  subst e
  exact fe_const pe_str fun _ => .str
/-- a module's constant -/
theorem fe_glob {x : Str} {d : D} {v : V} {u : Value} (hg : Gl X x) (hm : X.mg x = some u) (r : RelV v u) (c : Cst X.K T d v) (hd : (x == ("__debug__" : Str)) = false := by decide) : FE X T W (.Name x pos) (eC d) := fe_const (pe_glob hg hm r hd) c
/-! ### two-place operations by values -/
abbrev F2 := D → D → Hh → R D
def eBin (g : F2) (fa fb : FnE) : FnE := fun δ h => (fa δ h).bind fun x h1 => (fb δ h1).bind fun y h2 => g x y h2
/-- the operation's rule rd is served by g -/
def OpS (X : Cx) (T : Tx) (rd : R2) (g : F2) : Prop := ∀ (W : WX) G h H σ x y v w Q, Rel X.K T G h H → RD X.K T G x v → RD X.K T G y w → okR X.K T W G σ (RD X.K T) (g x y h) Q → rd v w H Q
theorem tE_bin {rd : R2} {g : F2} (hs : OpS X T rd g) {fa fb : FnE} {σ : L2.St} {H : Hp} {Q : VK} (h : tE X.K T W (eBin g fa fb) σ H Q) : tOp rd (tE X.K T W fa) (tE X.K T W fb) σ H Q := by
  obtain ⟨G, h0, δ, r, s, o⟩ := h
  refine ⟨G, h0, δ, r, s, (okR.bind (rel := RD X.K T) o).mono ?_⟩
  rintro v H1 ⟨G1, x, h1, e1, r1, d1, o1⟩
  refine ⟨G1, h1, δ, r1, s.mono e1, (okR.bind (rel := RD X.K T) o1).mono ?_⟩
  rintro w H2 ⟨G2, y, h2, e2, r2, d2, o2⟩
  exact hs W G2 h2 H2 σ x y v w Q r2 (d1.mono e2) d2 o2
theorem fe_op {op : Operator} {rd : R2} {g : F2} {a b : Expr} {fa fb : FnE} (ho : OpR X (binaryOp op) rd) (hs : OpS X T rd g) (ha : FE X T W a fa) (hb : FE X T W b fb) : FE X T W (.BinOp a op b pos) (eBin g fa fb) :=
  PE.imp (pe_op ho ha hb) fun _ _ _ h => tE_bin hs h
theorem fe_cmp {op : CmpOp} {rd : R2} {g : F2} {a b : Expr} {fa fb : FnE} (ho : OpR X (compareOp op) rd) (hs : OpS X T rd g) (hm : behindInMarks op b = false) (ha : FE X T W a fa) (hb : FE X T W b fb) : FE X T W (.Compare a [op] [b] pos) (eBin g fa fb) :=
  PE.imp (pe_cmpR ho ha hb hm) fun _ _ _ h => tE_bin hs h
/-- a value as a test: True or False -/
def eTest (f : FnE) : FnT := fun δ h => (f δ h).bind fun x h1 => match x with
  | .bl c => .ok c h1
  | _ => .stk
theorem tE_test {f : FnE} {σ : L2.St} {H : Hp} {Q : Bool → Hp → Prop} (h : tT X.K T W (eTest f) σ H Q) : tE X.K T W f σ H fun x H1 => ∃ c, x = .bl c ∧ Q c H1 := by
  refine tF.bind (k := fun _ x h1 => match x with | .bl c => .ok c h1 | _ => .stk) h fun G δ x v h1 H1 r1 s1 d1 o1 => ?_
  cases d1 with
  | bl => exact ⟨_, rfl, okR.at o1 r1 rfl⟩
  | _ => exact o1.elim
theorem ft_val {e : Expr} {f : FnE} (h : FE X T W e f) (he : ∀ whole, isTrue e X.env whole = (do let v ← whole; standAt e.pos; holding [v] (truthy v)) := by intro _; rfl) : FT X T W e (eTest f) :=
  PT.imp (pt_val h he) fun _ _ _ h => tE_test h
theorem tF.app {α β : Type} {K : PySem.W.Frag} {rel : Gst → α → β → Prop} {f : De → Hh → R α} {σ : L2.St} {H : Hp} {Q Q' : β → Hp → Prop} (h : tF K T W rel f σ H Q) (q : ∀ v H, Q v H → Q' v H) : tF K T W rel f σ H Q' := by
  obtain ⟨G, h0, δ, r, s, o⟩ := h
  exact ⟨G, h0, δ, r, s, o.mono q⟩
theorem ft_cmp {op : CmpOp} {rd : R2} {g : F2} {a b : Expr} {fa fb : FnE} (ho : OpR X (compareOp op) rd) (hs : OpS X T rd g) (hm : behindInMarks op b = false) (ha : FE X T W a fa) (hb : FE X T W b fb) : FT X T W (.Compare a [op] [b] pos) (eTest (eBin g fa fb)) :=
  PT.imp (pt_cmpR ho ha hb hm) fun _ _ _ h => tE_bin hs (tE_test h)
/-- a op b op' c -/
def eChain (g g' : F2) (fa fb fc : FnE) : FnE := fun δ h => (fa δ h).bind fun x h1 => (fb δ h1).bind fun y h2 => (g x y h2).bind fun z h3 => match z with
  | .bl c => if c = true then (fc δ h3).bind fun w h4 => g' y w h4 else .ok (.bl false) h3
  | _ => .stk
theorem tE_chain {rd rd' : R2} {g g' : F2} (hs : OpS X T rd g) (hs' : OpS X T rd' g') {fa fb fc : FnE} {σ : L2.St} {H : Hp} {Q : VK} (h : tE X.K T W (eChain g g' fa fb fc) σ H Q) : tChain rd rd' (tE X.K T W fa) (tE X.K T W fb) (tE X.K T W fc) σ H Q := by
  obtain ⟨G, h0, δ, r, s, o⟩ := h
  refine ⟨G, h0, δ, r, s, (okR.bind (rel := RD X.K T) o).mono ?_⟩
  rintro v H1 ⟨G1, x, h1, e1, r1, d1, o1⟩
  refine ⟨G1, h1, δ, r1, s.mono e1, (okR.bind (rel := RD X.K T) o1).mono ?_⟩
  rintro w H2 ⟨G2, y, h2, e2, r2, d2, o2⟩
  refine hs W G2 h2 H2 σ x y v w _ r2 (d1.mono e2) d2 ((okR.bind (rel := RD X.K T) o2).mono ?_)
  rintro z H3 ⟨G3, z', h3, e3, r3, d3, o3⟩
  cases d3 with
  | @bl c =>
    refine ⟨_, rfl, ?_⟩
    cases c with
    | false => exact okR.at o3 r3 .bl
    | true =>
      refine ⟨G3, h3, δ, r3, s.mono (e1.trans (e2.trans e3)), (okR.bind (rel := RD X.K T) o3).mono ?_⟩
      rintro u H4 ⟨G4, y4, h4, e4, r4, d4, o4⟩
      exact hs' W G4 h4 H4 σ y y4 w u Q r4 (d2.mono (e3.trans e4)) d4 o4
  | _ => exact o3.elim
theorem fe_chain {op op' : CmpOp} {rd rd' : R2} {g g' : F2} {a b c : Expr} {fa fb fc : FnE} (ho : OpR X (compareOp op) rd) (ho' : OpR X (compareOp op') rd') (hs : OpS X T rd g) (hs' : OpS X T rd' g') (hm : lastMarks [op, op'] [b, c] = false) (ha : FE X T W a fa) (hb : FE X T W b fb) (hc : FE X T W c fc) :
    FE X T W (.Compare a [op, op'] [b, c] pos) (eChain g g' fa fb fc) := PE.imp (pe_chain ho ho' ha hb hc hm) fun _ _ _ h => tE_chain hs hs' h
theorem ft_chain {op op' : CmpOp} {rd rd' : R2} {g g' : F2} {a b c : Expr} {fa fb fc : FnE} (ho : OpR X (compareOp op) rd) (ho' : OpR X (compareOp op') rd') (hs : OpS X T rd g) (hs' : OpS X T rd' g') (hm : lastMarks [op, op'] [b, c] = false) (ha : FE X T W a fa) (hb : FE X T W b fb) (hc : FE X T W c fc) :
    FT X T W (.Compare a [op, op'] [b, c] pos) (eTest (eChain g g' fa fb fc)) := PT.imp (pt_chain ho ho' ha hb hc hm) fun _ _ _ h => tE_chain hs hs' (tE_test h)
/-- one place -/
def eUn (g : D → Hh → R D) (fa : FnE) : FnE := fun δ h => (fa δ h).bind g
def UnS (X : Cx) (T : Tx) (rd : V → Hp → VK → Prop) (g : D → Hh → R D) : Prop := ∀ (W : WX) G h H σ x v Q, Rel X.K T G h H → RD X.K T G x v → okR X.K T W G σ (RD X.K T) (g x h) Q → rd v H Q
theorem fe_un {op : UnaryOp} {rd : V → Hp → VK → Prop} {g : D → Hh → R D} {a : Expr} {fa : FnE} (ho : UnR X (unaryOp op) rd) (hs : UnS X T rd g) (ha : FE X T W a fa) : FE X T W (.UnaryOp op a pos) (eUn g fa) := by
  refine PE.imp (pe_un ho ha) fun σ H Q h => ?_
  exact tF.bind (k := fun _ => g) h fun G δ x v h1 H1 r1 s1 d1 o1 => hs W G h1 H1 σ x v Q r1 d1 o1
/-! ### and, or, not, if else -/
def tAnd3 (a b : FnT) : FnT := fun δ h => (a δ h).bind fun c h1 => if c = true then b δ h1 else .ok false h1
def tOr3 (a b : FnT) : FnT := fun δ h => (a δ h).bind fun c h1 => if c = true then .ok true h1 else b δ h1
def tNot3 (a : FnT) : FnT := fun δ h => (a δ h).bind fun c h1 => .ok (!c) h1
abbrev FW (X : Cx) (T : Tx) (W : WX) (e : Expr) (f : FnT) : Prop := PW X e (tT X.K T W f)
theorem PW.imp {e : Expr} {t t' : TT} (h : PW X e t) (q : ∀ σ H Q, t' σ H Q → t σ H Q) : PW X e t' := ⟨fun wh pins s σ H Q I z => h.run wh pins s σ H Q I (q _ _ _ z)⟩
theorem fw_and1 {a : Expr} {fa : FnT} (ha : FT X T W a fa) : FW X T W (.BoolOp .And [a] pos) fa := pw_and1 ha
theorem fw_or1 {a : Expr} {fa : FnT} (ha : FT X T W a fa) : FW X T W (.BoolOp .Or [a] pos) fa := pw_or1 ha
theorem fw_and {a b : Expr} {rest : List Expr} {fa fb : FnT} (ha : FT X T W a fa) (hb : FW X T W (.BoolOp .And (b :: rest) pos) fb) : FW X T W (.BoolOp .And (a :: b :: rest) pos) (tAnd3 fa fb) := by
  refine PW.imp (pw_and ha hb) fun σ H Q h => ?_
  refine tF.bind (k := fun δ c h1 => if c = true then fb δ h1 else .ok false h1) h fun G δ x v h1 H1 r1 s1 d1 o1 => ?_
  have d : x = v := d1
  subst d
  cases x with
  | true => exact tF.of r1 s1 o1
  | false => exact okR.at o1 r1 rfl
theorem fw_or {a b : Expr} {rest : List Expr} {fa fb : FnT} (ha : FT X T W a fa) (hb : FW X T W (.BoolOp .Or (b :: rest) pos) fb) : FW X T W (.BoolOp .Or (a :: b :: rest) pos) (tOr3 fa fb) := by
  refine PW.imp (pw_or ha hb) fun σ H Q h => ?_
  refine tF.bind (k := fun δ c h1 => if c = true then .ok true h1 else fb δ h1) h fun G δ x v h1 H1 r1 s1 d1 o1 => ?_
  have d : x = v := d1
  subst d
  cases x with
  | true => exact okR.at o1 r1 rfl
  | false => exact tF.of r1 s1 o1
theorem ft_bool {e : Expr} {f : FnT} (h : FW X T W e f) : FT X T W e f := PW.pt h
theorem ft_not {a : Expr} {fa : FnT} (ha : FT X T W a fa) : FT X T W (.UnaryOp .Not a pos) (tNot3 fa) := by
  refine PT.imp (pt_not ha) fun σ H Q h => ?_
  refine tF.bind (k := fun δ c h1 => .ok (!c) h1) h fun G δ x v h1 H1 r1 s1 d1 o1 => ?_
  have d : x = v := d1
  subst d
  exact okR.at o1 r1 rfl
/-- as values -/
def eAnd (a b : FnE) : FnE := fun δ h => (a δ h).bind fun x h1 => match x with
  | .bl c => if c = true then b δ h1 else .ok (.bl false) h1
  | _ => .stk
def eOr (a b : FnE) : FnE := fun δ h => (a δ h).bind fun x h1 => match x with
  | .bl c => if c = true then .ok (.bl true) h1 else b δ h1
  | _ => .stk
def eNot (a : FnE) : FnE := fun δ h => (a δ h).bind fun x h1 => match x with
  | .bl c => .ok (.bl (!c)) h1
  | _ => .stk
theorem fe_one {op} {a : Expr} {fa : FnE} (ha : FE X T W a fa) : FE X T W (.BoolOp op [a] pos) fa := pe_one ha
theorem fe_and {a b : Expr} {rest : List Expr} {fa fb : FnE} (ha : FE X T W a fa) (hb : FE X T W (.BoolOp .And (b :: rest) pos) fb) : FE X T W (.BoolOp .And (a :: b :: rest) pos) (eAnd fa fb) := by
  refine PE.imp (pe_and ha hb) fun σ H Q h => ?_
  refine tF.bind (k := fun δ x h1 => match x with | .bl c => if c = true then fb δ h1 else .ok (.bl false) h1 | _ => .stk) h fun G δ x v h1 H1 r1 s1 d1 o1 => ?_
  cases d1 with
  | @bl c =>
    refine ⟨_, rfl, ?_⟩
    cases c with
    | true => exact tF.of r1 s1 o1
    | false => exact okR.at o1 r1 .bl
  | _ => exact o1.elim
theorem fe_or {a b : Expr} {rest : List Expr} {fa fb : FnE} (ha : FE X T W a fa) (hb : FE X T W (.BoolOp .Or (b :: rest) pos) fb) : FE X T W (.BoolOp .Or (a :: b :: rest) pos) (eOr fa fb) := by
  refine PE.imp (pe_or ha hb) fun σ H Q h => ?_
  refine tF.bind (k := fun δ x h1 => match x with | .bl c => if c = true then .ok (.bl true) h1 else fb δ h1 | _ => .stk) h fun G δ x v h1 H1 r1 s1 d1 o1 => ?_
  cases d1 with
  | @bl c =>
    refine ⟨_, rfl, ?_⟩
    cases c with
    | true => exact okR.at o1 r1 .bl
    | false => exact tF.of r1 s1 o1
  | _ => exact o1.elim
theorem fe_not {a : Expr} {fa : FnE} (ha : FE X T W a fa) : FE X T W (.UnaryOp .Not a pos) (eNot fa) := by
  refine PE.imp (pe_not ha) fun σ H Q h => ?_
  refine tF.bind (k := fun δ x h1 => match x with | .bl c => .ok (D.bl (!c)) h1 | _ => .stk) h fun G δ x v h1 H1 r1 s1 d1 o1 => ?_
  cases d1 with
  | bl => exact ⟨_, rfl, okR.at o1 r1 .bl⟩
  | _ => exact o1.elim
def eIf (t : FnT) (a b : FnE) : FnE := fun δ h => (t δ h).bind fun c h1 => if c = true then a δ h1 else b δ h1
theorem fe_if {c a b : Expr} {fc : FnT} {fa fb : FnE} (hc : FT X T W c fc) (ha : FE X T W a fa) (hb : FE X T W b fb) : FE X T W (.IfExp c a b pos) (eIf fc fa fb) := by
  refine PE.imp (pe_ifExp hc ha hb) fun σ H Q h => ?_
  refine tF.bind (k := fun δ c h1 => if c = true then fa δ h1 else fb δ h1) h fun G δ x v h1 H1 r1 s1 d1 o1 => ?_
  have d : x = v := d1
  subst d
  cases x with
  | true => exact tF.of r1 s1 o1
  | false => exact tF.of r1 s1 o1
/-! ### argument lists, displays -/
def aNil : FnA := fun _ h => .ok [] h
def aCons (f : FnE) (r : FnA) : FnA := fun δ h => (f δ h).bind fun x h1 => (r δ h1).bind fun xs h2 => .ok (x :: xs) h2
theorem fa_nil : FA X T W [] aNil := by
  refine PA.imp pa_nil fun σ H Q => ?_
  rintro ⟨G, h0, δ, r, s, o⟩
  exact okR.at o r .nil
theorem fa_cons {e : Expr} {es : List Expr} {f : FnE} {fr : FnA} (ha : FE X T W e f) (hr : FA X T W es fr) (hs : starEach (e :: es) X.env = (false, eval e X.env) :: starEach es X.env := by rfl) : FA X T W (e :: es) (aCons f fr) := by
  refine PA.imp (pa_cons ha hr hs) fun σ H Q => ?_
  rintro ⟨G, h0, δ, r, s, o⟩
  refine ⟨G, h0, δ, r, s, (okR.bind (rel := RD X.K T) o).mono ?_⟩
  rintro v H1 ⟨G1, x, h1, e1, r1, d1, o1⟩
  refine ⟨G1, h1, δ, r1, s.mono e1, (okR.bind (rel := RDs X.K T) o1).mono ?_⟩
  rintro w H2 ⟨G2, y, h2, e2, r2, d2, o2⟩
  exact okR.at o2 r2 (.cons (d1.mono e2) d2)
def lineOk (n : Nat) : Bool := decide (n ≤ 16777216)
theorem lineOk_le {n : Nat} (h : lineOk n = true) : n ≤ sizeLine := by rw [sizeLine_eq]; exact of_decide_eq_true h
def eTup (f : FnA) : FnE := fun δ h => (f δ h).bind fun xs h1 => if lineOk xs.length = true then .ok (.tup xs) h1 else .stk
def eLst (f : FnA) : FnE := fun δ h => (f δ h).bind fun xs h1 => if lineOk xs.length = true then .ok (.lst xs) h1 else .stk
/-- a list that will be changed -/
def eLstM (f : FnA) : FnE := fun δ h => (f δ h).bind fun xs h1 => if lineOk xs.length = true then .ok (.ref h1.length) (h1 ++ [.lst xs]) else .stk
theorem newTup {K : PySem.W.Frag} {W : WX} {G : Gst} {h : Hh} {H : Hp} {σ : L2.St} {ds : List D} {vs : List V} {Q : VK} {p : Addr} (r : Rel K T G h H) (d : RDs K T G ds vs) (hp : H p = none) (o : okR K T W G σ (RD K T) (.ok (.tup ds) h) Q) : Q (.ref p) (upd H p (.tup vs)) := by
  obtain ⟨x, r'⟩ := r.newF (o := .tup vs) hp
  exact o _ _ _ x r' (.tup (.inl (.inl upd_same)) (d.mono x))
theorem newLst {K : PySem.W.Frag} {W : WX} {G : Gst} {h : Hh} {H : Hp} {σ : L2.St} {ds : List D} {vs : List V} {Q : VK} {p : Addr} (r : Rel K T G h H) (d : RDs K T G ds vs) (hp : H p = none) (o : okR K T W G σ (RD K T) (.ok (.lst ds) h) Q) : Q (.ref p) (upd H p (.lst vs)) := by
  obtain ⟨x, r'⟩ := r.newF (o := .lst vs) hp
  exact o _ _ _ x r' (.lst upd_same (d.mono x))
theorem newLstM {K : PySem.W.Frag} {W : WX} {G : Gst} {h : Hh} {H : Hp} {σ : L2.St} {ds : List D} {vs : List V} {Q : VK} {p : Addr} (r : Rel K T G h H) (d : RDs K T G ds vs) (hp : H p = none) (o : okR K T W G σ (RD K T) (.ok (.ref h.length) (h ++ [.lst ds])) Q) : Q (.ref p) (upd H p (.lst vs)) := by
  obtain ⟨x, r'⟩ := r.newO (o := .lst vs) (u := .lst ds) hp fun G' x hi ho _ => ⟨p, vs, hi, ho, upd_same, d.mono x⟩
  refine o _ _ _ x r' (.ref ?_)
  show (G.ι ++ [p])[h.length]? = some p
  rw [← r.len]; simp
theorem fe_tup {es : List Expr} {f : FnA} {x1} (h : FA X T W es f) : FE X T W (.Tuple es x1 pos) (eTup f) := by
  refine PE.imp (pe_tup h) fun σ H Q h => ?_
  refine tF.bind (k := fun _ xs h1 => if lineOk xs.length = true then .ok (D.tup xs) h1 else .stk) h fun G δ x v h1 H1 r1 s1 d1 o1 => ?_
  by_cases hl : lineOk x.length = true
  · rw [if_pos hl] at o1
    exact ⟨by rw [← d1.length]; exact lineOk_le hl, fun p hp => newTup r1 d1 hp o1⟩
  · rw [if_neg hl] at o1; exact o1.elim
theorem fe_lst {es : List Expr} {f : FnA} (h : FA X T W es f) : FE X T W (.List es pos) (eLst f) := by
  refine PE.imp (pe_lst h) fun σ H Q h => ?_
  refine tF.bind (k := fun _ xs h1 => if lineOk xs.length = true then .ok (D.lst xs) h1 else .stk) h fun G δ x v h1 H1 r1 s1 d1 o1 => ?_
  by_cases hl : lineOk x.length = true
  · rw [if_pos hl] at o1
    exact ⟨by rw [← d1.length]; exact lineOk_le hl, fun p hp => newLst r1 d1 hp o1⟩
  · rw [if_neg hl] at o1; exact o1.elim
theorem fe_lstM {es : List Expr} {f : FnA} (h : FA X T W es f) : FE X T W (.List es pos) (eLstM f) := by
  refine PE.imp (pe_lst h) fun σ H Q h => ?_
  refine tF.bind (k := fun _ xs h1 => if lineOk xs.length = true then .ok (D.ref h1.length) (h1 ++ [O.lst xs]) else .stk) h fun G δ x v h1 H1 r1 s1 d1 o1 => ?_
  by_cases hl : lineOk x.length = true
  · rw [if_pos hl] at o1
    exact ⟨by rw [← d1.length]; exact lineOk_le hl, fun p hp => newLstM r1 d1 hp o1⟩
  · rw [if_neg hl] at o1; exact o1.elim
/-! ### statements -/
def sSeq (u v : FnS) : FnS := fun δ h => match u δ h with
  | .nx δ' h' => v δ' h'
  | r => r
def sNil : FnS := fun δ h => .nx δ h
theorem fss_nil : FSs X T W [] sNil := by
  refine PSs.imp pss_nil fun D σ H => ?_
  rintro ⟨G, h0, δ, r, s, o⟩
  exact o G H σ (Ext.refl G) r s
theorem tS_seq {u v : FnS} {D : Ends} {σ : L2.St} {H : Hp} {K : PySem.W.Frag} (h : tS K T W (sSeq u v) D σ H) : tSeq (tS K T W u) (tS K T W v) D σ H := by
  obtain ⟨G, h0, δ, r, s, o⟩ := h
  refine ⟨G, h0, δ, r, s, ?_⟩
  unfold sSeq at o
  cases e : u δ h0 with
  | nx δ' h' => rw [e] at o; exact fun G' H' σ' x r' s' => ⟨G', h', δ', r', s', okS.ext x o⟩
  | rt d h' => rw [e] at o; exact o
  | bk δ' h' => rw [e] at o; exact o
  | ct δ' h' => rw [e] at o; exact o
  | exc c ds δ' h' => rw [e] at o; exact o
  | stk => rw [e] at o; exact o
theorem fss_cons {st : Stmt} {rest : List Stmt} {u v : FnS} (h1 : FS X T W st u) (h2 : FSs X T W rest v) : FSs X T W (st :: rest) (sSeq u v) := PSs.imp (pss_cons h1 h2) fun _ _ _ h => tS_seq h
theorem fss_one {st : Stmt} {u : FnS} (h1 : FS X T W st u) : FSs X T W [st] u := pss_one h1
def sPass : FnS := fun δ h => .nx δ h
def sBreak : FnS := fun δ h => .bk δ h
def sCont : FnS := fun δ h => .ct δ h
theorem fs_pass : FS X T W (.Pass pos) sPass := by
  refine PS.imp ps_pass fun D σ H => ?_
  rintro ⟨G, h0, δ, r, s, o⟩
  exact o G H σ (Ext.refl G) r s
theorem fs_break : FS X T W (.Break pos) sBreak := by
  refine PS.imp ps_break fun D σ H => ?_
  rintro ⟨G, h0, δ, r, s, o⟩
  exact o G H σ (Ext.refl G) r s
theorem fs_continue : FS X T W (.Continue pos) sCont := by
  refine PS.imp ps_continue fun D σ H => ?_
  rintro ⟨G, h0, δ, r, s, o⟩
  exact o G H σ (Ext.refl G) r s
def sIf (t : FnT) (u v : FnS) : FnS := fun δ h => (t δ h).toS δ fun c h1 => if c = true then u δ h1 else v δ h1
theorem fs_if {c : Expr} {a b : List Stmt} {fc : FnT} {u v : FnS} (hc : FT X T W c fc) (ha : FSs X T W a u) (hb : FSs X T W b v) : FS X T W (.If c a b pos) (sIf fc u v) := by
  refine PS.imp (ps_if hc ha hb) fun D σ H h => ?_
  refine tS.bind (k := fun δ c h1 => if c = true then u δ h1 else v δ h1) h fun G δ x w h1 H1 r1 s1 d1 o1 => ?_
  have d : x = w := d1
  subst d
  cases x with
  | true => exact ⟨G, h1, δ, r1, s1, o1⟩
  | false => exact ⟨G, h1, δ, r1, s1, o1⟩
def sRet (f : FnE) : FnS := fun δ h => (f δ h).toS δ fun x h1 => .rt x h1
theorem fs_ret {e : Expr} {f : FnE} (h : FE X T W e f) : FS X T W (.Return (some e) pos) (sRet f) := by
  refine PS.imp (ps_ret h) fun D σ H h => ?_
  exact tS.bind (k := fun _ x h1 => .rt x h1) h fun G δ x w h1 H1 r1 s1 d1 o1 => o1 G H1 w (Ext.refl G) r1 d1
def sRetN : FnS := fun _ h => .rt .non h
theorem fs_retN : FS X T W (.Return none pos) sRetN := by
  refine PS.imp ps_retN fun D σ H => ?_
  rintro ⟨G, h0, δ, r, s, o⟩
  exact o G H .non (Ext.refl G) r .non
def sExpr (f : FnE) : FnS := fun δ h => (f δ h).toS δ fun _ h1 => .nx δ h1
theorem fs_expr {e : Expr} {f : FnE} (h : FE X T W e f) (hs : swapsWith e none pos.line X.env = pure false := by rfl) : FS X T W (.Expr e pos) (sExpr f) := by
  refine PS.imp (ps_expr h hs) fun D σ H h => ?_
  exact tS.bind (k := fun δ _ h1 => .nx δ h1) h fun G δ x w h1 H1 r1 s1 d1 o1 => o1 G H1 σ (Ext.refl G) r1 s1
/-- name = e -/
def sSet (i : Nat) (f : FnE) : FnS := fun δ h => (f δ h).toS δ fun x h1 => .nx (δ.set i (some x)) h1
theorem fs_set {i : Nat} {x : Str} {e : Expr} {f : FnE} {pos' : Pos} (hN : X.N.Nodup) (hi : X.N[i]? = some x) (hx : Loc X.env.scope x) (he : FE X T W e f) (hs : swapsWith e (some (.Name x pos')) pos.line X.env = pure false := by rfl) (hf : X.fn x = true ∨ X.env.scope.names.lookup x = some .local := by first | exact .inl rfl | exact .inr rfl | assumption) :
    FS X T W (.Assign [.Name x pos'] e pos) (sSet i f) := by
  refine PS.imp (ps_set hN hi hx he hs hf) fun D σ H h => ?_
  exact tS.bind (k := fun δ x h1 => .nx (δ.set i (some x)) h1) h fun G δ x w h1 H1 r1 s1 d1 o1 => o1 G H1 _ (Ext.refl G) r1 (s1.set d1 i)
end
end L3
set_option autoImplicit false
set_option maxHeartbeats 4000000
/-! L3C: operations by values. -/
namespace L3
open PySem PySem.Spec L2
section
variable {X : Cx} {T : Tx}
/-! ### + - * // % ** -/
def asL (h : Hh) : D → Option (List D)
  | .lst ds => some ds
  | .ref n => match h[n]? with
    | some (.lst ds) => some ds
    | _ => none
  | _ => none
theorem asL_ok {K : PySem.W.Frag} {G : Gst} {h : Hh} {H : Hp} {d : D} {v : V} {ds : List D} (r : Rel K T G h H) (d1 : RD K T G d v) (e : asL h d = some ds) : ∃ a vs, v = .ref a ∧ H a = some (.lst vs) ∧ RDs K T G ds vs := by
  cases d1 with
  | lst h1 h2 => cases e; exact ⟨_, _, rfl, r.sub _ _ h1, h2⟩
  | @ref n a h1 =>
    unfold asL at e
    dsimp only at e
    cases q : h[n]? with
    | none => rw [q] at e; cases e
    | some o =>
      rw [q] at e
      cases o with
      | lst es =>
        cases e
        obtain ⟨a', vs, e1, e2, e3, e4⟩ := r.obj n _ q
        rw [h1] at e1; cases e1
        exact ⟨a, vs, rfl, e3, e4⟩
      | _ => cases e
  | _ => cases e
def addD : F2 := fun x y h => match x, y with
  | .int i, .int j => .ok (.int (i + j)) h
  | .tup xs, .tup ys => if lineOk (xs.length + ys.length) = true then .ok (.tup (xs ++ ys)) h else .stk
  | .str a, .str b => if lineOk (a.length + b.length) = true then .ok (.str (a ++ b)) h else .stk
  | x, y => match asL h x, asL h y with
    | some xs, some ys => if lineOk (xs.length + ys.length) = true then .ok (.lst (xs ++ ys)) h else .stk
    | _, _ => .stk
def rdAdd (K : PySem.W.Frag) : R2 := fun x y H Q => (rI0 fun i j => .int (i + j)) x y H Q ∨ rCatA K x y H Q ∨ (fun x y H Q => ∃ i j, x = .str i ∧ y = .str j ∧ i.length + j.length ≤ sizeLine ∧ Q (.str (i ++ j)) H : R2) x y H Q ∨ rCat x y H Q
theorem op_addA : OpR X (binaryOp .Add) (rdAdd X.K) := OpR.or op_add (OpR.or op_catA (OpR.or op_add_str op_cat))
theorem os_add : OpS X T (rdAdd X.K) addD := by
  intro W G h H σ x y v w Q r d1 d2 o
  have lists : (match asL h x, asL h y with
    | some xs, some ys => if lineOk (xs.length + ys.length) = true then R.ok (.lst (xs ++ ys)) h else .stk
    | _, _ => .stk) = addD x y h → rdAdd X.K v w H Q := fun e => by
    rw [← e] at o
    cases ex : asL h x with
    | none => rw [ex] at o; exact o.elim
    | some xs =>
      cases ey : asL h y with
      | none => rw [ex, ey] at o; exact o.elim
      | some ys =>
        rw [ex, ey] at o
        dsimp only at o
        by_cases hl : lineOk (xs.length + ys.length) = true
        · rw [if_pos hl] at o
          obtain ⟨a, vs, rfl, h1, q1⟩ := asL_ok r d1 ex
          obtain ⟨b, ws, rfl, h2, q2⟩ := asL_ok r d2 ey
          exact .inr (.inr (.inr ⟨a, b, vs, ws, rfl, rfl, h1, h2, by rw [← q1.length, ← q2.length]; exact lineOk_le hl, fun p hp => newLst r (q1.append q2) hp o⟩))
        · rw [if_neg hl] at o; exact o.elim
  cases d1 with
  | int =>
    cases d2 with
    | int => exact .inl ⟨_, _, rfl, rfl, o.at r .int⟩
    | _ => first | exact lists rfl | exact o.elim
  | @str a =>
    cases d2 with
    | @str b =>
      unfold addD at o
      dsimp only at o
      by_cases hl : lineOk (a.length + b.length) = true
      · rw [if_pos hl] at o
        refine .inr (.inr (.inl ⟨_, _, rfl, rfl, ?_, ?_⟩))
        · show a.toArray.size + b.toArray.size ≤ sizeLine
          simpa using lineOk_le hl
        · have e : (⟨a.toArray⟩ : Str) ++ (⟨b.toArray⟩ : Str) = ⟨(a ++ b).toArray⟩ := by
            show (⟨a.toArray ++ b.toArray⟩ : Str) = _
            simp
          rw [e]
          exact o.at r .str
      · rw [if_neg hl] at o; exact o.elim
    | _ => first | exact lists rfl | exact o.elim
  | @tup xs a vs h1 q1 =>
    cases d2 with
    | @tup ys b ws h2 q2 =>
      unfold addD at o
      dsimp only at o
      by_cases hl : lineOk (xs.length + ys.length) = true
      · rw [if_pos hl] at o
        refine .inr (.inl ⟨a, b, vs, ws, rfl, rfl, SqT.sub r.sub h1, SqT.sub r.sub h2, by rw [← q1.length, ← q2.length]; exact lineOk_le hl, fun e => ?_, fun _ e => ?_, fun _ _ p hp => newTup r (q1.append q2) hp o⟩)
        · subst e; cases q1; exact o.at r (.tup h2 q2)
        · subst e; cases q2; rw [List.append_nil] at o; exact o.at r (.tup h1 q1)
      · rw [if_neg hl] at o; exact o.elim
    | _ => first | exact lists rfl | exact o.elim
  | _ => first | exact lists rfl | (cases d2 <;> first | exact lists rfl | exact o.elim)
def subD : F2 := fun x y h => match x, y with
  | .int i, .int j => .ok (.int (i - j)) h
  | _, _ => .stk
theorem os_sub : OpS X T (rI0 fun i j => .int (i - j)) subD := by
  intro W G h H σ x y v w Q r d1 d2 o
  cases d1 with
  | int => cases d2 with
    | int => exact ⟨_, _, rfl, rfl, o.at r .int⟩
    | _ => exact o.elim
  | _ => exact o.elim
/-- one factor within 2^64, or both within 2^100000 -/
def mulOk (i j : Int) : Bool := (decide (-(2 ^ 64) < i) && decide (i < 2 ^ 64) || (decide (-(2 ^ 64) < j) && decide (j < 2 ^ 64))) || decide (i.natAbs.log2 + j.natAbs.log2 < 1000000)
theorem mulOk_C {i j : Int} (h : mulOk i j = true) : CMul i j ∨ CMulW i j := by
  unfold mulOk at h
  simp only [Bool.or_eq_true, Bool.and_eq_true, decide_eq_true_eq] at h
  exact h
def mulD : F2 := fun x y h => match x, y with
  | .int i, .int j => if mulOk i j = true then .ok (.int (i * j)) h else .stk
  | .tup xs, .int k => if xs.isEmpty = false ∧ 2 ≤ k ∧ k ≤ 1000 ∧ xs.length ≤ 1000 then .ok (.tup (List.replicate k.toNat xs).flatten) h else .stk
  | x, .int k => match asL h x with
    | some xs => if 0 ≤ k ∧ k ≤ 1000 ∧ xs.length ≤ 1000 then .ok (.lst (List.replicate k.toNat xs).flatten) h else .stk
    | none => .stk
  | _, _ => .stk
def rdMul (K : PySem.W.Frag) : R2 := fun x y H Q => rI CMul (fun i j => .int (i * j)) x y H Q ∨ rI CMulW (fun i j => .int (i * j)) x y H Q ∨ rRepT K x y H Q ∨ rRep x y H Q
theorem op_mulA : OpR X (binaryOp .Mult) (rdMul X.K) := OpR.or op_mul (OpR.or op_mulW (OpR.or op_repT op_rep))
theorem os_mul : OpS X T (rdMul X.K) mulD := by
  intro W G h H σ x y v w Q r d1 d2 o
  cases d2 with
  | @int k =>
    have lists : (match asL h x with
      | some xs => if 0 ≤ k ∧ k ≤ 1000 ∧ xs.length ≤ 1000 then R.ok (.lst (List.replicate k.toNat xs).flatten) h else .stk
      | none => .stk) = mulD x (.int k) h → rdMul X.K v (.int k) H Q := fun e => by
      rw [← e] at o
      cases ex : asL h x with
      | none => rw [ex] at o; exact o.elim
      | some xs =>
        rw [ex] at o
        dsimp only at o
        by_cases hl : 0 ≤ k ∧ k ≤ 1000 ∧ xs.length ≤ 1000
        · rw [if_pos hl] at o
          obtain ⟨a, vs, rfl, h1, q1⟩ := asL_ok r d1 ex
          refine .inr (.inr (.inr ⟨a, k, vs, rfl, rfl, h1, by omega, by omega, ?_, fun p hp => newLst r (q1.rep k.toNat) hp o⟩))
          have z := Nat.mul_le_mul (show vs.length ≤ 1000 by rw [← q1.length]; exact hl.2.2) (show k.toNat ≤ 1000 by omega)
          rw [sizeLine_eq]; omega
        · rw [if_neg hl] at o; exact o.elim
    cases d1 with
    | @int i =>
      unfold mulD at o
      dsimp only at o
      by_cases hl : mulOk i k = true
      · rw [if_pos hl] at o
        rcases mulOk_C hl with c | c
        · exact .inl ⟨_, _, rfl, rfl, c, o.at r .int⟩
        · exact .inr (.inl ⟨_, _, rfl, rfl, c, o.at r .int⟩)
      · rw [if_neg hl] at o; exact o.elim
    | @tup xs a vs h1 q1 =>
      unfold mulD at o
      dsimp only at o
      by_cases hl : xs.isEmpty = false ∧ 2 ≤ k ∧ k ≤ 1000 ∧ xs.length ≤ 1000
      · rw [if_pos hl] at o
        refine .inr (.inr (.inl ⟨a, k, vs, rfl, rfl, SqT.sub r.sub h1, fun e => ?_, hl.2.1, hl.2.2.1, by rw [← q1.length]; exact hl.2.2.2, fun p hp => newTup r (q1.rep k.toNat) hp o⟩))
        subst e; cases q1; exact Bool.noConfusion hl.1
      · rw [if_neg hl] at o; exact o.elim
    | _ => first | exact lists rfl | exact o.elim
  | _ => cases d1 <;> exact o.elim
/-- by a positive divisor below 2^64 -/
def divD : F2 := fun x y h => match x, y with
  | .int i, .int j => if 0 < j ∧ j.natAbs.log2 < 9000 then .ok (.int (i / j)) h else .stk
  | _, _ => .stk
theorem os_div : OpS X T (rI CDivW fun i j => .int (i / j)) divD := by
  intro W G h H σ x y v w Q r d1 d2 o
  cases d1 with
  | @int i => cases d2 with
    | @int j =>
      unfold divD at o
      dsimp only at o
      by_cases hl : 0 < j ∧ j.natAbs.log2 < 9000
      · rw [if_pos hl] at o; exact ⟨_, _, rfl, rfl, ⟨hl.1, hl.2⟩, o.at r .int⟩
      · rw [if_neg hl] at o; exact o.elim
    | _ => exact o.elim
  | _ => exact o.elim
/-- by a positive divisor -/
def modD : F2 := fun x y h => match x, y with
  | .int i, .int j => if 0 < j then .ok (.int (i % j)) h else .stk
  | _, _ => .stk
theorem os_mod : OpS X T (rI (fun _ j => 0 < j) fun i j => .int (i % j)) modD := by
  intro W G h H σ x y v w Q r d1 d2 o
  cases d1 with
  | @int i => cases d2 with
    | @int j =>
      unfold modD at o
      dsimp only at o
      by_cases hl : 0 < j
      · rw [if_pos hl] at o; exact ⟨_, _, rfl, rfl, hl, o.at r .int⟩
      · rw [if_neg hl] at o; exact o.elim
    | _ => exact o.elim
  | _ => exact o.elim
def powD : F2 := fun x y h => match x, y with
  | .int i, .int j => if 0 ≤ j ∧ j ≤ 1000000 ∧ i.natAbs < 2 ^ 64 then .ok (.int (i ^ j.toNat)) h else .stk
  | _, _ => .stk
theorem os_pow : OpS X T (rI CPow fun i j => .int (i ^ j.toNat)) powD := by
  intro W G h H σ x y v w Q r d1 d2 o
  cases d1 with
  | @int i => cases d2 with
    | @int j =>
      unfold powD at o
      dsimp only at o
      by_cases hl : 0 ≤ j ∧ j ≤ 1000000 ∧ i.natAbs < 2 ^ 64
      · rw [if_pos hl] at o; exact ⟨_, _, rfl, rfl, hl, o.at r .int⟩
      · rw [if_neg hl] at o; exact o.elim
    | _ => exact o.elim
  | _ => exact o.elim
def xorD : F2 := fun x y h => match x, y with
  | .int i, .int j => .ok (.int (Builtin.bitXor i j)) h
  | _, _ => .stk
theorem os_xor : OpS X T (rI0 fun i j => .int (Builtin.bitXor i j)) xorD := by
  intro W G h H σ x y v w Q r d1 d2 o
  cases d1 with
  | int => cases d2 with
    | int => exact ⟨_, _, rfl, rfl, o.at r .int⟩
    | _ => exact o.elim
  | _ => exact o.elim
def negD : D → Hh → R D := fun x h => match x with
  | .int i => .ok (.int (-i)) h
  | _ => .stk
theorem us_neg : UnS X T (rU fun i => .int (-i)) negD := by
  intro W G h H σ x v Q r d o
  cases d with
  | int => exact ⟨_, rfl, o.at r .int⟩
  | _ => exact o.elim
/-! ### comparisons -/
def cmpD (p : Int → Int → Bool) : F2 := fun x y h => match x, y with
  | .int i, .int j => .ok (.bl (p i j)) h
  | _, _ => .stk
theorem os_cmp {p : Int → Int → Bool} : OpS X T (rI0 fun i j => .bl (p i j)) (cmpD p) := by
  intro W G h H σ x y v w Q r d1 d2 o
  cases d1 with
  | int => cases d2 with
    | int => exact ⟨_, _, rfl, rfl, o.at r .bl⟩
    | _ => exact o.elim
  | _ => exact o.elim
abbrev ltD : F2 := cmpD fun i j => decide (i < j)
abbrev leD : F2 := cmpD fun i j => decide (i ≤ j)
abbrev gtD : F2 := cmpD fun i j => decide (j < i)
abbrev geD : F2 := cmpD fun i j => decide (j ≤ i)
/-! data -/
mutual
def pd : D → PyData
  | .bl b => .bool b
  | .int i => .int i
  | .str x => .str ⟨x.toArray⟩
  | .tup ds => .tuple (pds ds)
  | .lst ds => .list (pds ds)
  | _ => .none
def pds : List D → List PyData
  | [] => []
  | d :: ds => pd d :: pds ds
end
mutual
/-- plain data of a depth of at most k -/
def flat : Nat → D → Bool
  | _, .non => true
  | _, .bl _ => true
  | _, .int _ => true
  | _, .str _ => true
  | k + 1, .tup ds => flats k ds
  | k + 1, .lst ds => flats k ds
  | _, _ => false
def flats : Nat → List D → Bool
  | _, [] => true
  | k, d :: ds => flat k d && flats k ds
end
mutual
theorem flat_pd : ∀ (d : D) (k : Nat), flat k d = true → (pd d).plain = true ∧ (pd d).depth ≤ k
  | .non, _, _ => ⟨rfl, Nat.zero_le _⟩
  | .bl _, _, _ => ⟨rfl, Nat.zero_le _⟩
  | .int _, _, _ => ⟨rfl, Nat.zero_le _⟩
  | .str _, _, _ => ⟨rfl, Nat.zero_le _⟩
  | .tup ds, 0, h => nomatch (show false = true by simpa [flat] using h)
  | .tup ds, k + 1, h => by
    obtain ⟨a, b⟩ := flats_pd ds k (by simpa [flat] using h)
    simp only [pd, PyData.plain, PyData.depth]
    exact ⟨a, by omega⟩
  | .lst ds, 0, h => nomatch (show false = true by simpa [flat] using h)
  | .lst ds, k + 1, h => by
    obtain ⟨a, b⟩ := flats_pd ds k (by simpa [flat] using h)
    simp only [pd, PyData.plain, PyData.depth]
    exact ⟨a, by omega⟩
  | .dic _ _, k, h => by cases k <;> exact nomatch (show false = true by simpa [flat] using h)
  | .obj _ _, k, h => by cases k <;> exact nomatch (show false = true by simpa [flat] using h)
  | .ref _, k, h => by cases k <;> exact nomatch (show false = true by simpa [flat] using h)
  | .scr _, k, h => by cases k <;> exact nomatch (show false = true by simpa [flat] using h)
theorem flats_pd : ∀ (ds : List D) (k : Nat), flats k ds = true → PyData.plainAll (pds ds) = true ∧ PyData.depthAll (pds ds) ≤ k
  | [], _, _ => ⟨by simp [pds, PyData.plainAll], by simp [pds, PyData.depthAll]⟩
  | d :: ds, k, h => by
    have h' : flat k d = true ∧ flats k ds = true := by simpa [flats] using h
    obtain ⟨a, b⟩ := flat_pd d k h'.1
    obtain ⟨a', b'⟩ := flats_pd ds k h'.2
    simp only [pds, PyData.plainAll, PyData.depthAll]
    exact ⟨by rw [a, a']; rfl, by omega⟩
end
mutual
theorem RD.dp {K : PySem.W.Frag} {G : Gst} {H : Hp} (s : ∀ a o, G.fz a = some o → H a = some o) : ∀ (d : D) (k : Nat) (v : V), flat k d = true → RD K T G d v → Dp K H v (pd d)
  | .non, _, _, _, r => by cases r; simp only [pd]; exact .non
  | .bl _, _, _, _, r => by cases r; simp only [pd]; exact .bl _
  | .int _, _, _, _, r => by cases r; simp only [pd]; exact .int _
  | .str _, _, _, _, r => by cases r; simp only [pd]; exact .str _
  | .tup ds, 0, _, h, _ => nomatch (show false = true by simpa [flat] using h)
  | .tup ds, k + 1, _, h, r => by
    cases r with
    | tup h1 q => simp only [pd]; exact .tup (SqT.sub s h1) (RDs.dp s ds k _ (by simpa [flat] using h) q)
  | .lst ds, 0, _, h, _ => nomatch (show false = true by simpa [flat] using h)
  | .lst ds, k + 1, _, h, r => by
    cases r with
    | lst h1 q => simp only [pd]; exact .lst (.inl (.inl (s _ _ h1))) (RDs.dp s ds k _ (by simpa [flat] using h) q)
  | .dic _ _, k, _, h, _ => by cases k <;> exact nomatch (show false = true by simpa [flat] using h)
  | .obj _ _, k, _, h, _ => by cases k <;> exact nomatch (show false = true by simpa [flat] using h)
  | .ref _, k, _, h, _ => by cases k <;> exact nomatch (show false = true by simpa [flat] using h)
  | .scr _, k, _, h, _ => by cases k <;> exact nomatch (show false = true by simpa [flat] using h)
theorem RDs.dp {K : PySem.W.Frag} {G : Gst} {H : Hp} (s : ∀ a o, G.fz a = some o → H a = some o) : ∀ (ds : List D) (k : Nat) (vs : List V), flats k ds = true → RDs K T G ds vs → DpAll K H vs (pds ds)
  | [], _, _, _, r => by cases r; simp only [pds]; exact .nil
  | d :: ds, k, _, h, r => by
    have h' : flat k d = true ∧ flats k ds = true := by simpa [flats] using h
    cases r with
    | cons h1 h2 => simp only [pds]; exact .cons (RD.dp s d k _ h'.1 h1) (RDs.dp s ds k _ h'.2 h2)
end
/-- a changing list as it stands -/
def deref (h : Hh) (d : D) : D := match d with
  | .ref n => match h[n]? with
    | some (.lst ds) => .lst ds
    | _ => .ref n
  | d => d
theorem deref_dp {K : PySem.W.Frag} {G : Gst} {h : Hh} {H : Hp} {d : D} {v : V} {k : Nat} (r : Rel K T G h H) (d1 : RD K T G d v) (f : flat k (deref h d) = true) : Dp K H v (pd (deref h d)) := by
  cases d with
  | ref n =>
    unfold deref at f ⊢
    dsimp only at f ⊢
    cases q : h[n]? with
    | none =>
      rw [q] at f
      cases k <;> exact nomatch (show false = true by simpa [flat] using f)
    | some o =>
      rw [q] at f
      cases o with
      | lst es =>
        dsimp only at f ⊢
        cases d1 with
        | ref h1 =>
          obtain ⟨a', vs, e1, e2, e3, e4⟩ := r.obj n _ q
          rw [h1] at e1; cases e1
          cases k with
          | zero => exact nomatch (show false = true by simpa [flat] using f)
          | succ k => simp only [pd]; exact .lst (.inl (.inl e3)) (RDs.dp r.sub es k _ (by simpa [flat] using f) e4)
      | _ => cases k <;> exact nomatch (show false = true by simpa [flat] using f)
  | _ => exact RD.dp r.sub _ k _ f d1
/-- == of plain data -/
def eqv (x y : D) : Bool := PyData.eqv (pd x) (pd y)
def eqD : F2 := fun x y h => if flat 60 (deref h x) = true ∧ flat 60 (deref h y) = true then .ok (.bl (eqv (deref h x) (deref h y))) h else .stk
def neD : F2 := fun x y h => if flat 60 (deref h x) = true ∧ flat 60 (deref h y) = true then .ok (.bl (!eqv (deref h x) (deref h y))) h else .stk
def rEqP (K : PySem.W.Frag) : R2 := fun x y H Q => ∃ d e, Dp K H x d ∧ Dp K H y e ∧ d.plain = true ∧ e.plain = true ∧ d.depth ≤ 60 ∧ e.depth ≤ 60 ∧ Q (.bl (PyData.eqv d e)) H
def rNeP (K : PySem.W.Frag) : R2 := fun x y H Q => ∃ d e, Dp K H x d ∧ Dp K H y e ∧ d.plain = true ∧ e.plain = true ∧ d.depth ≤ 60 ∧ e.depth ≤ 60 ∧ Q (.bl (!PyData.eqv d e)) H
theorem op_eqP (hu : X.A.units + 64 < cLine) : OpR X (compareOp .Eq) (rEqP X.K) := by
  intro pins s σ H x y v u Q I rx ry h
  obtain ⟨d, e, hd, he, pd, pe, nd, ne, q⟩ := h
  obtain ⟨as, r1⟩ := Dp.reads I d x v hd rx
  obtain ⟨bs, r2⟩ := Dp.reads I e y u he ry
  exact SeqAt.eq_plain r1 r2 pd pe (by omega) ⟨.bl _, H, I, rfl, q⟩
theorem op_neP (hu : X.A.units + 64 < cLine) : OpR X (compareOp .NotEq) (rNeP X.K) := by
  intro pins s σ H x y v u Q I rx ry h
  obtain ⟨d, e, hd, he, pd, pe, nd, ne, q⟩ := h
  obtain ⟨as, r1⟩ := Dp.reads I d x v hd rx
  obtain ⟨bs, r2⟩ := Dp.reads I e y u he ry
  exact SeqAt.ne_plain r1 r2 pd pe (by omega) ⟨.bl _, H, I, rfl, q⟩
theorem os_eq : OpS X T (rEqP X.K) eqD := by
  intro W G h H σ x y v w Q r d1 d2 o
  unfold eqD at o
  by_cases hl : flat 60 (deref h x) = true ∧ flat 60 (deref h y) = true
  · rw [if_pos hl] at o
    obtain ⟨p1, n1⟩ := flat_pd _ _ hl.1
    obtain ⟨p2, n2⟩ := flat_pd _ _ hl.2
    exact ⟨_, _, deref_dp r d1 hl.1, deref_dp r d2 hl.2, p1, p2, n1, n2, o.at r .bl⟩
  · rw [if_neg hl] at o; exact o.elim
theorem os_ne : OpS X T (rNeP X.K) neD := by
  intro W G h H σ x y v w Q r d1 d2 o
  unfold neD at o
  by_cases hl : flat 60 (deref h x) = true ∧ flat 60 (deref h y) = true
  · rw [if_pos hl] at o
    obtain ⟨p1, n1⟩ := flat_pd _ _ hl.1
    obtain ⟨p2, n2⟩ := flat_pd _ _ hl.2
    exact ⟨_, _, deref_dp r d1 hl.1, deref_dp r d2 hl.2, p1, p2, n1, n2, o.at r .bl⟩
  · rw [if_neg hl] at o; exact o.elim
/-- in, not in -/
def inOk (h : Hh) (x y : D) : Option (List D) := match deref h y with
  | .lst ds => if flat 50 x = true ∧ flats 50 ds = true then some ds else none
  | .tup ds => if flat 50 x = true ∧ flats 50 ds = true then some ds else none
  | _ => none
def inD : F2 := fun x y h => match inOk h x y with
  | some ds => .ok (.bl (ds.any fun z => eqv z x)) h
  | none => .stk
def ninD : F2 := fun x y h => match inOk h x y with
  | some ds => .ok (.bl (!ds.any fun z => eqv z x)) h
  | none => .stk
def rInP (K : PySem.W.Frag) (neg : Bool) : R2 := fun x y H Q => ∃ d ds, Dp K H x d ∧ (Dp K H y (.list ds) ∨ Dp K H y (.tuple ds)) ∧ d.plain = true ∧ PyData.plainAll ds = true ∧ d.depth ≤ 50 ∧ PyData.depthAll ds ≤ 50 ∧ Q (.bl (if neg = true then !(ds.any fun z => PyData.eqv z d) else ds.any fun z => PyData.eqv z d)) H
theorem op_inP (hu : X.A.units + 64 < cLine) : OpR X (compareOp .In) (rInP X.K false) := by
  intro pins s σ H x y v u Q I rx ry h
  obtain ⟨d, ds, hd, he, p1, p2, n1, n2, q⟩ := h
  obtain ⟨as, r1⟩ := Dp.reads I d x v hd rx
  rcases he with he | he
  · obtain ⟨bs, r2⟩ := Dp.reads I _ y u he ry
    exact SeqAt.in_list_data r2 r1 p2 p1 (by omega) ⟨.bl _, H, I, rfl, q⟩
  · obtain ⟨bs, r2⟩ := Dp.reads I _ y u he ry
    exact SeqAt.in_tuple_data r2 r1 p2 p1 (by omega) ⟨.bl _, H, I, rfl, q⟩
theorem op_ninP (hu : X.A.units + 64 < cLine) : OpR X (compareOp .NotIn) (rInP X.K true) := by
  intro pins s σ H x y v u Q I rx ry h
  obtain ⟨d, ds, hd, he, p1, p2, n1, n2, q⟩ := h
  obtain ⟨as, r1⟩ := Dp.reads I d x v hd rx
  rcases he with he | he
  · obtain ⟨bs, r2⟩ := Dp.reads I _ y u he ry
    exact SeqAt.notIn_list_data r2 r1 p2 p1 (by omega) ⟨.bl _, H, I, rfl, q⟩
  · obtain ⟨bs, r2⟩ := Dp.reads I _ y u he ry
    exact SeqAt.notIn_tuple_data r2 r1 p2 p1 (by omega) ⟨.bl _, H, I, rfl, q⟩
theorem any_pds (x : D) : ∀ ds : List D, ((pds ds).any fun z => PyData.eqv z (pd x)) = ds.any fun z => eqv z x
  | [] => by simp [pds]
  | d :: ds => by simp only [pds, List.any_cons, any_pds x ds]; rfl
theorem inOk_ok {K : PySem.W.Frag} {G : Gst} {h : Hh} {H : Hp} {x y : D} {v w : V} {ds : List D} (r : Rel K T G h H) (d1 : RD K T G x v) (d2 : RD K T G y w) (e : inOk h x y = some ds) :
    Dp K H v (pd x) ∧ (Dp K H w (.list (pds ds)) ∨ Dp K H w (.tuple (pds ds))) ∧ (pd x).plain = true ∧ PyData.plainAll (pds ds) = true ∧ (pd x).depth ≤ 50 ∧ PyData.depthAll (pds ds) ≤ 50 := by
  unfold inOk at e
  cases q : deref h y with
  | lst es =>
    rw [q] at e
    dsimp only at e
    by_cases hl : flat 50 x = true ∧ flats 50 es = true
    · rw [if_pos hl] at e
      cases e
      obtain ⟨p1, n1⟩ := flat_pd _ _ hl.1
      obtain ⟨p2, n2⟩ := flats_pd _ _ hl.2
      have f : flat 51 (deref h y) = true := by rw [q]; simpa [flat] using hl.2
      have z := deref_dp r d2 f
      rw [q] at z
      simp only [pd] at z
      exact ⟨RD.dp r.sub _ _ _ hl.1 d1, .inl z, p1, p2, n1, n2⟩
    · rw [if_neg hl] at e; cases e
  | tup es =>
    rw [q] at e
    dsimp only at e
    by_cases hl : flat 50 x = true ∧ flats 50 es = true
    · rw [if_pos hl] at e
      cases e
      obtain ⟨p1, n1⟩ := flat_pd _ _ hl.1
      obtain ⟨p2, n2⟩ := flats_pd _ _ hl.2
      have f : flat 51 (deref h y) = true := by rw [q]; simpa [flat] using hl.2
      have z := deref_dp r d2 f
      rw [q] at z
      simp only [pd] at z
      exact ⟨RD.dp r.sub _ _ _ hl.1 d1, .inr z, p1, p2, n1, n2⟩
    · rw [if_neg hl] at e; cases e
  | _ => rw [q] at e; cases e
theorem os_in : OpS X T (rInP X.K false) inD := by
  intro W G h H σ x y v w Q r d1 d2 o
  unfold inD at o
  cases e : inOk h x y with
  | none => rw [e] at o; exact o.elim
  | some ds =>
    rw [e] at o
    obtain ⟨a, b, c, d, f, g⟩ := inOk_ok r d1 d2 e
    refine ⟨_, _, a, b, c, d, f, g, ?_⟩
    show Q (.bl ((pds ds).any fun z => PyData.eqv z (pd x))) H
    rw [any_pds]
    exact o.at r .bl
theorem os_nin : OpS X T (rInP X.K true) ninD := by
  intro W G h H σ x y v w Q r d1 d2 o
  unfold ninD at o
  cases e : inOk h x y with
  | none => rw [e] at o; exact o.elim
  | some ds =>
    rw [e] at o
    obtain ⟨a, b, c, d, f, g⟩ := inOk_ok r d1 d2 e
    refine ⟨_, _, a, b, c, d, f, g, ?_⟩
    show Q (.bl (!((pds ds).any fun z => PyData.eqv z (pd x)))) H
    rw [any_pds]
    exact o.at r .bl
/-- is None, is True -/
def isNon : D → Bool
  | .non => true
  | _ => false
def isD : F2 := fun x y h => match y with
  | .non => .ok (.bl (isNon x)) h
  | .bl b => match x with
    | .bl a => .ok (.bl (decide (a = b))) h
    | _ => .stk
  | _ => .stk
def isnD : F2 := fun x y h => match y with
  | .non => .ok (.bl (!isNon x)) h
  | .bl b => match x with
    | .bl a => .ok (.bl (!decide (a = b))) h
    | _ => .stk
  | _ => .stk
def rIsA : R2 := fun x y H Q => (fun x y H Q => y = .non ∧ Q (.bl (decide (x = .non))) H : R2) x y H Q ∨ rIsB x y H Q
def rIsnA : R2 := fun x y H Q => (fun x y H Q => y = .non ∧ Q (.bl (!decide (x = .non))) H : R2) x y H Q ∨ rNotB x y H Q
theorem op_isA : OpR X (compareOp .Is) rIsA := OpR.or op_isN op_isBl
theorem op_isnA : OpR X (compareOp .IsNot) rIsnA := OpR.or op_notN op_notBl
theorem isNon_v {K : PySem.W.Frag} {G : Gst} {d : D} {v : V} (d1 : RD K T G d v) : decide (v = .non) = isNon d := by
  cases d1 <;> simp [isNon]
theorem os_is : OpS X T rIsA isD := by
  intro W G h H σ x y v w Q r d1 d2 o
  cases d2 with
  | non => exact .inl ⟨rfl, by rw [isNon_v d1]; exact o.at r .bl⟩
  | bl => cases d1 with
    | bl => exact .inr ⟨_, _, rfl, rfl, o.at r .bl⟩
    | _ => exact o.elim
  | _ => exact o.elim
theorem os_isn : OpS X T rIsnA isnD := by
  intro W G h H σ x y v w Q r d1 d2 o
  cases d2 with
  | non => exact .inl ⟨rfl, by rw [isNon_v d1]; exact o.at r .bl⟩
  | bl => cases d1 with
    | bl => exact .inr ⟨_, _, rfl, rfl, o.at r .bl⟩
    | _ => exact o.elim
  | _ => exact o.elim
end
end L3
set_option autoImplicit false
set_option maxHeartbeats 4000000
/-! L3D: subscripts, slices, attributes, targets, loops, comprehensions, defs and calls. -/
namespace L3
open PySem PySem.Spec L2
section
variable {X : Cx} {T : Tx} {W : WX} {pos : Pos}
/-! ### subscripts -/
theorem RDs.ati {K : PySem.W.Frag} {G : Gst} {ds : List D} {vs : List V} {i : Int} {d : D} (r : RDs K T G ds vs) (e : atI ds i = some d) : ∃ v, atI vs i = some v ∧ RD K T G d v := by
  unfold atI at e ⊢
  rw [← r.length]
  cases q : ixN ds.length i with
  | none => rw [q] at e; cases e
  | some j =>
    rw [q] at e
    exact r.get e
def ixD : F2 := fun x y h => match x, y with
  | .tup xs, .int i => match atI xs i with
    | some d => .ok d h
    | none => .stk
  | .str s, .int i => if lineOk s.length = true then match atI s i with
    | some c => .ok (.str [c]) h
    | none => .stk else .stk
  | x, .int i => match asL h x with
    | some xs => match atI xs i with
      | some d => .ok d h
      | none => .stk
    | none => .stk
  | _, _ => .stk
theorem os_ix : OpS X T (rIx X.K) ixD := by
  intro W G h H σ x y v w Q r d1 d2 o
  cases d2 with
  | @int i =>
    have lists : (match asL h x with
      | some xs => match atI xs i with
        | some d => R.ok d h
        | none => .stk
      | none => .stk) = ixD x (.int i) h → rIx X.K v (.int i) H Q := fun e => by
      rw [← e] at o
      cases ex : asL h x with
      | none => rw [ex] at o; exact o.elim
      | some xs =>
        rw [ex] at o
        dsimp only at o
        cases ea : atI xs i with
        | none => rw [ea] at o; exact o.elim
        | some d =>
          rw [ea] at o
          obtain ⟨a, vs, rfl, h1, q1⟩ := asL_ok r d1 ex
          obtain ⟨u, eu, du⟩ := q1.ati ea
          exact .inl ⟨a, vs, i, u, rfl, rfl, .inl (.inl h1), eu, o.at r du⟩
    cases d1 with
    | @tup xs a vs h1 q1 =>
      unfold ixD at o
      dsimp only at o
      cases ea : atI xs i with
      | none => rw [ea] at o; exact o.elim
      | some d =>
        rw [ea] at o
        obtain ⟨u, eu, du⟩ := q1.ati ea
        exact .inr (.inl ⟨a, vs, i, u, rfl, rfl, SqT.sub r.sub h1, eu, o.at r du⟩)
    | @str s =>
      unfold ixD at o
      dsimp only at o
      by_cases hl : lineOk s.length = true
      · rw [if_pos hl] at o
        cases ea : atI s i with
        | none => rw [ea] at o; exact o.elim
        | some c =>
          rw [ea] at o
          refine .inr (.inr ⟨_, i, c, rfl, rfl, ?_, by simpa using ea, ?_⟩)
          · show s.toArray.size ≤ sizeLine
            simpa using lineOk_le hl
          · exact o.at r .str
      · rw [if_neg hl] at o; exact o.elim
    | _ => first | exact lists rfl | exact o.elim
  | _ => cases d1 <;> exact o.elim
theorem fe_ix {a b : Expr} {fa fb : FnE} (hs : PlainIx b) (ha : FE X T W a fa) (hb : FE X T W b fb) : FE X T W (.Subscript a b pos) (eBin ixD fa fb) :=
  PE.imp (pe_ix ix_seq ha hb hs) fun _ _ _ h => tE_bin os_ix h
/-! slices -/
abbrev FnO := De → Hh → R (Option Int)
abbrev tO (K : PySem.W.Frag) (T : Tx) (W : WX) (f : FnO) : TO := tF K T W (fun _ a b => a = b) f
abbrev FO (X : Cx) (T : Tx) (W : WX) (e : Option Expr) (f : FnO) : Prop := PO X e (tO X.K T W f)
theorem PO.imp {e : Option Expr} {t t' : TO} (h : PO X e t) (q : ∀ σ H Q, t' σ H Q → t σ H Q) : PO X e t' := ⟨fun pins s σ H Q I z => h.run pins s σ H Q I (q _ _ _ z)⟩
def oNone : FnO := fun _ h => .ok none h
def oSome (f : FnE) : FnO := fun δ h => (f δ h).bind fun x h1 => match x with
  | .int i => .ok (some i) h1
  | _ => .stk
theorem fo_none : FO X T W none oNone := by
  refine PO.imp po_none fun σ H Q => ?_
  rintro ⟨G, h0, δ, r, s, o⟩
  exact okR.at o r rfl
theorem fo_some {e : Expr} {f : FnE} (h : FE X T W e f) : FO X T W (some e) (oSome f) := by
  refine PO.imp (po_some h) fun σ H Q h => ?_
  refine tF.bind (k := fun _ x h1 => match x with | .int i => .ok (some i) h1 | _ => .stk) h fun G δ x v h1 H1 r1 s1 d1 o1 => ?_
  cases d1 with
  | int => exact ⟨_, rfl, okR.at o1 r1 rfl⟩
  | _ => exact o1.elim
def cutL {α : Type} (xs : List α) (lo hi : Option Int) : List α := (xs.drop (HT.sIx xs.length 0 lo)).take (HT.sIx xs.length xs.length hi - HT.sIx xs.length 0 lo)
theorem RDs.cut {K : PySem.W.Frag} {G : Gst} {ds : List D} {vs : List V} (r : RDs K T G ds vs) (lo hi : Option Int) : RDs K T G (cutL ds lo hi) (cutV vs lo hi) := by
  unfold cutL cutV
  rw [← r.length]
  exact (r.drop _).take _
theorem cutL_all {α : Type} (xs : List α) (lo hi : Option Int) (h : HT.sIx xs.length 0 lo = 0 ∧ HT.sIx xs.length xs.length hi = xs.length) : cutL xs lo hi = xs := by
  unfold cutL
  rw [h.1, h.2]
  simp
def sliceD (x : D) (lo hi : Option Int) (h : Hh) : R D := match x with
  | .tup xs => .ok (.tup (cutL xs lo hi)) h
  | x => match asL h x with
    | some xs => .ok (.lst (cutL xs lo hi)) h
    | none => .stk
def eSlice (f : FnE) (fl fh : FnO) : FnE := fun δ h => (f δ h).bind fun x h1 => (fl δ h1).bind fun l h2 => (fh δ h2).bind fun u h3 => sliceD x l u h3
def rSlAll (K : PySem.W.Frag) : V → Option Int → Option Int → Hp → VK → Prop := fun x lo hi H Q => rSlA K x lo hi H Q ∨ rSlL K x lo hi H Q
theorem fe_slice {e : Expr} {lo hi : Option Expr} {p2 : Pos} {f : FnE} {fl fh : FnO} (he : FE X T W e f) (hl : FO X T W lo fl) (hh : FO X T W hi fh) : FE X T W (.Subscript e (.Slice lo hi none p2) pos) (eSlice f fl fh) := by
  refine PE.imp (pe_slice (r := rSlAll X.K) (SlR.or sl_tupA sl_list) he hl hh) fun σ H Q => ?_
  rintro ⟨G, h0, δ, r, s, o⟩
  refine ⟨G, h0, δ, r, s, (okR.bind (rel := RD X.K T) o).mono ?_⟩
  rintro v H1 ⟨G1, x, h1, e1, r1, d1, o1⟩
  refine ⟨G1, h1, δ, r1, s.mono e1, (okR.bind (rel := fun _ a b => a = b) o1).mono ?_⟩
  rintro l H2 ⟨G2, l', h2, e2, r2, rfl, o2⟩
  refine ⟨G2, h2, δ, r2, s.mono (e1.trans e2), (okR.bind (rel := fun _ a b => a = b) o2).mono ?_⟩
  rintro u H3 ⟨G3, u', h3, e3, r3, rfl, o3⟩
  have d3 := d1.mono (e2.trans e3)
  have lists : (match asL h3 x with
    | some xs => R.ok (.lst (cutL xs l' u')) h3
    | none => .stk) = sliceD x l' u' h3 → rSlAll X.K v l' u' H3 Q := fun e => by
    rw [← e] at o3
    cases ex : asL h3 x with
    | none => rw [ex] at o3; exact o3.elim
    | some xs =>
      rw [ex] at o3
      obtain ⟨a, vs, rfl, q1, q2⟩ := asL_ok r3 d3 ex
      exact .inr ⟨a, vs, rfl, .inl (.inl q1), fun p hp => newLst r3 (q2.cut l' u') hp o3⟩
  cases d3 with
  | @tup xs a vs q1 q2 =>
    refine .inl ⟨a, vs, rfl, SqT.sub r3.sub q1, fun e => ?_, fun _ p hp => newTup r3 (q2.cut l' u') hp o3⟩
    have o4 : okR X.K T W G3 σ (RD X.K T) (.ok (.tup (cutL xs l' u')) h3) Q := o3
    rw [cutL_all xs l' u' (by rw [q2.length]; exact e)] at o4
    exact o4.at r3 (.tup q1 q2)
  | _ => exact lists rfl
/-! ### attributes -/
/-- where an attribute stands in its class -/
def AttrOk (X : Cx) (T : Tx) (f : Str) (ix : Nat → Option Nat) : Prop := ∀ c k, ix c = some k → ∃ C nm, T.cls c = some (C, nm) ∧ nm[k]? = some f ∧ nm.Nodup ∧ nm.length < 1000 ∧ Cls X.K C ∧ NoAttr X.K C f
theorem look_at {f : Str} : ∀ {fs : List (Str × V)} {k : Nat} {v : V}, (fs.map (·.1)).Nodup → (fs.map (·.1))[k]? = some f → (fs.map (·.2))[k]? = some v → fs.lookup f = some v
  | [], _, _, _, e, _ => by simp at e
  | (g, y) :: r, 0, v, _, e, q => by
    simp at e q
    subst e; subst q
    simp [List.lookup]
  | (g, y) :: r, k + 1, v, n, e, q => by
    have n' : g ∉ r.map (·.1) ∧ (r.map (·.1)).Nodup := by simpa using n
    have e' : (r.map (·.1))[k]? = some f := by simpa using e
    have ne : f ≠ g := fun z => n'.1 (z ▸ List.mem_of_getElem? e')
    have b : (f == g) = false := beq_eq_false_iff_ne.mpr ne
    simp only [List.lookup, b]
    exact look_at n'.2 e' (by simpa using q)
def optR (o : Option D) (h : Hh) : R D := match o with
  | some d => .ok d h
  | none => .stk
def fieldAt (ix : Nat → Option Nat) (c : Nat) (ds : List D) : Option D := match ix c with
  | some k => ds[k]?
  | none => none
def fldD (ix : Nat → Option Nat) (x : D) (h : Hh) : R D := match x with
  | .obj c ds => optR (fieldAt ix c ds) h
  | .ref n => match h[n]? with
    | some (.obj c ds) => optR (fieldAt ix c ds) h
    | _ => .stk
  | _ => .stk
def eFld (ix : Nat → Option Nat) (fa : FnE) : FnE := fun δ h => (fa δ h).bind (fldD ix)
theorem fe_fld {e : Expr} {f : Str} {ix : Nat → Option Nat} {fa : FnE} (a : AttrOk X T f ix) (he : FE X T W e fa) (hb : attributeBase e f X.env (eval e X.env) = eval e X.env := by rfl) : FE X T W (.Attribute e f pos) (eFld ix fa) := by
  refine PE.imp (pe_fld he hb) fun σ H Q h => ?_
  refine tF.bind (k := fun _ => fldD ix) h fun G δ x v h1 H1 r1 s1 d1 o1 => ?_
  have fin : ∀ {c : Nat} {ds : List D} {a' C dx : Addr} {nm : List Str} {fs : List (Str × V)}, H1 a' = some (.ins C dx fs) → T.cls c = some (C, nm) → fs.map (·.1) = nm.take ds.length → RDs X.K T G ds (fs.map (·.2)) →
      okR X.K T W G σ (RD X.K T) (optR (fieldAt ix c ds) h1) Q →
      ∃ a C dx fs v, V.ref a' = .ref a ∧ H1 a = some (.ins C dx fs) ∧ Cls X.K C ∧ NoAttr X.K C f ∧ fs.lookup f = some v ∧ Q v H1 := fun {c ds a' C dx nm fs} q1 q2 q3 q4 o2 => by
    unfold fieldAt at o2
    cases ei : ix c with
    | none => rw [ei] at o2; exact o2.elim
    | some k =>
      rw [ei] at o2
      dsimp only at o2
      cases ed : ds[k]? with
      | none => rw [ed] at o2; exact o2.elim
      | some d =>
        rw [ed] at o2
        obtain ⟨C', nm', c1, c2, c3, _, c4, c5⟩ := a c k ei
        rw [q2] at c1; cases c1
        obtain ⟨u, eu, du⟩ := q4.get ed
        have hk : k < ds.length := (List.getElem?_eq_some_iff.mp ed).1
        refine ⟨a', C, dx, fs, u, rfl, q1, c4, c5, look_at (k := k) (by rw [q3]; exact c3.sublist (List.take_sublist _ _)) (by rw [q3, List.getElem?_take_of_lt hk]; exact c2) eu, o2.at r1 du⟩
  cases d1 with
  | @obj c ds a' C dx nm fs q1 q2 q3 q4 =>
    exact fin (r1.sub _ _ q1) q2 (by rw [q3, List.take_of_length_le (by rw [q4.length, ← q3]; simp)]) q4 o1
  | @ref n a' q1 =>
    unfold fldD at o1
    dsimp only at o1
    cases q : h1[n]? with
    | none => rw [q] at o1; exact o1.elim
    | some ob =>
      rw [q] at o1
      cases ob with
      | obj c ds =>
        obtain ⟨a2, C, dx, nm, fs, e1, e2, e3, e4, e5, e6⟩ := r1.obj n _ q
        rw [q1] at e1; cases e1
        exact fin e3 e4 e5 e6 o1
      | _ => exact o1.elim
  | _ => exact o1.elim
/-- self.f = e: a further attribute, or another value -/
def putAt (ds : List D) (k : Nat) (d : D) : Option (List D) := if k < ds.length then some (ds.set k d) else if k = ds.length then some (ds ++ [d]) else none
def sFld (ix : Nat → Option Nat) (fo fv : FnE) : FnS := fun δ h => (fv δ h).toS δ fun y h1 => (fo δ h1).toS δ fun x h2 => match x with
  | .ref n => match h2[n]? with
    | some (.obj c ds) => match ix c with
      | some k => match putAt ds k y with
        | some ds' => .nx δ (h2.set n (.obj c ds'))
        | none => .stk
      | none => .stk
    | _ => .stk
  | _ => .stk
theorem putF_new {f : Str} {v : V} : ∀ {fs : List (Str × V)}, f ∉ fs.map (·.1) → putF f v fs = fs ++ [(f, v)]
  | [], _ => rfl
  | (g, y) :: r, h => by
    have h' : ¬ f = g ∧ f ∉ r.map (·.1) := by simpa using h
    show (if g = f then _ else _) = _
    rw [if_neg (fun e => h'.1 e.symm), putF_new h'.2]
    rfl
theorem putF_at {f : Str} {v : V} : ∀ {fs : List (Str × V)} {k : Nat}, (fs.map (·.1)).Nodup → (fs.map (·.1))[k]? = some f → (putF f v fs).map (·.1) = fs.map (·.1) ∧ (putF f v fs).map (·.2) = (fs.map (·.2)).set k v
  | [], _, _, e => by simp at e
  | (g, y) :: r, 0, _, e => by
    simp at e
    subst e
    show (List.map _ (if g = g then _ else _)) = _ ∧ (List.map _ (if g = g then _ else _)) = _
    rw [if_pos rfl]
    simp
  | (g, y) :: r, k + 1, n, e => by
    have n' : g ∉ r.map (·.1) ∧ (r.map (·.1)).Nodup := by simpa using n
    have e' : (r.map (·.1))[k]? = some f := by simpa using e
    have ne : ¬ g = f := fun z => n'.1 (z ▸ List.mem_of_getElem? e')
    obtain ⟨a, b⟩ := putF_at (v := v) n'.2 e'
    show (List.map _ (if g = f then _ else _)) = _ ∧ (List.map _ (if g = f then _ else _)) = _
    rw [if_neg ne]
    simp [a, b]
theorem fs_fld {o value : Expr} {f : Str} {ix : Nat → Option Nat} {fo fv : FnE} {pos' : Pos} (a : AttrOk X T f ix) (ho : FE X T W o fo) (hv : FE X T W value fv) (hs : swapsWith value (some (.Attribute o f pos')) pos.line X.env = pure false := by rfl) :
    FS X T W (.Assign [.Attribute o f pos'] value pos) (sFld ix fo fv) := by
  refine PS.imp (ps_fld ho hv hs) fun D σ H => ?_
  rintro ⟨G, h0, δ, r, s, oo⟩
  refine ⟨G, h0, δ, r, s, (okS.toS (rel := RD X.K T) s oo).mono ?_⟩
  rintro v H1 ⟨G1, y, h1, e1, r1, d1, o1⟩
  refine ⟨G1, h1, δ, r1, s.mono e1, (okS.toS (rel := RD X.K T) (s.mono e1) o1).mono ?_⟩
  rintro w H2 ⟨G2, x, h2, e2, r2, d2, o2⟩
  have d1' := d1.mono e2
  cases d2 with
  | @ref n a' q1 =>
    dsimp only at o2
    cases q : h2[n]? with
    | none => rw [q] at o2; exact o2.elim
    | some ob =>
      rw [q] at o2
      cases ob with
      | obj c ds =>
        dsimp only at o2
        obtain ⟨a2, C, dx, nm, fs, z1, z2, z3, z4, z5, z6⟩ := r2.obj n _ q
        rw [q1] at z1; cases z1
        cases ei : ix c with
        | none => rw [ei] at o2; exact o2.elim
        | some k =>
          rw [ei] at o2
          dsimp only at o2
          cases ep : putAt ds k y with
          | none => rw [ep] at o2; exact o2.elim
          | some ds' =>
            rw [ep] at o2
            dsimp only at o2
            obtain ⟨C', nm', c1, c2, c3, c4, c5, c6⟩ := a c k ei
            rw [z4] at c1; cases c1
            have nd : (fs.map (·.1)).Nodup := by rw [z5]; exact c3.sublist (List.take_sublist _ _)
            have lf : fs.length = ds.length := by have := z6.length; simpa using this.symm
            have lle : ds.length ≤ nm.length := by
              have := congrArg List.length z5
              rw [List.length_map, List.length_take] at this
              omega
            have hn : n < h2.length := (List.getElem?_eq_some_iff.mp q).1
            refine ⟨a', C, dx, fs, rfl, z3, c5, c6, by omega, ?_⟩
            have key : (putF f v fs).map (·.1) = nm.take ds'.length ∧ RDs X.K T G2 ds' ((putF f v fs).map (·.2)) := by
              unfold putAt at ep
              by_cases hk : k < ds.length
              · rw [if_pos hk] at ep; cases ep
                obtain ⟨p1, p2⟩ := putF_at (v := v) (k := k) nd (by rw [z5, List.getElem?_take_of_lt hk]; exact c2)
                rw [p1, p2, z5]
                exact ⟨by rw [List.length_set], z6.set d1' k⟩
              · rw [if_neg hk] at ep
                by_cases hk2 : k = ds.length
                · rw [if_pos hk2] at ep; cases ep
                  subst hk2
                  have nf : f ∉ fs.map (·.1) := fun m => by
                    rw [z5] at m
                    obtain ⟨j, hj⟩ := List.mem_iff_getElem?.mp m
                    have hjl : j < ds.length := by
                      have := (List.getElem?_eq_some_iff.mp hj).1
                      rw [List.length_take] at this; omega
                    rw [List.getElem?_take_of_lt hjl] at hj
                    have := nodup_ix c3 hj c2
                    omega
                  rw [putF_new nf, List.map_append, List.map_append, z5]
                  refine ⟨?_, z6.append (.cons d1' .nil)⟩
                  rw [List.length_append, List.length_singleton, List.take_add_one, c2]
                  rfl
                · rw [if_neg hk2] at ep; cases ep
            refine o2 G2 _ σ (Ext.refl G2) (r2.put hn z2 ?_) (s.mono (e1.trans e2))
            exact ⟨a', C, dx, nm, _, q1, z2, upd_same, z4, key.1, key.2⟩
      | _ => exact o2.elim
  | _ => exact o2.elim
end
end L3
set_option autoImplicit false
set_option maxHeartbeats 4000000
/-! L3E: targets, loops, comprehensions, defs and calls. -/
namespace L3
open PySem PySem.Spec L2
section
variable {X : Cx} {T : Tx} {W : WX} {pos : Pos}
/-! ### targets -/
abbrev FnG := D → De → Option De
abbrev FnGs := List D → De → Option De
/-- σ' is σ but for the slots at is -/
def SameOut (is : List Nat) (σ σ' : L2.St) : Prop := σ'.length = σ.length ∧ ∀ i, i ∉ is → σ'[i]? = σ[i]?
theorem SameOut.refl (is : List Nat) (σ : L2.St) : SameOut is σ σ := ⟨rfl, fun _ _ => rfl⟩
theorem SameOut.trans {is js : List Nat} {σ σ1 σ2 : L2.St} (a : SameOut is σ σ1) (b : SameOut js σ1 σ2) : SameOut (is ++ js) σ σ2 :=
  ⟨b.1.trans a.1, fun i h => by
    have h' : i ∉ is ∧ i ∉ js := by simpa using h
    exact (b.2 i h'.2).trans (a.2 i h'.1)⟩
theorem SameOut.set (σ : L2.St) (i : Nat) (x : Option V) : SameOut [i] σ (σ.set i x) := ⟨by simp, fun j h => by
  have h' : j ≠ i := by simpa using h
  exact List.getElem?_set_ne (Ne.symm h')⟩
def tG (K : PySem.W.Frag) (T : Tx) (is : List Nat) (g : FnG) : TG := fun v σ H Q => ∃ G h δ d δ', Rel K T G h H ∧ RSl K T G δ σ ∧ RD K T G d v ∧ g d δ = some δ' ∧ ∀ σ', RSl K T G δ' σ' → SameOut is σ σ' → Q σ' H
def tGs (K : PySem.W.Frag) (T : Tx) (is : List Nat) (g : FnGs) : TGs := fun vs σ H Q => ∃ G h δ ds δ', Rel K T G h H ∧ RSl K T G δ σ ∧ RDs K T G ds vs ∧ g ds δ = some δ' ∧ ∀ σ', RSl K T G δ' σ' → SameOut is σ σ' → Q σ' H
abbrev FG (X : Cx) (T : Tx) (e : Expr) (is : List Nat) (g : FnG) : Prop := PG X e (tG X.K T is g)
abbrev FGs (X : Cx) (T : Tx) (es : List Expr) (is : List Nat) (g : FnGs) : Prop := PGs X es (tGs X.K T is g)
theorem PG.imp {e : Expr} {t t' : TG} (h : PG X e t) (q : ∀ v σ H Q, t' v σ H Q → t v σ H Q) : PG X e t' := ⟨fun pins s σ H v u Q I r z => h.run pins s σ H v u Q I r (q _ _ _ _ z)⟩
theorem PGs.imp {e : List Expr} {t t' : TGs} (h : PGs X e t) (q : ∀ v σ H Q, t' v σ H Q → t v σ H Q) : PGs X e t' := ⟨fun pins s σ H v u Q I r z => h.run pins s σ H v u Q I r (q _ _ _ _ z)⟩
theorem PG.or {e : Expr} {t t' : TG} (h : PG X e t) (h' : PG X e t') : PG X e (fun v σ H Q => t v σ H Q ∨ t' v σ H Q) := ⟨fun pins s σ H v u Q I r z => z.elim (h.run pins s σ H v u Q I r) (h'.run pins s σ H v u Q I r)⟩
def gSet (i : Nat) : FnG := fun d δ => some (δ.set i (some d))
theorem fg_name (i : Nat) {x : Str} (hN : X.N.Nodup) (hi : X.N[i]? = some x) (hx : Loc X.env.scope x) (hf : X.fn x = true ∨ X.env.scope.names.lookup x = some .local := by first | exact .inl rfl | exact .inr rfl | assumption) : FG X T (.Name x pos) [i] (gSet i) := by
  refine PG.imp (pg_name hN hi hx hf) fun v σ H Q => ?_
  rintro ⟨G, h, δ, d, δ', r, s, rd, e, k⟩
  cases e
  exact k _ (s.set rd i) (SameOut.set σ i _)
def gsNil : FnGs := fun ds δ => match ds with
  | [] => some δ
  | _ => none
def gsCons (g : FnG) (gs : FnGs) : FnGs := fun ds δ => match ds with
  | d :: r => match g d δ with
    | some δ' => gs r δ'
    | none => none
  | [] => none
theorem fgs_nil : FGs X T [] [] gsNil := by
  refine PGs.imp pgs_nil fun v σ H Q => ?_
  rintro ⟨G, h, δ, ds, δ', r, s, rd, e, k⟩
  cases rd with
  | nil => cases e; exact ⟨rfl, k _ s (SameOut.refl _ _)⟩
  | cons _ _ => cases e
theorem fgs_cons {e : Expr} {es : List Expr} {is js : List Nat} {g : FnG} {gs : FnGs} (h1 : FG X T e is g) (h2 : FGs X T es js gs) (hs : (assignEach (e :: es) X.env).map (·.2) = assign e X.env :: (assignEach es X.env).map (·.2) := by rfl) : FGs X T (e :: es) (is ++ js) (gsCons g gs) := by
  refine PGs.imp (pgs_cons h1 h2 hs) fun v σ H Q => ?_
  rintro ⟨G, h, δ, ds, δ', r, s, rd, e, k⟩
  cases rd with
  | nil => cases e
  | @cons d v ds vs q1 q2 =>
    unfold gsCons at e
    dsimp only at e
    cases eg : g d δ with
    | none => rw [eg] at e; cases e
    | some δ1 =>
      rw [eg] at e
      exact ⟨v, vs, rfl, G, h, δ, d, δ1, r, s, q1, eg, fun σ1 s1 o1 => ⟨G, h, δ1, ds, δ', r, s1, q2, e, fun σ2 s2 o2 => k σ2 s2 (o1.trans o2)⟩⟩
def gTupD (n : Nat) (gs : FnGs) : FnG := fun d δ => match d with
  | .tup ds => if ds.length = n then gs ds δ else none
  | .lst ds => if ds.length = n then gs ds δ else none
  | _ => none
theorem fg_tup {es : List Expr} {k : Nat} {is : List Nat} {gs : FnGs} {n : Nat} (hc : X.calm = true) (h : FGs X T es is gs) (hn : (assignEach es X.env).length = n := by rfl) (hst : (assignEach es X.env).findIdx? (·.1) = none := by rfl) : FG X T (.Tuple es k pos) is (gTupD n gs) := by
  refine PG.imp (PG.or (pg_tup hc h hn hst) (pg_lst hc h hn hst)) fun v σ H Q => ?_
  rintro ⟨G, h, δ, d, δ', r, s, rd, e, k⟩
  cases rd with
  | @tup ds a vs q1 q2 =>
    unfold gTupD at e
    dsimp only at e
    by_cases hl : ds.length = n
    · rw [if_pos hl] at e
      exact .inl ⟨a, vs, rfl, SqT.sub r.sub q1, q2.length.symm.trans hl, G, h, δ, ds, δ', r, s, q2, e, k⟩
    · rw [if_neg hl] at e; cases e
  | @lst ds a vs q1 q2 =>
    unfold gTupD at e
    dsimp only at e
    by_cases hl : ds.length = n
    · rw [if_pos hl] at e
      exact .inr ⟨a, vs, rfl, .inl (.inl (r.sub _ _ q1)), q2.length.symm.trans hl, G, h, δ, ds, δ', r, s, q2, e, k⟩
    · rw [if_neg hl] at e; cases e
  | _ => cases e
/-- target = e -/
def sAsg (g : FnG) (f : FnE) : FnS := fun δ h => (f δ h).toS δ fun x h1 => match g x δ with
  | some δ' => .nx δ' h1
  | none => .stk
theorem fs_asg {tg e : Expr} {f : FnE} {is : List Nat} {g : FnG} (hg : FG X T tg is g) (he : FE X T W e f) (hs : swapsWithSole [tg] e pos.line X.env = pure false := by rfl) (hw : swappedStores [tg] e X.env = pure none := by rfl)
    (h1 : (assignEach [tg] X.env).map (·.2) = [assign tg X.env] := by rfl) : FS X T W (.Assign [tg] e pos) (sAsg g f) := by
  refine PS.imp (ps_asg he hg hs hw h1) fun D σ H h => ?_
  refine tS.bind (k := fun δ x h1 => match g x δ with | some δ' => .nx δ' h1 | none => .stk) h fun G δ x w h1 H1 r1 s1 d1 o1 => ?_
  cases eg : g x δ with
  | none => rw [eg] at o1; exact o1.elim
  | some δ' =>
    rw [eg] at o1
    exact ⟨G, h1, δ, x, δ', r1, s1, d1, eg, fun σ' s' _ => o1 G H1 σ' (Ext.refl G) r1 s'⟩
/-- a, b = x, y (both sides written) -/
def setAll (ix : List Nat) (ds : List D) (δ : De) : De := match ix, ds with
  | i :: ix, d :: ds => setAll ix ds (δ.set i (some d))
  | _, _ => δ
def kPar (ix : List Nat) (δ : De) (ds : List D) (h1 : Hh) : RS := if ds.length = ix.length then .nx (setAll ix ds δ) h1 else .stk
def sPar (ix : List Nat) (fa : FnA) : FnS := fun δ h => (fa δ h).toS δ (kPar ix δ)
theorem fs_par {i j : Nat} {x y : Str} {a b : Expr} {fa : FnA} {px py pt : Pos} {kt k2 pt2} (hc : X.calm = true) (hN : X.N.Nodup) (hi : X.N[i]? = some x) (hj : X.N[j]? = some y) (hij : i ≠ j)
    (hx : X.env.scope.names.lookup x = some .local) (hy : X.env.scope.names.lookup y = some .local) (ha : FA X T W [a, b] fa)
    (hw : swappedStores [.Tuple [.Name x px, .Name y py] kt pt] (.Tuple [a, b] k2 pt2) X.env = pure (some [x, y]))
    (hs : swapsWithSole [.Tuple [.Name x px, .Name y py] kt pt] (.Tuple [a, b] k2 pt2) pos.line X.env = pure false := by rfl) :
    FS X T W (.Assign [.Tuple [.Name x px, .Name y py] kt pt] (.Tuple [a, b] k2 pt2) pos) (sPar [i, j] fa) := by
  refine PS.imp (ps_par hc hN hi hj hij hx hy ha hw hs) fun D σ H h => ?_
  refine tS.bind (k := kPar [i, j]) h fun G δ ds vs h1 H1 r1 s1 d1 o1 => ?_
  unfold kPar at o1
  by_cases hl : ds.length = [i, j].length
  · rw [if_pos hl] at o1
    match ds, vs, d1, hl, o1 with
    | [d, e], [v, w], .cons q1 (.cons q2 .nil), _, o1 => exact ⟨v, w, rfl, o1 G H1 _ (Ext.refl G) r1 ((s1.set q1 i).set q2 j)⟩
  · rw [if_neg hl] at o1; exact o1.elim
theorem fs_par3 {i j l : Nat} {x y z : Str} {a b c : Expr} {fa : FnA} {px py pz pt : Pos} {kt k2 pt2} (hc : X.calm = true) (hN : X.N.Nodup) (hi : X.N[i]? = some x) (hj : X.N[j]? = some y) (hl : X.N[l]? = some z) (hij : i ≠ j) (hil : i ≠ l) (hjl : j ≠ l)
    (hx : X.env.scope.names.lookup x = some .local) (hy : X.env.scope.names.lookup y = some .local) (hz : X.env.scope.names.lookup z = some .local) (ha : FA X T W [a, b, c] fa)
    (hw : swappedStores [.Tuple [.Name x px, .Name y py, .Name z pz] kt pt] (.Tuple [a, b, c] k2 pt2) X.env = pure (some [x, y, z]))
    (hs : swapsWithSole [.Tuple [.Name x px, .Name y py, .Name z pz] kt pt] (.Tuple [a, b, c] k2 pt2) pos.line X.env = pure false := by rfl) :
    FS X T W (.Assign [.Tuple [.Name x px, .Name y py, .Name z pz] kt pt] (.Tuple [a, b, c] k2 pt2) pos) (sPar [i, j, l] fa) := by
  refine PS.imp (ps_par3 hc hN hi hj hl hij hil hjl hx hy hz ha hw hs) fun D σ H h => ?_
  refine tS.bind (k := kPar [i, j, l]) h fun G δ ds vs h1 H1 r1 s1 d1 o1 => ?_
  unfold kPar at o1
  by_cases hl : ds.length = [i, j, l].length
  · rw [if_pos hl] at o1
    match ds, vs, d1, hl, o1 with
    | [d, e, f], [u, v, w], .cons q1 (.cons q2 (.cons q3 .nil)), _, o1 => exact ⟨u, v, w, rfl, o1 G H1 _ (Ext.refl G) r1 (((s1.set q1 i).set q2 j).set q3 l)⟩
  · rw [if_neg hl] at o1; exact o1.elim
/-! ### what is walked -/
/-- at each later state: the items in order -/
def Walk3 (K : PySem.W.Frag) (T : Tx) (J : It) (G : Gst) (items : List D) : Prop := ∀ (i : Nat) G2 h2 H2, Ext0 G G2 → Rel K T G2 h2 H2 →
  (∀ d, items[i]? = some d → J.go i H2 ∧ ∀ x H3, J.yld i H2 x H3 → ∃ G3, Ext G2 G3 ∧ Rel K T G3 h2 H3 ∧ RD K T G3 d x) ∧ (i = items.length → J.stop i H2)
abbrev FnI := De → Hh → R (List D)
def tI (K : PySem.W.Frag) (T : Tx) (W : WX) (f : FnI) : TI := fun σ H Q => ∃ G h δ, Rel K T G h H ∧ RSl K T G δ σ ∧ okR K T W G σ (fun G ds J => Walk3 K T J G ds) (f δ h) Q
abbrev FI (X : Cx) (T : Tx) (W : WX) (tg e : Expr) (f : FnI) : Prop := PI X tg e (tI X.K T W f)
theorem PI.imp {tg e : Expr} {t t' : TI} (h : PI X tg e t) (q : ∀ σ H Q, t' σ H Q → t σ H Q) : PI X tg e t' := ⟨fun pins s σ H Q I z => h.run pins s σ H Q I (q _ _ _ z)⟩
theorem PI.or {tg e : Expr} {t t' : TI} (h : PI X tg e t) (h' : PI X tg e t') : PI X tg e (fun σ H Q => t σ H Q ∨ t' σ H Q) := ⟨fun pins s σ H Q I z => z.elim (h.run pins s σ H Q I) (h'.run pins s σ H Q I)⟩
/-- a value that is walked -/
def iSeq (f : FnE) : FnI := fun δ h => (f δ h).bind fun x h1 => match x with
  | .tup ds => .ok ds h1
  | .lst ds => .ok ds h1
  | .scr ds => .ok ds h1
  | _ => .stk
theorem walk_tup {K : PySem.W.Frag} {G : Gst} {a : Addr} {ds : List D} {vs : List V} (q1 : SqT K G.fz a vs) (q2 : RDs K T G ds vs) : Walk3 K T (Itt K a) G ds := fun i G2 h2 H2 x r => by
  have z : SqT K H2 a vs := SqT.sub r.sub (SqT.sub x.fz q1)
  refine ⟨fun d e => ?_, fun hl => ⟨vs, z, by rw [← q2.length]; omega⟩⟩
  obtain ⟨v, ev, dv⟩ := q2.get e
  exact ⟨⟨vs, v, z, ev⟩, fun y H3 ⟨e1, e2⟩ => by
    subst e1
    have := e2 vs z
    rw [ev] at this; cases this
    exact ⟨G2, Ext.refl G2, r, dv.mono0 x⟩⟩
theorem walk_lst {K : PySem.W.Frag} {G : Gst} {a : Addr} {ds : List D} {vs : List V} (q1 : SqL K G.fz a vs) (q2 : RDs K T G ds vs) : Walk3 K T (Itl K a) G ds := fun i G2 h2 H2 x r => by
  have z : SqL K H2 a vs := SqL.sub r.sub (SqL.sub x.fz q1)
  refine ⟨fun d e => ?_, fun hl => ⟨vs, z, by rw [← q2.length]; omega⟩⟩
  obtain ⟨v, ev, dv⟩ := q2.get e
  exact ⟨⟨vs, v, z, ev⟩, fun y H3 ⟨e1, e2⟩ => by
    subst e1
    have := e2 vs z
    rw [ev] at this; cases this
    exact ⟨G2, Ext.refl G2, r, dv.mono0 x⟩⟩
theorem fi_seq {tg e : Expr} {f : FnE} (he : FE X T W e f) : FI X T W tg e (iSeq f) := by
  refine PI.imp (PI.or (pi_tup he) (pi_list he)) fun σ H Q => ?_
  rintro ⟨G, h0, δ, r, s, o⟩
  cases ef : f δ h0 with
  | stk => unfold iSeq at o; rw [ef] at o; exact o.elim
  | exc c ds h' =>
    unfold iSeq at o; rw [ef] at o
    refine .inl ⟨G, h0, δ, r, s, ?_⟩
    rw [ef]; exact o
  | ok x h' =>
    unfold iSeq at o
    rw [ef] at o
    cases x with
    | tup ds =>
      refine .inl ⟨G, h0, δ, r, s, ?_⟩
      rw [ef]
      intro G' H' v x r' d
      cases d with
      | @tup _ a vs q1 q2 => exact ⟨a, rfl, ⟨vs, SqT.sub r'.sub q1⟩, o G' H' _ x r' (walk_tup q1 q2)⟩
    | lst ds =>
      refine .inr ⟨G, h0, δ, r, s, ?_⟩
      rw [ef]
      intro G' H' v x r' d
      cases d with
      | @lst _ a vs q1 q2 => exact ⟨a, rfl, ⟨vs, .inl (.inl (r'.sub _ _ q1))⟩, o G' H' _ x r' (walk_lst (.inl (.inl q1)) q2)⟩
    | scr ds =>
      refine .inr ⟨G, h0, δ, r, s, ?_⟩
      rw [ef]
      intro G' H' v x r' d
      cases d with
      | @scr _ a vs q1 q2 => exact ⟨a, rfl, ⟨vs, SqL.sub r'.sub q1⟩, o G' H' _ x r' (walk_lst q1 q2)⟩
    | _ => exact o.elim
/-- lo, lo + 1, .. below hi -/
def rgD (lo : Int) (n : Nat) : List D := (List.range n).map fun (i : Nat) => D.int (lo + i)
theorem walk_rng {K : PySem.W.Frag} {G : Gst} {lo : Int} {n : Nat} : Walk3 K T (Itr lo n) G (rgD lo n) := fun i G2 h2 H2 x r => by
  refine ⟨fun d e => ?_, fun hl => by
    have hl' : i = n := by simpa [rgD] using hl
    exact Nat.le_of_eq hl'.symm⟩
  unfold rgD at e
  rw [List.getElem?_map] at e
  obtain ⟨j, ej, rfl⟩ := Option.map_eq_some_iff.mp e
  obtain ⟨hj, e2⟩ := List.getElem?_eq_some_iff.mp ej
  simp at e2 hj
  subst e2
  exact ⟨hj, fun y H3 ⟨e1, e3⟩ => by subst e1; subst e3; exact ⟨G2, Ext.refl G2, r, .int⟩⟩
def iRg1 (f : FnE) : FnI := fun δ h => (f δ h).bind fun x h1 => match x with
  | .int j => if -(2 ^ 62) ≤ j ∧ j < 2 ^ 62 then .ok (rgD 0 j.toNat) h1 else .stk
  | _ => .stk
def kRg2 (x y : D) (h2 : Hh) : R (List D) := match x, y with
  | .int i, .int j => if -(2 ^ 62) ≤ i ∧ i < 2 ^ 62 ∧ -(2 ^ 62) ≤ j ∧ j < 2 ^ 62 then .ok (rgD i (j - i).toNat) h2 else .stk
  | _, _ => .stk
def iRg2 (f g : FnE) : FnI := fun δ h => (f δ h).bind fun x h1 => (g δ h1).bind fun y h2 => kRg2 x y h2
theorem fi_range1 {tg a : Expr} {f : FnE} {p : Pos} (hg : Gl X "range") (hm : X.mg "range" = none) (ha : FE X T W a f) (hs : starEach [a] X.env = [(false, eval a X.env)] := by rfl) : FI X T W tg (.Call (.Name "range" p) [a] [] pos) (iRg1 f) := by
  refine PI.imp (pi_range1 hg hm (fa_cons ha fa_nil hs) hs) fun σ H Q => ?_
  rintro ⟨G, h0, δ, r, s, o⟩
  refine ⟨G, h0, δ, r, s, ?_⟩
  show okR X.K T W G σ (RDs X.K T) ((f δ h0).bind fun x h1 => R.ok [x] h1) _
  unfold iRg1 at o
  cases ef : f δ h0 with
  | stk => rw [ef] at o; exact o.elim
  | exc c ds h' => rw [ef] at o; exact o
  | ok x h' =>
    rw [ef] at o
    intro G' H' vs e r' d
    match vs, d with
    | [v], .cons q .nil =>
      cases q with
      | @int j =>
        have o' : okR X.K T W G σ (fun G ds J => Walk3 X.K T J G ds) (if -(2 ^ 62) ≤ j ∧ j < 2 ^ 62 then R.ok (rgD 0 j.toNat) h' else .stk) Q := o
        by_cases hl : -(2 ^ 62) ≤ j ∧ j < 2 ^ 62
        · rw [if_pos hl] at o'
          exact ⟨j, rfl, hl.1, hl.2, o' G' H' _ e r' walk_rng⟩
        · rw [if_neg hl] at o'; exact o'.elim
      | _ => exact o.elim
theorem fi_range2 {tg a b : Expr} {f g : FnE} {p : Pos} (hg : Gl X "range") (hm : X.mg "range" = none) (ha : FE X T W a f) (hb : FE X T W b g) (hs : starEach [a, b] X.env = [(false, eval a X.env), (false, eval b X.env)] := by rfl) (hs2 : starEach [b] X.env = [(false, eval b X.env)] := by rfl) : FI X T W tg (.Call (.Name "range" p) [a, b] [] pos) (iRg2 f g) := by
  refine PI.imp (pi_range2 hg hm (fa_cons ha (fa_cons hb fa_nil hs2) (by rw [hs, hs2])) hs hs2) fun σ H Q => ?_
  rintro ⟨G, h0, δ, r, s, o⟩
  refine ⟨G, h0, δ, r, s, ?_⟩
  show okR X.K T W G σ (RDs X.K T) ((f δ h0).bind fun x h1 => ((g δ h1).bind fun y h2 => R.ok [y] h2).bind fun xs h2 => R.ok (x :: xs) h2) _
  unfold iRg2 at o
  cases ef : f δ h0 with
  | stk => rw [ef] at o; exact o.elim
  | exc c ds h' => rw [ef] at o; exact o
  | ok x h' =>
    rw [ef] at o
    have o1 : okR X.K T W G σ (fun G ds J => Walk3 X.K T J G ds) ((g δ h').bind fun y h2 => kRg2 x y h2) Q := o
    show okR X.K T W G σ (RDs X.K T) (((g δ h').bind fun y h2 => R.ok [y] h2).bind fun xs h2 => R.ok (x :: xs) h2) _
    cases eg : g δ h' with
    | stk => rw [eg] at o1; exact o1.elim
    | exc c ds h'' => rw [eg] at o1; exact o1
    | ok y h'' =>
      rw [eg] at o1
      intro G' H' vs e r' d
      match vs, d with
      | [v, w], .cons q (.cons q' .nil) =>
        cases q with
        | @int i => cases q' with
          | @int j =>
            have o' : okR X.K T W G σ (fun G ds J => Walk3 X.K T J G ds) (if -(2 ^ 62) ≤ i ∧ i < 2 ^ 62 ∧ -(2 ^ 62) ≤ j ∧ j < 2 ^ 62 then R.ok (rgD i (j - i).toNat) h'' else .stk) Q := o1
            by_cases hl : -(2 ^ 62) ≤ i ∧ i < 2 ^ 62 ∧ -(2 ^ 62) ≤ j ∧ j < 2 ^ 62
            · rw [if_pos hl] at o'
              exact ⟨i, j, rfl, hl, o' G' H' _ e r' walk_rng⟩
            · rw [if_neg hl] at o'; exact o'.elim
          | _ => exact o1.elim
        | _ => exact o1.elim
/-! ### for -/
def loop3 (g : FnG) (u : FnS) : List D → De → Hh → RS
  | [], δ, h => .nx δ h
  | d :: ds, δ, h => match g d δ with
    | none => .stk
    | some δ1 => match u δ1 h with
      | .nx δ2 h2 => loop3 g u ds δ2 h2
      | .ct δ2 h2 => loop3 g u ds δ2 h2
      | .bk δ2 h2 => .nx δ2 h2
      | r => r
def sFor (f : FnI) (g : FnG) (u : FnS) : FnS := fun δ h => (f δ h).toS δ fun items h1 => loop3 g u items δ h1
theorem fs_for {tg iter : Expr} {body : List Stmt} {f : FnI} {is : List Nat} {g : FnG} {u : FnS} (hp : PassesOwn (model X.prog X.w) X.A X.env X.xe) (hc : X.calm = true) (hi : FI X T W tg iter f) (hg : FG X T tg is g) (hb : FSs X T W body u)
    (hs : ∀ x, foldedSetIterable iter X.env x = pure x := by intro _; rfl) : FS X T W (.For tg iter body [] pos) (sFor f g u) := by
  refine PS.imp (ps_for hp hc hi hg hb hs) fun D σ H => ?_
  rintro ⟨G, h0, δ, r, s, o⟩
  refine ⟨G, h0, δ, r, s, (okS.toS (rel := fun G ds J => Walk3 X.K T J G ds) s o).mono ?_⟩
  rintro J H1 ⟨G1, items, h1, e1, r1, w, o1⟩
  refine ⟨fun i m σ' H' => i ≤ items.length ∧ m = items.length - i ∧ ∃ G2 h2 δ2, Ext G1 G2 ∧ Rel X.K T G2 h2 H' ∧ RSl X.K T G2 δ2 σ' ∧ okS X.K T W G2 (loop3 g u (items.drop i) δ2 h2) D,
    ⟨_, Nat.zero_le _, rfl, G1, h1, δ, Ext.refl G1, r1, s.mono e1, o1⟩, ?_⟩
  rintro i m σ' H' ⟨hi', rfl, G2, h2, δ2, e2, r2, s2, o2⟩
  by_cases hlt : i < items.length
  · refine .inr ?_
    have ed : items[i]? = some items[i] := by simp [hlt]
    obtain ⟨go, yl⟩ := (w i G2 h2 H' e2.e0 r2).1 _ ed
    rw [List.drop_eq_getElem_cons hlt] at o2
    unfold loop3 at o2
    refine ⟨go, fun σ3 H3 => ∃ m', m' < items.length - i ∧ i + 1 ≤ items.length ∧ m' = items.length - (i + 1) ∧ ∃ G2 h2 δ2, Ext G1 G2 ∧ Rel X.K T G2 h2 H3 ∧ RSl X.K T G2 δ2 σ3 ∧ okS X.K T W G2 (loop3 g u (items.drop (i + 1)) δ2 h2) D,
      fun σ3 H3 ⟨m', a, b, c, d⟩ => ⟨m', a, b, c, d⟩, fun x H3 y => ?_⟩
    obtain ⟨G3, e3, r3, d3⟩ := yl x H3 y
    cases eg : g items[i] δ2 with
    | none => rw [eg] at o2; exact o2.elim
    | some δ3 =>
      rw [eg] at o2
      dsimp only at o2
      refine ⟨G3, h2, δ2, items[i], δ3, r3, s2.mono e3, d3, eg, fun σ4 s4 _ => ⟨G3, h2, δ3, r3, s4, ?_⟩⟩
      have again : ∀ {δ5 : De} {h5 : Hh}, okS X.K T W G2 (loop3 g u (items.drop (i + 1)) δ5 h5) D → ∀ G' H' σ', Ext G3 G' → Rel X.K T G' h5 H' → RSl X.K T G' δ5 σ' →
          ∃ m', m' < items.length - i ∧ i + 1 ≤ items.length ∧ m' = items.length - (i + 1) ∧ ∃ G2 h2 δ2, Ext G1 G2 ∧ Rel X.K T G2 h2 H' ∧ RSl X.K T G2 δ2 σ' ∧ okS X.K T W G2 (loop3 g u (items.drop (i + 1)) δ2 h2) D :=
        fun {δ5 h5} o5 G' H' σ' e r' s' => ⟨_, by omega, hlt, rfl, G', h5, δ5, e2.trans (e3.trans e), r', s', okS.ext (e3.trans e) o5⟩
      cases eu : u δ3 h2 with
      | nx δ5 h5 => rw [eu] at o2; exact again o2
      | ct δ5 h5 => rw [eu] at o2; exact again o2
      | bk δ5 h5 => rw [eu] at o2; exact okS.ext e3 o2
      | rt d h5 => rw [eu] at o2; exact okS.ext e3 o2
      | exc c ds δ5 h5 => rw [eu] at o2; exact okS.ext e3 o2
      | stk => rw [eu] at o2; exact o2
  · refine .inl ⟨(w i G2 h2 H' e2.e0 r2).2 (by omega), ?_⟩
    rw [List.drop_eq_nil_of_le (by omega)] at o2
    exact o2 G2 H' σ' (Ext.refl G2) r2 s2
end
end L3
set_option autoImplicit false
set_option maxHeartbeats 4000000
/-! L3F: comprehensions, defs and calls. -/
namespace L3
open PySem PySem.Spec L2
open PyProof.Rows (envOfC)
section
variable {X : Cx} {T : Tx} {W : WX} {pos : Pos}
/-! ### comprehensions -/
abbrev W0 : WX := fun _ _ _ _ => False
def wipeD (δ : De) : List Nat → De
  | [] => δ
  | v :: vs => (wipeD δ vs).set v none
theorem RSl.wipe {K : PySem.W.Frag} {G : Gst} {δ : De} {σ : L2.St} (r : RSl K T G δ σ) : ∀ vs : List Nat, RSl K T G (wipeD δ vs) (L2.wipe σ vs)
  | [] => r
  | v :: vs => (RSl.wipe r vs).unset v none
theorem wipe_get {σ : L2.St} : ∀ {vs : List Nat} {i : Nat}, i ∉ vs → (L2.wipe σ vs)[i]? = σ[i]?
  | [], _, _ => rfl
  | v :: vs, i, h => by
    have h' : i ≠ v ∧ i ∉ vs := by simpa using h
    unfold L2.wipe
    rw [List.getElem?_set_ne (Ne.symm h'.1)]
    exact wipe_get h'.2
theorem wipe_in {σ : L2.St} : ∀ {vs : List Nat} {i : Nat}, i ∈ vs → i < σ.length → (L2.wipe σ vs)[i]? = some none
  | v :: vs, i, h, hl => by
    unfold L2.wipe
    by_cases e : i = v
    · subst e
      exact List.getElem?_set_self (by rw [wipe_length]; exact hl)
    · rw [List.getElem?_set_ne (Ne.symm e)]
      exact wipe_in (by simpa [e] using h) hl
theorem wipe_same {σ σ' : L2.St} {vs is : List Nat} (o : SameOut is (L2.wipe σ vs) σ') (hs : ∀ i ∈ is, i ∈ vs) : L2.wipe σ' vs = L2.wipe σ vs := by
  have hl : σ'.length = σ.length := by rw [o.1, wipe_length]
  refine List.ext_getElem? fun i => ?_
  by_cases hi : i ∈ vs
  · by_cases h : i < σ.length
    · rw [wipe_in hi (by omega), wipe_in hi h]
    · rw [List.getElem?_eq_none (by rw [wipe_length]; omega), List.getElem?_eq_none (by rw [wipe_length]; omega)]
  · rw [wipe_get hi, o.2 i (fun m => hi (hs i m))]
def lcs (g : FnG) (t : FnT) (e : FnE) (δ : De) : List D → Hh → R (List D)
  | [], h => .ok [] h
  | d :: ds, h => match g d δ with
    | none => .stk
    | some δ1 => match t δ1 h with
      | .ok b h1 => if b = true then
          match e δ1 h1 with
          | .ok y h2 => (lcs g t e δ ds h2).bind fun ys h3 => .ok (y :: ys) h3
          | _ => .stk
        else lcs g t e δ ds h1
      | _ => .stk
def kLst (mu : Bool) (xs : List D) (h1 : Hh) : R D := if lineOk xs.length = true then (if mu = true then .ok (.ref h1.length) (h1 ++ [.lst xs]) else .ok (.lst xs) h1) else .stk
def eLc (mu : Bool) (f : FnI) (g : FnG) (t : FnT) (e : FnE) (vs : List Nat) : FnE := fun δ h => (f δ h).bind fun items h1 => (lcs g t e (wipeD δ vs) items h1).bind (kLst mu)
def tYes3 : FnT := fun _ h => .ok true h
abbrev FTs (X : Cx) (T : Tx) (W : WX) (ifs : List Expr) (t : FnT) : Prop := PTs X ifs (tT X.K T W t)
theorem fts_nil : FTs X T W [] tYes3 := ⟨fun pins s σ H Q I ⟨G, h0, δ, r, s', o⟩ => pts_nil.run pins s σ H Q I (o.at r rfl)⟩
theorem fts_one {c : Expr} {t : FnT} (h : FT X T W c t) : FTs X T W [c] t := pts_one h
/-- a list that is being made is protected -/
def Gst.guard (G : Gst) (p : Addr) (o : HO) : Gst := { G with pr := upd G.pr p o }
theorem Ext0.of {G G' : Gst} (e1 : G'.ι = G.ι) (e2 : ∀ a o, G.fz a = some o → G'.fz a = some o) : Ext0 G G' := ⟨⟨[], by simp [e1]⟩, e2⟩
theorem RO.ghost {K : PySem.W.Frag} {G : Gst} {H H' : Hp} {n : Nat} {o : O} (r : RO K T G H n o) (G' : Gst) (e1 : G'.ι = G.ι) (e2 : ∀ a o, G.fz a = some o → G'.fz a = some o) (e3 : G'.own = G.own) (hb : ∀ b, G.own b = some n → H' b = H b) : RO K T G' H' n o := by
  cases o with
  | lst ds => obtain ⟨a, vs, z1, z2, z3, z4⟩ := r; exact ⟨a, vs, by rw [e1]; exact z1, by rw [e3]; exact z2, by rw [hb _ z2]; exact z3, z4.mono0 (.of e1 e2)⟩
  | dic ks vs => obtain ⟨a, kvs, z1, z2, z3, z4, z5⟩ := r; exact ⟨a, kvs, by rw [e1]; exact z1, by rw [e3]; exact z2, by rw [hb _ z2]; exact z3, z4.mono0 (.of e1 e2), z5.mono0 (.of e1 e2)⟩
  | obj c ds => obtain ⟨a, C, dx, nm, fs, z1, z2, z3, z4, z5, z6⟩ := r; exact ⟨a, C, dx, nm, fs, by rw [e1]; exact z1, by rw [e3]; exact z2, by rw [hb _ z2]; exact z3, z4, z5, z6.mono0 (.of e1 e2)⟩
  | src s => obtain ⟨a, z1, z2⟩ := r; exact ⟨a, by rw [e1]; exact z1, by rw [e3]; exact T.srcStay _ _ _ _ _ z2 hb⟩
  | dead => trivial
theorem RSl.ghost {K : PySem.W.Frag} {G G' : Gst} {δ : De} {σ : L2.St} (e1 : G'.ι = G.ι) (e2 : ∀ a o, G.fz a = some o → G'.fz a = some o) (r : RSl K T G δ σ) : RSl K T G' δ σ :=
  ⟨r.len, fun i d e => let ⟨v, h1, h2⟩ := r.at_ i d e; ⟨v, h1, h2.mono0 (.of e1 e2)⟩⟩
theorem Rel.guard {K : PySem.W.Frag} {G : Gst} {h : Hh} {H : Hp} (r : Rel K T G h H) {p : Addr} {o : HO} (hp : H p = none) : Rel K T (G.guard p o) h (upd H p o) := by
  have nown : ∀ b n, G.own b = some n → b ≠ p := fun b n q z => (r.own b n q).2.2 (by rw [z]; exact hp)
  refine ⟨r.len, fun a u q => ?_, fun a n q => ?_, fun a u q => ?_, fun n u q => ?_⟩
  · have := r.sub a u q
    rw [upd_ne (ne_of_none this hp)]; exact this
  · obtain ⟨h1, h2, h3⟩ := r.own a n q
    exact ⟨h1, h2, by rw [upd_ne (nown a n q)]; exact h3⟩
  · have q' : upd G.pr p o a = some u := q
    by_cases ha : a = p
    · subst ha
      rw [upd_same] at q' ⊢
      refine ⟨q', r.fzNone hp, ?_⟩
      show G.own a = none
      cases e : G.own a with
      | none => rfl
      | some n => exact absurd rfl (nown a n e)
    · rw [upd_ne ha] at q' ⊢
      exact r.pr a u q'
  · exact (r.obj n u q).ghost (G.guard p o) rfl (fun _ _ e => e) rfl fun b e => upd_ne (nown b n e)
/-- the protected list grows -/
theorem Rel.reguard {K : PySem.W.Frag} {G : Gst} {h : Hh} {H : Hp} (r : Rel K T G h H) {p : Addr} {o u : HO} (hp : G.pr p = some o) : Rel K T { G with pr := upd G.pr p u } h (upd H p u) := by
  obtain ⟨h1, h2, h3⟩ := r.pr p o hp
  have nown : ∀ b n, G.own b = some n → b ≠ p := fun b n q z => by rw [z, h3] at q; cases q
  refine ⟨r.len, fun a v q => ?_, fun a n q => ?_, fun a v q => ?_, fun n v q => ?_⟩
  · have na : a ≠ p := fun z => by rw [z, h2] at q; cases q
    rw [upd_ne na]; exact r.sub a v q
  · obtain ⟨z1, z2, z3⟩ := r.own a n q
    exact ⟨z1, z2, by rw [upd_ne (nown a n q)]; exact z3⟩
  · have q' : upd G.pr p u a = some v := q
    by_cases ha : a = p
    · subst ha
      rw [upd_same] at q' ⊢
      exact ⟨q', h2, h3⟩
    · rw [upd_ne ha] at q' ⊢
      exact r.pr a v q'
  · exact (r.obj n v q).ghost { G with pr := upd G.pr p u } rfl (fun _ _ e => e) rfl fun b e => upd_ne (nown b n e)
/-- the list is done: it never changes from now on -/
theorem Rel.unguard {K : PySem.W.Frag} {G : Gst} {h : Hh} {H : Hp} (r : Rel K T G h H) {p : Addr} {o : HO} {pr0 : Hp} (hp : G.pr p = some o) (h0 : ∀ a u, pr0 a = some u → a ≠ p ∧ G.pr a = some u) :
    Rel K T { G with pr := pr0, fz := upd G.fz p o } h H := by
  obtain ⟨h1, h2, h3⟩ := r.pr p o hp
  have nown : ∀ b n, G.own b = some n → b ≠ p := fun b n q z => by rw [z, h3] at q; cases q
  refine ⟨r.len, fun a v q => ?_, fun a n q => ?_, fun a v q => ?_, fun n v q => ?_⟩
  · have q' : upd G.fz p o a = some v := q
    by_cases ha : a = p
    · subst ha; rw [upd_same] at q'; cases q'; exact h1
    · rw [upd_ne ha] at q'; exact r.sub a v q'
  · obtain ⟨z1, z2, z3⟩ := r.own a n q
    exact ⟨z1, by show upd G.fz p o a = none; rw [upd_ne (nown a n q)]; exact z2, z3⟩
  · obtain ⟨na, q'⟩ := h0 a v q
    obtain ⟨z1, z2, z3⟩ := r.pr a v q'
    exact ⟨z1, by show upd G.fz p o a = none; rw [upd_ne na]; exact z2, z3⟩
  · refine (r.obj n v q).ghost { G with pr := pr0, fz := upd G.fz p o } rfl (fun a u e => ?_) rfl fun b e => rfl
    show upd G.fz p o a = some u
    have na : a ≠ p := fun z => by rw [z, h2] at e; cases e
    rw [upd_ne na]; exact e
/-- the list is done: it may change from now on -/
def Gst.give (G : Gst) (p : Addr) (pr0 : Hp) : Gst := { ι := G.ι ++ [p], own := fun b => if b = p then some G.ι.length else G.own b, fz := G.fz, pr := pr0 }
theorem Rel.unguardO {K : PySem.W.Frag} {G : Gst} {h : Hh} {H : Hp} {u : O} (r : Rel K T G h H) {p : Addr} {o : HO} {pr0 : Hp} (hp : G.pr p = some o) (h0 : ∀ a u, pr0 a = some u → a ≠ p ∧ G.pr a = some u)
    (ho : ∀ G', Ext0 G G' → G'.ι[h.length]? = some p → G'.own p = some h.length → (∀ b, G'.own b = some h.length → b = p) → RO K T G' H h.length u) : Ext0 G (G.give p pr0) ∧ Rel K T (G.give p pr0) (h ++ [u]) H := by
  obtain ⟨h1, h2, h3⟩ := r.pr p o hp
  have nown : ∀ b n, G.own b = some n → b ≠ p := fun b n q z => by rw [z, h3] at q; cases q
  have x0 : Ext0 G (G.give p pr0) := ⟨⟨[p], rfl⟩, fun _ _ q => q⟩
  refine ⟨x0, by simp [Gst.give, r.len], fun a v q => r.sub a v q, fun a n q => ?_, fun a v q => ?_, fun n v q => ?_⟩
  · have q' : (if a = p then some G.ι.length else G.own a) = some n := q
    by_cases ha : a = p
    · rw [if_pos ha] at q'
      cases q'
      exact ⟨by simp [r.len], by rw [ha]; exact h2, by rw [ha, h1]; simp⟩
    · rw [if_neg ha] at q'
      obtain ⟨z1, z2, z3⟩ := r.own a n q'
      exact ⟨by simp; omega, z2, z3⟩
  · obtain ⟨na, q'⟩ := h0 a v q
    obtain ⟨z1, z2, z3⟩ := r.pr a v q'
    exact ⟨z1, z2, by show (if a = p then some G.ι.length else G.own a) = none; rw [if_neg na]; exact z3⟩
  · by_cases hn : n < h.length
    · rw [List.getElem?_append_left hn] at q
      have old : ∀ b, (if b = p then some G.ι.length else G.own b) = some n → G.own b = some n := fun b z => by
        by_cases hb : b = p
        · rw [if_pos hb] at z; cases z; rw [r.len] at hn; omega
        · rw [if_neg hb] at z; exact z
      have new : ∀ b, G.own b = some n → (if b = p then some G.ι.length else G.own b) = some n := fun b z => by
        rw [if_neg (nown b n z)]; exact z
      have hi : ∀ a, G.ι[n]? = some a → (G.ι ++ [p])[n]? = some a := fun a e => by
        rw [List.getElem?_append_left (List.getElem?_eq_some_iff.mp e).1]; exact e
      have ro := r.obj n v q
      cases v with
      | lst ds => obtain ⟨a, vs, z1, z2, z3, z4⟩ := ro; exact ⟨a, vs, hi _ z1, new _ z2, z3, z4.mono0 x0⟩
      | dic ks vs => obtain ⟨a, kvs, z1, z2, z3, z4, z5⟩ := ro; exact ⟨a, kvs, hi _ z1, new _ z2, z3, z4.mono0 x0, z5.mono0 x0⟩
      | obj c ds => obtain ⟨a, C, dx, nm, fs, z1, z2, z3, z4, z5, z6⟩ := ro; exact ⟨a, C, dx, nm, fs, hi _ z1, new _ z2, z3, z4, z5, z6.mono0 x0⟩
      | src s =>
        obtain ⟨a, z1, z2⟩ := ro
        refine ⟨a, hi _ z1, ?_⟩
        have e : (fun b => (G.give p pr0).own b = some n) = (fun b => G.own b = some n) := funext fun b => propext ⟨old b, new b⟩
        rw [e]; exact z2
      | dead => trivial
    · have hn' : n = h.length := by
        have := (List.getElem?_eq_some_iff.mp q).1
        simp at this; omega
      subst hn'
      simp at q
      subst q
      refine ho _ x0 ?_ ?_ ?_
      · show (G.ι ++ [p])[h.length]? = some p
        rw [← r.len]; simp
      · show (if p = p then some G.ι.length else G.own p) = some h.length
        rw [if_pos rfl, r.len]
      · intro b z
        have z' : (if b = p then some G.ι.length else G.own b) = some h.length := z
        by_cases hb : b = p
        · exact hb
        · rw [if_neg hb] at z'
          have := (r.own b _ z').1
          omega
theorem okR.w0 {α β : Type} {K : PySem.W.Frag} {G : Gst} {σ σ' : L2.St} {rel : Gst → α → β → Prop} {x : α} {h : Hh} {Q : β → Hp → Prop} (o : ∀ G' H' v, Ext G G' → Rel K T G' h H' → rel G' x v → Q v H') : okR K T W0 G σ' rel (.ok x h) Q := o
/-- what a turn starts from: the list at p has what acc tells -/
structure LcAt (K : PySem.W.Frag) (T : Tx) (G1 : Gst) (p : Addr) (G : Gst) (acc : List D) (h : Hh) (H : Hp) : Prop where
  ι : ∃ t, G.ι = G1.ι ++ t
  fz : ∀ a o, G1.fz a = some o → G.fz a = some o
  pr : ∃ avs, G.pr = upd G1.pr p (.lst avs) ∧ RDs K T G acc avs
  rel : Rel K T G h H
theorem LcAt.ext {K : PySem.W.Frag} {G1 G : Gst} {p : Addr} {acc : List D} {h : Hh} {H : Hp} (l : LcAt K T G1 p G acc h H) : Ext G1 { G with pr := G1.pr } := ⟨l.ι, l.fz, rfl⟩
theorem LcAt.step {K : PySem.W.Frag} {G1 G G' : Gst} {p : Addr} {acc : List D} {h h' : Hh} {H H' : Hp} (l : LcAt K T G1 p G acc h H) (x : Ext G G') (r : Rel K T G' h' H') : LcAt K T G1 p G' acc h' H' := by
  obtain ⟨t, e⟩ := l.ι
  obtain ⟨u, e'⟩ := x.ι
  obtain ⟨avs, e2, d⟩ := l.pr
  exact ⟨⟨t ++ u, by rw [e', e, List.append_assoc]⟩, fun a o q => x.fz a o (l.fz a o q), ⟨avs, x.pr.trans e2, d.mono x⟩, r⟩
theorem tE_lc {mu : Bool} {f : FnI} {is : List Nat} {g : FnG} {t : FnT} {e : FnE} {own : List (Str × Nat)} (hin : ∀ i ∈ is, i ∈ own.map (·.2)) {σ : L2.St} {H : Hp} {Q : VK} (hh : tE X.K T W (eLc mu f g t e (own.map (·.2))) σ H Q) :
    tLc (tI X.K T W f) (tG X.K T is g) (tT X.K T W0 t) (tE X.K T W0 e) (own.map (·.2)) σ H Q := by
  revert hh
  rintro ⟨G, h0, δ, r, s, o⟩
  refine ⟨G, h0, δ, r, s, (okR.bind (rel := fun G ds J => Walk3 X.K T J G ds) o).mono ?_⟩
  rintro J H1 ⟨G1, items, h1, e1, r1, w, o1⟩
  intro Dn hD
  have s1 := (s.mono e1).wipe (own.map (·.2))
  refine ⟨fun i m H' => i ≤ items.length ∧ m = items.length - i ∧ ∃ G2 h2 acc, LcAt X.K T G1 Dn G2 acc h2 H' ∧ okR X.K T W G1 σ (RD X.K T) ((lcs g t e (wipeD δ (own.map (·.2))) (items.drop i) h2).bind fun ys h3 => kLst mu (acc ++ ys) h3) Q,
    ⟨_, Nat.zero_le _, rfl, G1.guard Dn (.lst []), h1, [], ⟨⟨[], by simp [Gst.guard]⟩, fun _ _ q => q, ⟨[], rfl, .nil⟩, r1.guard hD⟩, o1⟩, ?_⟩
  rintro i m H' ⟨hi', rfl, G2, h2, acc, l, o2⟩
  have x02 : Ext0 G1 G2 := ⟨l.ι, l.fz⟩
  by_cases hlt : i < items.length
  · refine .inr ?_
    have ed : items[i]? = some items[i] := by simp [hlt]
    obtain ⟨go, yl⟩ := (w i G2 h2 H' x02 l.rel).1 _ ed
    refine ⟨go, fun H3 => ∃ m', m' < items.length - i ∧ i + 1 ≤ items.length ∧ m' = items.length - (i + 1) ∧ ∃ G2 h2 acc, LcAt X.K T G1 Dn G2 acc h2 H3 ∧ okR X.K T W G1 σ (RD X.K T) ((lcs g t e (wipeD δ (own.map (·.2))) (items.drop (i + 1)) h2).bind fun ys h3 => kLst mu (acc ++ ys) h3) Q,
      fun H3 ⟨m', a, b, c, d⟩ => ⟨m', a, b, c, d⟩, fun x H3 y => ?_⟩
    obtain ⟨G3, e3, r3, d3⟩ := yl x H3 y
    have l3 := l.step e3 r3
    have s3 : RSl X.K T G3 (wipeD δ (own.map (·.2))) (L2.wipe σ (own.map (·.2))) := ⟨s1.len, fun j d q => let ⟨v, a, b⟩ := s1.at_ j d q; ⟨v, a, b.mono0 ⟨l3.ι, l3.fz⟩⟩⟩
    rw [List.drop_eq_getElem_cons hlt] at o2
    unfold lcs at o2
    cases eg : g items[i] (wipeD δ (own.map (·.2))) with
    | none => rw [eg] at o2; exact o2.elim
    | some δ3 =>
      rw [eg] at o2
      dsimp only at o2
      refine ⟨G3, h2, _, items[i], δ3, r3, s3, d3, eg, fun σ4 s4 so => ⟨wipe_same so hin, G3, h2, δ3, r3, s4, ?_⟩⟩
      cases et : t δ3 h2 with
      | stk => rw [et] at o2; exact o2.elim
      | exc c ds h' => rw [et] at o2; exact o2.elim
      | ok b h3 =>
        rw [et] at o2
        dsimp only at o2
        intro G4 H4 b' x4 r4 eb
        have eb' : b = b' := eb
        subst eb'
        have l4 := l3.step x4 r4
        cases b with
        | false =>
          rw [if_neg Bool.false_ne_true] at o2 ⊢
          exact ⟨_, by omega, hlt, rfl, G4, h3, acc, l4, o2⟩
        | true =>
          rw [if_pos rfl] at o2 ⊢
          refine ⟨G4, h3, δ3, r4, s4.mono x4, ?_⟩
          cases ee : e δ3 h3 with
          | stk => rw [ee] at o2; exact o2.elim
          | exc c ds h' => rw [ee] at o2; exact o2.elim
          | ok y h4 =>
            rw [ee] at o2
            dsimp only at o2
            intro G5 H5 v x5 r5 d5
            have l5 := l4.step x5 r5
            obtain ⟨avs, ep, dacc⟩ := l5.pr
            have hpr : G5.pr Dn = some (.lst avs) := by rw [ep, upd_same]
            obtain ⟨q1, q2, q3⟩ := r5.pr Dn _ hpr
            refine ⟨avs, q1, ?_, _, by omega, hlt, rfl, { G5 with pr := upd G5.pr Dn (.lst (avs ++ [v])) }, h4, acc ++ [y], ⟨l5.ι, l5.fz, ⟨avs ++ [v], ?_, ?_⟩, r5.reguard hpr⟩, ?_⟩
            · -- the size
              have sz : avs.length < 16777216 := by
                rw [← dacc.length]
                cases el : lcs g t e (wipeD δ (own.map (·.2))) (items.drop (i + 1)) h4 with
                | stk => rw [el] at o2; exact o2.elim
                | exc c ds h' => rw [el] at o2; exact absurd o2 (by
                    have none_exc : ∀ (ds : List D) (h : Hh) c es h', lcs g t e (wipeD δ (own.map (·.2))) ds h ≠ .exc c es h' := by
                      intro ds
                      induction ds with
                      | nil => intro h c es h' z; cases z
                      | cons a as ih =>
                        intro h c es h' z
                        unfold lcs at z
                        split at z
                        · cases z
                        · split at z
                          · split at z
                            · split at z
                              · rename_i yy hh _
                                cases zz : lcs g t e (wipeD δ (own.map (·.2))) as hh with
                                | ok a b => rw [zz] at z; cases z
                                | exc a b cc => exact ih _ _ _ _ zz
                                | stk => rw [zz] at z; cases z
                              · cases z
                            · exact ih _ _ _ _ z
                          · cases z
                    exact absurd el (none_exc _ _ _ _ _))
                | ok ys h5 =>
                  rw [el] at o2
                  have o3 : okR X.K T W G1 σ (RD X.K T) (kLst mu (acc ++ y :: ys) h5) Q := o2
                  unfold kLst at o3
                  by_cases hl : lineOk (acc ++ y :: ys).length = true
                  · have := of_decide_eq_true hl
                    rw [List.length_append, List.length_cons] at this
                    omega
                  · rw [if_neg hl] at o3; exact o3.elim
              rw [sizeLine_eq]; exact sz
            · show upd G5.pr Dn (.lst (avs ++ [v])) = upd G1.pr Dn (.lst (avs ++ [v]))
              rw [ep, upd_upd]
            · exact RDs.mono0 (G := G5) (G' := { G5 with pr := upd G5.pr Dn (.lst (avs ++ [v])) }) ⟨⟨[], (List.append_nil _).symm⟩, fun _ _ z => z⟩ (dacc.append (.cons d5 .nil))
            · have ea : ∀ (rr : R (List D)), ((rr.bind fun ys h3 => R.ok (y :: ys) h3).bind fun ys h3 => kLst mu (acc ++ ys) h3) = rr.bind fun ys h3 => kLst mu (acc ++ [y] ++ ys) h3 := fun rr => by
                cases rr with
                | ok a b => show kLst mu (acc ++ y :: a) b = kLst mu (acc ++ [y] ++ a) b; rw [List.append_assoc]; rfl
                | exc _ _ _ => rfl
                | stk => rfl
              rw [ea] at o2
              exact o2
  · refine .inl ⟨(w i G2 h2 H' x02 l.rel).2 (by omega), ?_⟩
    rw [List.drop_eq_nil_of_le (by omega)] at o2
    have o3 : okR X.K T W G1 σ (RD X.K T) (kLst mu (acc ++ []) h2) Q := o2
    rw [List.append_nil] at o3
    unfold kLst at o3
    by_cases hl : lineOk acc.length = true
    · rw [if_pos hl] at o3
      obtain ⟨avs, ep, dacc⟩ := l.pr
      have hpr : G2.pr Dn = some (.lst avs) := by rw [ep, upd_same]
      have pn : G1.pr Dn = none := by
        cases z : G1.pr Dn with
        | none => rfl
        | some u => have := (r1.pr Dn u z).1; rw [hD] at this; cases this
      obtain ⟨q1, q2, q3⟩ := l.rel.pr Dn _ hpr
      have fzm : ∀ a u, G2.fz a = some u → upd G2.fz Dn (.lst avs) a = some u := fun a u z => by
        have na : a ≠ Dn := fun y => by rw [y, q2] at z; cases z
        rw [upd_ne na]; exact z
      have hpr0 : ∀ a u, G1.pr a = some u → a ≠ Dn ∧ G2.pr a = some u := fun a u z => by
        have na : a ≠ Dn := fun y => by rw [y, pn] at z; cases z
        exact ⟨na, by rw [ep, upd_ne na]; exact z⟩
      cases mu with
      | false =>
        rw [if_neg Bool.false_ne_true] at o3
        exact o3 { G2 with pr := G1.pr, fz := upd G2.fz Dn (.lst avs) } H' (.ref Dn) ⟨l.ι, fun a u z => fzm a u (l.fz a u z), rfl⟩ (l.rel.unguard hpr hpr0) (.lst upd_same (RDs.mono0 (G := G2) (G' := { G2 with pr := G1.pr, fz := upd G2.fz Dn (.lst avs) }) ⟨⟨[], (List.append_nil _).symm⟩, fzm⟩ dacc))
      | true =>
        rw [if_pos rfl] at o3
        obtain ⟨x5, r5⟩ := l.rel.unguardO (u := .lst acc) hpr hpr0 fun G' x hi ho _ => ⟨Dn, avs, hi, ho, q1, dacc.mono0 x⟩
        obtain ⟨tt, et⟩ := l.ι
        refine o3 (G2.give Dn G1.pr) H' (.ref Dn) ⟨⟨tt ++ [Dn], ?_⟩, fun a u z => l.fz a u z, rfl⟩ r5 (.ref ?_)
        · show G2.ι ++ [Dn] = G1.ι ++ (tt ++ [Dn])
          rw [et, List.append_assoc]
        · show (G2.ι ++ [Dn])[h2.length]? = some Dn
          rw [← l.rel.len]; simp
    · rw [if_neg hl] at o3; exact o3.elim
theorem fe_lc {mu : Bool} {elt tg iter : Expr} {ifs : List Expr} {scope : Scope} {own : List (Str × Nat)} {f : FnI} {is : List Nat} {g : FnG} {t : FnT} {e : FnE} (hc : X.calm = true) (hN : X.N.Nodup) (hi : FI X T W tg iter f) (ok : BlkOk X.N X.env.scope scope own)
    (hg : ∀ (s : Shared) (H : Hp) (C : Addr) (cl : List (Str × Addr)) (fp : List Addr), FG (X.blk s H scope (compEnvC scope cl C X.env) fp) T tg is g) (ht : ∀ (s : Shared) (H : Hp) (C : Addr) (cl : List (Str × Addr)) (fp : List Addr), FTs (X.blk s H scope (compEnvC scope cl C X.env) fp) T W0 ifs t)
    (he : ∀ (s : Shared) (H : Hp) (C : Addr) (cl : List (Str × Addr)) (fp : List Addr), FE (X.blk s H scope (compEnvC scope cl C X.env) fp) T W0 elt e) (hin : ∀ i ∈ is, i ∈ own.map (·.2)) (hs : ∀ x, foldedSetIterable iter X.env x = pure x := by intro _; rfl) :
    FE X T W (.ListComp elt [⟨tg, iter, ifs, 0⟩] scope pos) (eLc mu f g t e (own.map (·.2))) :=
  PE.imp (pe_lc (wi := tI X.K T W f) (g := tG X.K T is g) (tt := tT X.K T W0 t) (te := tE X.K T W0 e) hc hN hi ok hg ht he hs) fun _ _ _ hh => tE_lc hin hh
/-- name = [..] on one line, a local -/
theorem fs_setLc {mu : Bool} {i : Nat} {y : Str} {py spos : Pos} {elt tg iter : Expr} {ifs : List Expr} {scope : Scope} {own : List (Str × Nat)} {f : FnI} {is : List Nat} {g : FnG} {t : FnT} {e : FnE} (hc : X.calm = true) (hN : X.N.Nodup) (hy : X.N[i]? = some y) (hyl : X.env.scope.names.lookup y = some .local)
    (hsw : swapsWith (.ListComp elt [⟨tg, iter, ifs, 0⟩] scope pos) (some (.Name y py)) spos.line X.env = pure true) (hi : FI X T W tg iter f) (ok : BlkOk X.N X.env.scope scope own)
    (hg : ∀ (s : Shared) (H : Hp) (C : Addr) (cl : List (Str × Addr)) (fp : List Addr), FG (X.blk s H scope (compEnvC scope cl C X.env) fp) T tg is g) (ht : ∀ (s : Shared) (H : Hp) (C : Addr) (cl : List (Str × Addr)) (fp : List Addr), FTs (X.blk s H scope (compEnvC scope cl C X.env) fp) T W0 ifs t)
    (he : ∀ (s : Shared) (H : Hp) (C : Addr) (cl : List (Str × Addr)) (fp : List Addr), FE (X.blk s H scope (compEnvC scope cl C X.env) fp) T W0 elt e) (hin : ∀ i ∈ is, i ∈ own.map (·.2)) (hs : ∀ x, foldedSetIterable iter X.env x = pure x := by intro _; rfl) :
    FS X T W (.Assign [.Name y py] (.ListComp elt [⟨tg, iter, ifs, 0⟩] scope pos) spos) (sSet i (eLc mu f g t e (own.map (·.2)))) := by
  refine PS.imp (ps_setLc (wi := tI X.K T W f) (g := tG X.K T is g) (tt := tT X.K T W0 t) (te := tE X.K T W0 e) hc hN hy hyl hsw hi ok hg ht he hs) fun D σ H h => ?_
  refine tE_lc (mu := mu) hin ?_
  exact tS.bind (k := fun δ x h1 => .nx (δ.set i (some x)) h1) h fun G δ x w h1 H1 r1 s1 d1 o1 => o1 G H1 _ (Ext.refl G) r1 (s1.set d1 i)
/-! ### defs -/
abbrev Sem3 := List D → Hh → R D
def sp3 (K : PySem.W.Frag) (T : Tx) (np : Nat) (sem : Sem3) : Sp := fun vs H Q E => vs.length = np ∧ ∃ G h ds, Rel K T G h H ∧ RDs K T G ds vs ∧ okR K T (fun c d _ H => E c d H) G [] (RD K T) (sem ds h) Q
def startD (n : Nat) (ds : List D) : De := ds.map some ++ List.replicate (n - ds.length) none
def endD (r : RS) : R D := match r with
  | .nx _ h => .ok .non h
  | .rt d h => .ok d h
  | .exc c ds _ h => .exc c ds h
  | _ => .stk
/-- a def with n names -/
def runD (n : Nat) (u : FnS) : Sem3 := fun ds h => endD (u (startD n ds) h)
/-- room, and nothing is being shown by a repr -/
structure RoomG (k : Nat) (A : Around) : Prop where
  r : Room k A
  g : A.guards = some []
theorem RoomG.mono {j k : Nat} {A : Around} (x : RoomG k A) (h : j ≤ k) : RoomG j A := ⟨x.r.mono h, x.g⟩
theorem RoomG.units {k : Nat} {A : Around} (x : RoomG k A) : A.units + 64 < cLine := x.r.units
/-- a def's promise, where nothing is being shown -/
structure FnQ (P : Program) (w : World) (K : PySem.W.Frag) (mg : Str → Option Value) (base : Heap) (CX : CXT) (k : Nat) (f : Addr) (fd : FuncData) (ps : List Str) (sp : Sp) : Prop where
  size : ∀ vs H Q E, sp vs H Q E → vs.length = ps.length
  go : ∀ (A : Around) (outer : List Env) (s : Shared) (H : Hp) (args : Args) (us : List Value) (vs : List V) (Q : VK) (E : XK), RoomG k A → Env0 P w K mg base A outer s H → BindsTo s fd args (ps.zip us) → Vals vs us → sp vs H Q E →
    codeAny (model P w) A (.call (.ref f) args) (CR CX outer P w H s Q E) s
abbrev FnL (P : Program) (w : World) (K : PySem.W.Frag) (mg : Str → Option Value) (base : Heap) (T : Tx) (k : Nat) (f : Addr) (fd : FuncData) (ps : List Str) (sem : Sem3) : Prop := FnQ P w K mg base (L2.CX P w) k f fd ps (sp3 K T ps.length sem)
theorem fnQ_of {CX : CXT} {P : Program} {w : World} {K : PySem.W.Frag} {mg : Str → Option Value} {base : Heap} {k : Nat} {f : Addr} {x qual : Str} {params : Arguments} {body : List Stmt} {scope : Scope} {dvs : List V} {kws : List (Str × V)} {fd : FuncData} {N ps : List Str} {sp : Sp}
    (F : FunD K x qual params body scope dvs kws f fd) (S : FnScope N ps scope) (size : ∀ vs H Q E, sp vs H Q E → vs.length = ps.length)
    (hb : ∀ (cdv : Value) (A : Around) (outer : List Env) (s : Shared) (H : Hp) (vs : List V) (Q : VK) (E : XK), RoomG k (A.deeper (envOfC qual scope s.heap.objs.size f cdv)) → sp vs H Q E →
      ∃ t, PSs (cxOf CX P w K mg base N qual scope f cdv A outer s H E) body t ∧ t { nx := fun _ H' => Q .non H', rt := Q } (L2.start N vs) H) : FnQ P w K mg base CX (k + 1) f fd ps sp := by
  obtain ⟨oc, od, dV, kV, doc, pm, an, cdv, ct, osl, rfl, lk, hcd, _, _⟩ := F.ex
  refine ⟨size, fun A outer s H args us vs Q E room e0 bd r hsp => ?_⟩
  have many := size _ _ _ _ hsp
  have here : K.In s.heap := e0.mod.kin.keeps fun b o e => (e0.bs b o e).1
  have free : s.heap.NoLimit := e0.mod.nolimit.keeps fun b o e => (e0.bs b o e).1
  have kinds : ∀ y ∈ ps.zip us, scope.names.lookup y.1 = some .local ∨ (scope.names.lookup y.1 = some .cell ∧ ((cellsFrom (s.heap.objs.size + 1) scope.names []).lookup y.1).isSome = true) := by
    rintro ⟨n, v⟩ hy
    exact (S.par n (List.of_mem_zip hy).1).elim .inl fun q => .inr ⟨q, PySem.W.cellsFrom_some _ _ _ (.inl q)⟩
  refine codeAny_call_function room.r.depth (here _ _ lk) rfl S.co S.gen rfl (PySem.W.codeRec_of here hcd) (bd _ _ _ _ (wpAny_newFunctionEnv_cells S.kind kinds fun env he s1 z => ?_))
  cases he
  refine ⟨free.keeps z.toInCall.keep, codeAny_func ?_⟩
  obtain ⟨t, ht, ends⟩ := hb cdv A outer s H vs Q E ⟨room.r.deeper _, room.g⟩ hsp
  have J := inv_start (CX := CX) (P := P) (w := w) (mg := mg) (base := base) (qual := qual) (f := f) (cd := cdv) (E := E) S room.r.hd e0 many r z
  refine wpAny_mono (ht.run [] s1 (L2.start N vs) H _ J ends) (fun fl s' q => ?_) fun e s' q => q
  match fl, q with
  | .ret u, ⟨v, σ', H', J', rv, q⟩ => exact (⟨v, H', J'.os, J'.bare, J'.base, J'.hok, rv, q⟩ : CE outer P w H s Q u s')
  | .next, ⟨σ', H', J', q⟩ => exact (⟨V.non, H', J'.os, J'.bare, J'.base, J'.hok, rfl, q⟩ : CE outer P w H s Q Value.none s')
  | .brk, ⟨_, _, _, q⟩ => exact q.elim
  | .cont, ⟨_, _, _, q⟩ => exact q.elim
/-- the call -/
theorem runG {X : Cx} {CX : CXT} {k : Nat} {f : Addr} {fd : FuncData} {ps : List Str} {sp : Sp} {ds : List Value} {dvs : List V} {E : L2.St → XK} {pins : List (Addr × Obj)} {σ : L2.St} {H : Hp} {s : Shared} {Q : VK} {us : List Value} {vs : List V} (F : FnQ X.prog X.w X.K X.mg X.base CX k f fd ps sp) (hr : RoomG k X.A) (bd : Binds X.K fd ps ds) (hd : Vals dvs ds)
    (hx : PassesAt CX X σ (E σ)) (I : Inv X pins σ H s) (r : Vals vs us) (h : sp (vs ++ dvs) H Q (E σ)) : wpAny (model X.prog X.w) X.A (call (.ref f) us) (EP X pins σ Q) X.xe s := by
  have all := r.append hd
  refine wpAny_call (codeAny_mono (F.go X.A X.stack s H ⟨us, []⟩ (us ++ ds) (vs ++ dvs) Q (E σ) hr I.env0 (bd s us I.kIn ?_) all h) fun res s' q => ?_)
  · rw [← all.length]; exact F.size _ _ _ _ h
  · match res, q with
    | .error e, q => exact hx pins H s e s' I q
    | .ok (.ret u), q => exact I.after q
    | .ok .next, q => exact q.elim
    | .ok .brk, q => exact q.elim
    | .ok .cont, q => exact q.elim
theorem RSl.start {K : PySem.W.Frag} {G : Gst} {ds : List D} {vs : List V} (r : RDs K T G ds vs) (N : List Str) : RSl K T G (startD N.length ds) (L2.start N vs) := by
  refine ⟨?_, fun i d e => ?_⟩
  · unfold startD L2.start
    simp [r.length]
  · unfold startD at e
    by_cases hi : i < ds.length
    · rw [List.getElem?_append_left (by simpa using hi), List.getElem?_map] at e
      obtain ⟨d', e1, e2⟩ := Option.map_eq_some_iff.mp e
      cases e2
      obtain ⟨v, ev, dv⟩ := r.get e1
      refine ⟨v, ?_, dv⟩
      unfold L2.start
      rw [List.getElem?_append_left (by simpa [r.length] using (List.getElem?_eq_some_iff.mp ev).1), List.getElem?_map, ev]
      rfl
    · rw [List.getElem?_append_right (by simpa using hi), List.getElem?_replicate] at e
      split at e <;> cases e
theorem def_read {K : PySem.W.Frag} {N : List Str} {np : Nat} {u : FnS} {vs : List V} {H : Hp} {Q : VK} {E : XK} (h : sp3 K T np (runD N.length u) vs H Q E) :
    tS K T (fun c d _ H => E c d H) u { nx := fun _ H' => Q .non H', rt := Q } (L2.start N vs) H := by
  obtain ⟨_, G, h0, ds, r, rd, o⟩ := h
  refine ⟨G, h0, startD N.length ds, r, RSl.start rd N, ?_⟩
  unfold runD at o
  cases e : u (startD N.length ds) h0 with
  | nx δ h' => rw [e] at o; exact fun G' H' σ' x r' _ => o G' H' .non x r' .non
  | rt d h' => rw [e] at o; exact o
  | bk δ h' => rw [e] at o; exact o.elim
  | ct δ h' => rw [e] at o; exact o.elim
  | exc c ds δ h' => rw [e] at o; exact fun G' H' σ' cls dd x r' _ z => o G' H' cls dd x r' z
  | stk => rw [e] at o; exact o.elim
/-! ### calls -/
def kCall (np : Nat) (sem : Sem3) (dds : List D) (ds : List D) (h1 : Hh) : R D := if (ds ++ dds).length = np then sem (ds ++ dds) h1 else .stk
def eCall (np : Nat) (sem : Sem3) (fa : FnA) (dds : List D) : FnE := fun δ h => (fa δ h).bind (kCall np sem dds)
/-- defaults -/
structure Dfl (K : PySem.W.Frag) (T : Tx) (dds : List D) (dvs : List V) (us : List Value) : Prop where
  rel : ∀ G, RDs K T G dds dvs
  val : Vals dvs us
theorem Dfl.nil {K : PySem.W.Frag} : Dfl K T [] [] [] := ⟨fun _ => .nil, .nil⟩
theorem Dfl.cons {K : PySem.W.Frag} {d : D} {v : V} {u : Value} {dds : List D} {dvs : List V} {us : List Value} (h : Cst K T d v) (r : RelV v u) (t : Dfl K T dds dvs us) : Dfl K T (d :: dds) (v :: dvs) (u :: us) := ⟨fun G => .cons (h G) (t.rel G), .cons r t.val⟩
theorem sp3_of {K : PySem.W.Frag} {np : Nat} {sem : Sem3} {G : Gst} {h : Hh} {H : Hp} {ds dds : List D} {vs dvs : List V} {us : List Value} {Q : VK} {σ : L2.St} (D0 : Dfl K T dds dvs us) (r : Rel K T G h H) (d : RDs K T G ds vs) (o : okR K T W G σ (RD K T) (kCall np sem dds ds h) Q) : sp3 K T np sem (vs ++ dvs) H Q (WE W σ) := by
  unfold kCall at o
  have dd := d.append (D0.rel G)
  by_cases hl : (ds ++ dds).length = np
  · rw [if_pos hl] at o
    refine ⟨by rw [← dd.length]; exact hl, G, h, ds ++ dds, r, dd, ?_⟩
    cases e : sem (ds ++ dds) h with
    | ok y hh => rw [e] at o; exact o
    | exc c es hh => rw [e] at o; exact o
    | stk => rw [e] at o; exact o.elim
  · rw [if_neg hl] at o; exact o.elim
theorem fe_call {np : Nat} {x : Str} {p : Pos} {e : Expr} {es : List Expr} {k : Nat} {f : Addr} {fd : FuncData} {ps : List Str} {sem : Sem3} {fa : FnA} {dds : List D} {dvs : List V} {us : List Value} (tk : Takes X W) (F : FnL X.prog X.w X.K X.mg X.base T k f fd ps sem) (hr : RoomG k X.A) (hg : Gl X x) (hm : X.mg x = some (.ref f)) (hk : PySem.W.keepIn X.K (.ref f) = true)
    (hb : Binds X.K fd ps us) (D0 : Dfl X.K T dds dvs us) (ha : FA X T W (e :: es) fa) (hdb : (x == ("__debug__" : Str)) = false := by decide) (he : starEach (e :: es) X.env = (false, eval e X.env) :: starEach es X.env := by rfl) (hpl : (backTo pos (starEach es X.env)).any (·.1) = false := by rfl)  (hnp : ps.length = np := by rfl) :
    FE X T W (.Call (.Name x p) (e :: es) [] pos) (eCall np sem fa dds) := by
  subst hnp
  refine ⟨fun pins s σ H Q I h => ?_⟩
  have h' : tA X.K T W fa σ H fun vs H1 => sp3 X.K T ps.length sem (vs ++ dvs) H1 Q (WE W σ) :=
    tF.bind (k := fun _ => kCall ps.length sem dds) h fun G δ ds vs h1 H1 r1 s1 d1 o1 => sp3_of D0 r1 d1 o1
  refine wpAny_Call_Name_kw (ld_glob I hg hm (PySem.W.callWith_K (h₀ := X.base) I.ok.mod.kin hk (thn (ha.run pos pins s σ H _ I h') fun us s1 ⟨vs, H1, I1, r, q⟩ => ⟨I1.kIn, ?_⟩) he hpl) hdb)
  exact runG (E := WE W) F hr hb D0.val (passAt tk σ) I1 r q
theorem fe_call0 {np : Nat} {x : Str} {p : Pos} {k : Nat} {f : Addr} {fd : FuncData} {ps : List Str} {sem : Sem3} {dds : List D} {dvs : List V} {us : List Value} (tk : Takes X W) (F : FnL X.prog X.w X.K X.mg X.base T k f fd ps sem) (hr : RoomG k X.A) (hg : Gl X x) (hm : X.mg x = some (.ref f)) (hk : PySem.W.keepIn X.K (.ref f) = true)
    (hb : Binds X.K fd ps us) (D0 : Dfl X.K T dds dvs us) (hdb : (x == ("__debug__" : Str)) = false := by decide) (hnp : ps.length = np := by rfl) : FE X T W (.Call (.Name x p) [] [] pos) (eCall np sem aNil dds) := by
  subst hnp
  refine ⟨fun pins s σ H Q I h => ?_⟩
  refine wpAny_Call_Name_kw (ld_glob I hg hm ?_ hdb)
  refine PySem.W.callWith_K0 I.kIn hk (runG (us := []) (vs := []) (E := WE W) F hr hb D0.val (passAt tk σ) I .nil ?_)
  obtain ⟨G, h0, δ, r, s', o⟩ := h
  exact sp3_of (ds := []) D0 r .nil o
/-- a method of an instance of one class -/
structure MethOk (X : Cx) (T : Tx) (c : Nat) (C : Addr) (m : Str) (f : Addr) : Prop where
  cls : ∃ nm, T.cls c = some (C, nm) ∧ m ∉ nm
  cl : Cls X.K C
  meth : Meth X.K C m f
/-- an instance's class -/
def clsOf (h : Hh) : D → Option Nat
  | .obj c _ => some c
  | .ref n => match h[n]? with
    | some (.obj c _) => some c
    | _ => none
  | _ => none
theorem clsOf_ok {K : PySem.W.Frag} {G : Gst} {h : Hh} {H : Hp} {d : D} {v : V} {c : Nat} (r : Rel K T G h H) (d1 : RD K T G d v) (e : clsOf h d = some c) : ∃ a C dx nm fs, v = .ref a ∧ H a = some (.ins C dx fs) ∧ T.cls c = some (C, nm) ∧ ∀ g ∈ fs.map (·.1), g ∈ nm := by
  cases d1 with
  | @obj c' ds a C dx nm fs h1 hc hn q => cases e; exact ⟨a, C, dx, nm, fs, rfl, r.sub _ _ h1, hc, fun g hg => by rw [← hn]; exact hg⟩
  | @ref n a h1 =>
    unfold clsOf at e
    dsimp only at e
    cases q : h[n]? with
    | none => rw [q] at e; cases e
    | some o =>
      rw [q] at e
      cases o with
      | obj c' ds =>
        cases e
        obtain ⟨a', C, dx, nm, fs, e1, e2, e3, e4, e5, e6⟩ := r.obj n _ q
        rw [h1] at e1; cases e1
        exact ⟨a, C, dx, nm, fs, rfl, e3, e4, fun g hg => by rw [e5] at hg; exact List.mem_of_mem_take hg⟩
      | _ => cases e
  | _ => cases e
theorem look_none {f : Str} : ∀ {fs : List (Str × V)}, f ∉ fs.map (·.1) → fs.lookup f = none
  | [], _ => rfl
  | (g, y) :: r, h => by
    have h' : ¬ f = g ∧ f ∉ r.map (·.1) := by simpa using h
    have b : (f == g) = false := beq_eq_false_iff_ne.mpr h'.1
    simp only [List.lookup, b]
    exact look_none h'.2
def kMeth (c : Nat) (np : Nat) (sem : Sem3) (fa : FnA) (dds : List D) (δ : De) (x : D) (h1 : Hh) : R D := if clsOf h1 x = some c then (fa δ h1).bind fun ds h2 => kCall np sem dds (x :: ds) h2 else .stk
def eMeth (c : Nat) (np : Nat) (sem : Sem3) (fo : FnE) (fa : FnA) (dds : List D) : FnE := fun δ h => (fo δ h).bind (kMeth c np sem fa dds δ)
theorem fe_meth {np : Nat} {c : Nat} {C : Addr} {m : Str} {o e : Expr} {es : List Expr} {apos : Pos} {k : Nat} {f : Addr} {fd : FuncData} {ps : List Str} {sem : Sem3} {fo : FnE} {fa : FnA} {dds : List D} {dvs : List V} {us : List Value} {pl : Sem Bool} (tk : Takes X W) (M : MethOk X T c C m f) (F : FnL X.prog X.w X.K X.mg X.base T k f fd ps sem) (hr : RoomG k X.A)
    (hb : Binds X.K fd ps us) (D0 : Dfl X.K T dds dvs us) (ho : FE X T W o fo) (ha : FA X T W (e :: es) fa)
    (hst : starEach (e :: es) X.env = (false, eval e X.env) :: starEach es X.env := by rfl) (hpl : (backTo pos (starEach es X.env)).any (·.1) = false := by rfl)
    (ht : eval (.Call (.Attribute o m apos) (e :: es) [] pos) X.env = (do
      let ov ← eval o X.env
      standAt apos.atName
      let (f, first) ← holding [ov] (getMethod ov m pl)
      callWith pos f first (backTo pos (starEach (e :: es) X.env)) (backToKw pos (keywordEach [] X.env))) := by rfl)  (hnp : ps.length = np := by rfl) :
    FE X T W (.Call (.Attribute o m apos) (e :: es) [] pos) (eMeth c np sem fo fa dds) := by
  subst hnp
  refine ⟨fun pins s σ H Q I h => ?_⟩
  obtain ⟨nm, hcl, hnm⟩ := M.cls
  have h' : tE X.K T W fo σ H fun x H1 => ∃ a dx fs, x = .ref a ∧ H1 a = some (.ins C dx fs) ∧ fs.lookup m = none ∧ tA X.K T W fa σ H1 fun vs H2 => sp3 X.K T ps.length sem (x :: (vs ++ dvs)) H2 Q (WE W σ) := by
    obtain ⟨G, h0, δ, r, s', oo⟩ := h
    refine ⟨G, h0, δ, r, s', (okR.bind (rel := RD X.K T) oo).mono ?_⟩
    rintro v H1 ⟨G1, x, h1, e1, r1, d1, o1⟩
    unfold kMeth at o1
    by_cases hc : clsOf h1 x = some c
    · rw [if_pos hc] at o1
      obtain ⟨a, C', dx, nm', fs, rfl, q1, q2, q3⟩ := clsOf_ok r1 d1 hc
      rw [hcl] at q2; cases q2
      refine ⟨a, dx, fs, rfl, q1, look_none fun z => hnm (q3 _ z), G1, h1, δ, r1, s'.mono e1, (okR.bind (rel := RDs X.K T) o1).mono ?_⟩
      rintro vs H2 ⟨G2, ds, h2, e2, r2, d2, o2⟩
      exact sp3_of (ds := x :: ds) (vs := .ref a :: vs) D0 r2 (.cons (d1.mono e2) d2) o2
    · rw [if_neg hc] at o1; exact o1.elim
  refine PySem.W.methodCall_KW (pl := pl) (thn (ho.run pins s σ H _ I h') fun u s1 ⟨x, H1, I1, rx, a, dx, fs, ex, ea, l, q⟩ => ?_) ht
  subst ex
  obtain rfl : u = Value.ref a := rx
  refine getmeth_ok I1 ea M.cl M.meth l ?_
  refine PySem.W.callWith_K (first := [.ref a]) (h₀ := X.base) I.ok.mod.kin M.meth.kp (thn (ha.run pos pins s1 σ H1 _ I1 q) fun us s2 ⟨vs, H2, I2, r, q2⟩ => ⟨I2.kIn, ?_⟩) hst hpl
  exact runG (us := .ref a :: us) (vs := .ref a :: vs) (E := WE W) F hr hb D0.val (passAt tk σ) I2 (.cons rfl r) q2
theorem fe_meth0 {np : Nat} {c : Nat} {C : Addr} {m : Str} {o : Expr} {apos : Pos} {k : Nat} {f : Addr} {fd : FuncData} {ps : List Str} {sem : Sem3} {fo : FnE} {dds : List D} {dvs : List V} {us : List Value} {pl : Sem Bool} (tk : Takes X W) (M : MethOk X T c C m f) (F : FnL X.prog X.w X.K X.mg X.base T k f fd ps sem) (hr : RoomG k X.A)
    (hb : Binds X.K fd ps us) (D0 : Dfl X.K T dds dvs us) (ho : FE X T W o fo)
    (ht : eval (.Call (.Attribute o m apos) [] [] pos) X.env = (do
      let ov ← eval o X.env
      standAt apos.atName
      let (f, first) ← holding [ov] (getMethod ov m pl)
      callWith pos f first (backTo pos (starEach [] X.env)) (backToKw pos (keywordEach [] X.env))) := by rfl)  (hnp : ps.length = np := by rfl) :
    FE X T W (.Call (.Attribute o m apos) [] [] pos) (eMeth c np sem fo aNil dds) := by
  subst hnp
  refine ⟨fun pins s σ H Q I h => ?_⟩
  obtain ⟨nm, hcl, hnm⟩ := M.cls
  have h' : tE X.K T W fo σ H fun x H1 => ∃ a dx fs, x = .ref a ∧ H1 a = some (.ins C dx fs) ∧ fs.lookup m = none ∧ sp3 X.K T ps.length sem (x :: dvs) H1 Q (WE W σ) := by
    obtain ⟨G, h0, δ, r, s', oo⟩ := h
    refine ⟨G, h0, δ, r, s', (okR.bind (rel := RD X.K T) oo).mono ?_⟩
    rintro v H1 ⟨G1, x, h1, e1, r1, d1, o1⟩
    unfold kMeth at o1
    by_cases hc : clsOf h1 x = some c
    · rw [if_pos hc] at o1
      obtain ⟨a, C', dx, nm', fs, rfl, q1, q2, q3⟩ := clsOf_ok r1 d1 hc
      rw [hcl] at q2; cases q2
      exact ⟨a, dx, fs, rfl, q1, look_none fun z => hnm (q3 _ z), sp3_of (ds := [x]) (vs := [.ref a]) D0 r1 (.cons d1 .nil) o1⟩
    · rw [if_neg hc] at o1; exact o1.elim
  refine PySem.W.methodCall_KW (pl := pl) (thn (ho.run pins s σ H _ I h') fun u s1 ⟨x, H1, I1, rx, a, dx, fs, ex, ea, l, q⟩ => ?_) ht
  subst ex
  obtain rfl : u = Value.ref a := rx
  refine getmeth_ok I1 ea M.cl M.meth l ?_
  exact PySem.W.callWith_K0 (first := [.ref a]) I1.kIn M.meth.kp (runG (us := [.ref a]) (vs := [.ref a]) (E := WE W) F hr hb D0.val (passAt tk σ) I1 (.cons rfl .nil) q)
end
end L3
set_option autoImplicit false
set_option maxHeartbeats 4000000
/-! L3G: making instances, properties, built-ins. -/
namespace L3
open PySem PySem.Spec L2
section
variable {X : Cx} {T : Tx} {W : WX} {pos : Pos}
/-! ### C(..) -/
/-- the instance is done: it never changes from now on -/
theorem Rel.freeze {K : PySem.W.Frag} {G : Gst} {h : Hh} {H : Hp} (r : Rel K T G h H) {n : Nat} {a : Addr} {o : HO} (hn : n < h.length) (ha : G.own a = some n) (hH : H a = some o) :
    Rel K T { G with own := fun b => if b = a then none else G.own b, fz := upd G.fz a o } (h.set n .dead) H ∧ Ext G { G with own := fun b => if b = a then none else G.own b, fz := upd G.fz a o } := by
  obtain ⟨_, f0, _⟩ := r.own a n ha
  have fzm : ∀ b u, G.fz b = some u → upd G.fz a o b = some u := fun b u z => by
    have nb : b ≠ a := fun y => by rw [y, f0] at z; cases z
    rw [upd_ne nb]; exact z
  have x : Ext G { G with own := fun b => if b = a then none else G.own b, fz := upd G.fz a o } := ⟨⟨[], by simp⟩, fzm, rfl⟩
  refine ⟨⟨by simpa using r.len, fun b v q => ?_, fun b m q => ?_, fun b v q => ?_, fun m v q => ?_⟩, x⟩
  · have q' : upd G.fz a o b = some v := q
    by_cases hb : b = a
    · subst hb; rw [upd_same] at q'; cases q'; exact hH
    · rw [upd_ne hb] at q'; exact r.sub b v q'
  · have q' : (if b = a then none else G.own b) = some m := q
    by_cases hb : b = a
    · rw [if_pos hb] at q'; cases q'
    · rw [if_neg hb] at q'
      obtain ⟨h1, h2, h3⟩ := r.own b m q'
      exact ⟨by simpa using h1, by show upd G.fz a o b = none; rw [upd_ne hb]; exact h2, h3⟩
  · obtain ⟨h1, h2, h3⟩ := r.pr b v q
    have nb : b ≠ a := fun y => by rw [y, ha] at h3; cases h3
    exact ⟨h1, by show upd G.fz a o b = none; rw [upd_ne nb]; exact h2, by show (if b = a then none else G.own b) = none; rw [if_neg nb]; exact h3⟩
  · by_cases hm : m = n
    · subst hm
      rw [List.getElem?_set_self hn] at q
      cases q
      trivial
    · rw [List.getElem?_set_ne (Ne.symm hm)] at q
      have keep : ∀ b, G.own b = some m → b ≠ a := fun b z y => by rw [y, ha] at z; cases z; exact hm rfl
      refine (r.obj m v q).stay x (fun b z => ?_) (fun b z => rfl) (fun b z => ?_)
      · show (if b = a then none else G.own b) = some m
        rw [if_neg (keep b z)]; exact z
      · have z' : (if b = a then none else G.own b) = some m := z
        by_cases hb : b = a
        · rw [if_pos hb] at z'; cases z'
        · rw [if_neg hb] at z'; exact z'
/-- an own class that is made by an __init__ -/
structure MakeOk (X : Cx) (T : Tx) (c : Nat) (C : Addr) (f : Addr) (na : Nat) : Prop where
  cls : ∃ nm, T.cls c = some (C, nm) ∧ nm.length = na
  make : Mk X.K C f
def endMake (c na n : Nat) (r : R D) : R D := match r with
  | .ok .non h2 => match h2[n]? with
    | some (.obj c' es) => if c' = c ∧ es.length = na then .ok (.obj c es) (h2.set n .dead) else .stk
    | _ => .stk
  | .exc c ds h => .exc c ds h
  | _ => .stk
/-- what is made, frozen -/
def kMake (c na np : Nat) (sem : Sem3) (dds ds : List D) (h1 : Hh) : R D := if (D.ref h1.length :: (ds ++ dds)).length = np then
  endMake c na h1.length (sem (.ref h1.length :: (ds ++ dds)) (h1 ++ [.obj c []])) else .stk
def eMake (c na np : Nat) (sem : Sem3) (fa : FnA) (dds : List D) : FnE := fun δ h => (fa δ h).bind (kMake c na np sem dds)
theorem Rel.track {K : PySem.W.Frag} {G : Gst} {h : Hh} {H : Hp} (r : Rel K T G h H) {p : Addr} {o : HO} (hp : H p = none) : Rel K T G h (upd H p o) := by
  have nown : ∀ b n, G.own b = some n → b ≠ p := fun b n q z => (r.own b n q).2.2 (by rw [z]; exact hp)
  refine ⟨r.len, fun a u q => ?_, fun a n q => ?_, fun a u q => ?_, fun n u q => ?_⟩
  · have := r.sub a u q
    rw [upd_ne (ne_of_none this hp)]; exact this
  · obtain ⟨h1, h2, h3⟩ := r.own a n q
    exact ⟨h1, h2, by rw [upd_ne (nown a n q)]; exact h3⟩
  · obtain ⟨h1, h2, h3⟩ := r.pr a u q
    exact ⟨by rw [upd_ne (ne_of_none h1 hp)]; exact h1, h2, h3⟩
  · exact (r.obj n u q).ghost G rfl (fun _ _ e => e) rfl fun b e => upd_ne (nown b n e)
theorem make_read {c na np : Nat} {C : Addr} {sem : Sem3} {nm : List Str} {dds ds : List D} {dvs vs : List V} {us : List Value} {G1 : Gst} {h1 : Hh} {H1 : Hp} {σ : L2.St} {Q : VK} {K : PySem.W.Frag} (hc : T.cls c = some (C, nm)) (hna : nm.length = na) (D0 : Dfl K T dds dvs us)
    (r1 : Rel K T G1 h1 H1) (d1 : RDs K T G1 ds vs) (o : okR K T W G1 σ (RD K T) (kMake c na np sem dds ds h1) Q) (x dx : Addr) (hx : H1 x = none) (hdx : H1 dx = none) (ne : dx ≠ x) :
    sp3 K T np sem (.ref x :: (vs ++ dvs)) (upd (upd H1 dx (.own x)) x (.ins C dx [])) (fun v H2 => v = .non ∧ Q (.ref x) H2) (WE W σ) := by
  unfold kMake at o
  by_cases hl : (D.ref h1.length :: (ds ++ dds)).length = np
  · rw [if_pos hl] at o
    have r2 := r1.track (o := .own x) hdx
    have hx2 : upd H1 dx (.own x) x = none := by rw [upd_ne (Ne.symm ne)]; exact hx
    obtain ⟨x3, r3⟩ := r2.newO (o := .ins C dx []) (u := .obj c []) hx2 fun G' _ hi ho _ => ⟨x, C, dx, nm, [], hi, ho, upd_same, hc, by simp, .nil⟩
    have hix : (G1.new x).ι[h1.length]? = some x := by
      show (G1.ι ++ [x])[h1.length]? = some x
      rw [← r1.len]; simp
    have dd : RDs K T (G1.new x) (D.ref h1.length :: (ds ++ dds)) (V.ref x :: (vs ++ dvs)) := .cons (.ref hix) ((d1.mono x3).append (D0.rel _))
    refine ⟨by rw [← dd.length]; exact hl, G1.new x, _, _, r3, dd, ?_⟩
    cases e : sem (D.ref h1.length :: (ds ++ dds)) (h1 ++ [.obj c []]) with
    | stk => rw [e] at o; exact o.elim
    | exc c' es h' => rw [e] at o; exact okR.ext (W := W) (rel := RD K T) (σ := σ) (r := .exc c' es h') x3 o
    | ok y h2 =>
      rw [e] at o
      unfold endMake at o
      cases y with
      | non =>
        dsimp only at o
        intro G' H' v x4 r4 dv
        cases dv
        refine ⟨rfl, ?_⟩
        cases q : h2[h1.length]? with
        | none => rw [q] at o; exact o.elim
        | some ob =>
          rw [q] at o
          cases ob with
          | obj c' es =>
            dsimp only at o
            by_cases hce : c' = c ∧ es.length = na
            · rw [if_pos hce] at o
              obtain ⟨rfl, hlen⟩ := hce
              obtain ⟨a, C', dx', nm', fs, z1, z2, z3, z4, z5, z6⟩ := r4.obj _ _ q
              rw [hc] at z4; cases z4
              obtain ⟨tt, ht⟩ := x4.ι
              have hax : a = x := by
                have h0 : h1.length < (G1.new x).ι.length := (List.getElem?_eq_some_iff.mp hix).1
                rw [ht, List.getElem?_append_left h0, hix] at z1
                cases z1; rfl
              subst hax
              have hn : h1.length < h2.length := (List.getElem?_eq_some_iff.mp q).1
              obtain ⟨r5, x5⟩ := r4.freeze hn z2 z3
              refine o _ H' (.ref a) (x3.trans (x4.trans x5)) r5 (.obj (C := C) (dx := dx') (nm := nm) (fs := fs) upd_same hc ?_ (z6.mono x5))
              rw [z5, hlen, ← hna, List.take_length]
            · rw [if_neg hce] at o; exact o.elim
          | _ => exact o.elim
      | _ => exact o.elim
  · rw [if_neg hl] at o; exact o.elim
theorem underG {A : Around} {C : Addr} {us : List Value} {kw : List (Str × Value)} (h : A.guards = some []) : (A.under (.builtin "type.__call__" ⟨.ref C :: us, kw⟩)).guards = some [] := by
  have e : (Code.builtin "type.__call__" ⟨.ref C :: us, kw⟩).guards = [] := rfl
  show pushGuards (Code.builtin "type.__call__" ⟨.ref C :: us, kw⟩).guards A.guards = some []
  rw [e, h]; rfl
theorem run_makeS {CX : CXT} {C f : Addr} {k : Nat} {fd : FuncData} {ps : List Str} {sp : Sp} {ds : List Value} {dvs : List V} {E : XK} {pins : List (Addr × Obj)} {σ : L2.St} {H : Hp} {s : Shared} {Q : VK} {us : List Value} {vs : List V} (M : Mk X.K C f) (F : FnQ X.prog X.w X.K X.mg X.base CX k f fd ps sp) (hr : RoomG (k + 1) X.A) (hb : Binds X.K fd ps ds) (hd : Vals dvs ds)
    (hx : PassesAt CX X σ E) (I : Inv X pins σ H s) (r : Vals vs us)
    (h : ∀ x dx, H x = none → H dx = none → dx ≠ x → sp (.ref x :: (vs ++ dvs)) (upd (upd H dx (.own x)) x (.ins C dx [])) (fun v H2 => v = .non ∧ Q (.ref x) H2) E) :
    wpAny (model X.prog X.w) X.A (call (.ref C) us) (EP X pins σ Q) X.xe s := by
  have go_ := h (s.heap.objs.size + 1) s.heap.objs.size (I.hok.fresh (Nat.le_succ _)) (I.hok.fresh (Nat.le_refl _)) (Nat.ne_of_lt (Nat.lt_succ_self _))
  have J := Inv.made (C := C) I
  have args : Vals (V.ref (s.heap.objs.size + 1) :: (vs ++ dvs)) (Value.ref (s.heap.objs.size + 1) :: (us ++ ds)) := .cons rfl (r.append hd)
  have many : (Value.ref (s.heap.objs.size + 1) :: us ++ ds).length = ps.length := by
    have e := args.length
    rw [F.size _ _ _ _ go_] at e
    exact e.symm
  refine wpAny_call (make_map (f := f) I.kIn M.makes M.init (beq_iff_eq.mp M.fn) (codeAny_mono (F.go _ X.stack _ _ ⟨Value.ref (s.heap.objs.size + 1) :: us, []⟩ (Value.ref (s.heap.objs.size + 1) :: (us ++ ds)) _ _ E ⟨hr.r.make C us [], underG hr.g⟩
    (J.env0.make C us []) (hb _ (Value.ref (s.heap.objs.size + 1) :: us) J.kIn many) args go_) fun r s' end_ => ?_))
  cases r with
  | error e => exact hx pins _ _ e s' J end_
  | ok fw =>
    cases fw with
    | ret u =>
      obtain ⟨v, H', J3, rel_, same_, fin_⟩ := J.after end_
      subst same_
      exact ⟨rel_, ⟨V.ref (s.heap.objs.size + 1), H', J3, rfl, fin_⟩⟩
    | next => exact False.elim end_
    | brk => exact False.elim end_
    | cont => exact False.elim end_
theorem fe_make {np : Nat} {x : Str} {p : Pos} {c na : Nat} {C f : Addr} {e : Expr} {es : List Expr} {k : Nat} {fd : FuncData} {ps : List Str} {sem : Sem3} {fa : FnA} {dds : List D} {dvs : List V} {us : List Value} (tk : Takes X W) (M : MakeOk X T c C f na) (F : FnL X.prog X.w X.K X.mg X.base T k f fd ps sem) (hr : RoomG (k + 1) X.A) (hg : Gl X x) (hm : X.mg x = some (.ref C))
    (hb : Binds X.K fd ps us) (D0 : Dfl X.K T dds dvs us) (ha : FA X T W (e :: es) fa) (hdb : (x == ("__debug__" : Str)) = false := by decide) (he : starEach (e :: es) X.env = (false, eval e X.env) :: starEach es X.env := by rfl) (hpl : (backTo pos (starEach es X.env)).any (·.1) = false := by rfl)  (hnp : ps.length = np := by rfl) :
    FE X T W (.Call (.Name x p) (e :: es) [] pos) (eMake c na np sem fa dds) := by
  subst hnp
  obtain ⟨nm, hc, hna⟩ := M.cls
  refine ⟨fun pins s σ H Q I h => ?_⟩
  refine wpAny_Call_Name_kw (ld_glob I hg hm ?_ hdb)
  have h' : tA X.K T W fa σ H fun vs H1 => ∀ x dx, H1 x = none → H1 dx = none → dx ≠ x → sp3 X.K T ps.length sem (.ref x :: (vs ++ dvs)) (upd (upd H1 dx (.own x)) x (.ins C dx [])) (fun v H2 => v = .non ∧ Q (.ref x) H2) (WE W σ) :=
    tF.bind (k := fun _ => kMake c na ps.length sem dds) h fun G δ ds vs h1 H1 r1 s1 d1 o1 x dx => make_read hc hna D0 r1 d1 o1 x dx
  refine PySem.W.callWith_K (h₀ := X.base) I.ok.mod.kin M.make.kp (thn (ha.run pos pins s σ H _ I h') fun us s1 ⟨vs, H1, I1, r, q⟩ => ⟨I1.kIn, ?_⟩) he hpl
  exact run_makeS M.make F hr hb D0.val (passAt tk σ) I1 r q
/-! ### a property -/
def noX (r : R D) : R D := match r with
  | .ok d h => .ok d h
  | _ => .stk
def kProp (c np : Nat) (sem : Sem3) (x : D) (h : Hh) : R D := if clsOf h x = some c ∧ np = 1 then noX (sem [x] h) else .stk
def eProp (c np : Nat) (sem : Sem3) (fo : FnE) : FnE := fun δ h => (fo δ h).bind (kProp c np sem)
theorem fe_prop {np : Nat} {c : Nat} {C p g : Addr} {f : Str} {e : Expr} {k : Nat} {fd : FuncData} {ps : List Str} {sem : Sem3} {fo : FnE} (hcl : ∃ nm, T.cls c = some (C, nm)) (cl : Cls X.K C) (hp : PropOf X.K C f p g) (F : FnL X.prog X.w X.K X.mg X.base T k g fd ps sem) (hr : RoomG (k + 1) X.A) (hb : Binds X.K fd ps [])
    (ho : FE X T W e fo) (hab : attributeBase e f X.env (eval e X.env) = eval e X.env := by rfl) (hnp : ps.length = np := by rfl) : FE X T W (.Attribute e f pos) (eProp c np sem fo) := by
  subst hnp
  obtain ⟨nm, hcl⟩ := hcl
  refine ⟨fun pins s σ H Q I h => ?_⟩
  have h' : tE X.K T W fo σ H fun x H1 => ∃ a dx fs, x = .ref a ∧ H1 a = some (.ins C dx fs) ∧ sp3 X.K T ps.length sem [x] H1 Q E0 := by
    refine tF.bind (k := fun _ => kProp c ps.length sem) h fun G δ x v h1 H1 r1 s1 d1 o1 => ?_
    unfold kProp at o1
    by_cases hc : clsOf h1 x = some c ∧ ps.length = 1
    · rw [if_pos hc] at o1
      obtain ⟨a, C', dx, nm', fs, rfl, q1, q2, _⟩ := clsOf_ok r1 d1 hc.1
      rw [hcl] at q2; cases q2
      refine ⟨a, dx, fs, rfl, q1, hc.2.symm, G, h1, [x], r1, .cons d1 .nil, ?_⟩
      cases es : sem [x] h1 with
      | ok y hh => rw [es] at o1; exact o1
      | exc c es' hh => rw [es] at o1; exact o1.elim
      | stk => rw [es] at o1; exact o1.elim
    · rw [if_neg hc] at o1; exact o1.elim
  refine attr_of hab (thn (ho.run pins s σ H _ I h') fun u s1 ⟨x, H1, J, rx, a, dx, fs, ex, ea, q⟩ => ?_)
  subst ex
  obtain rfl : u = Value.ref a := rx
  obtain ⟨mA, O, _⟩ := ins_get J.hok ea
  obtain ⟨od, look, _⟩ := O.look
  obtain ⟨rest, getter⟩ := hp.rec_
  have J1 := J.tok (s1.toks + 1)
  have isC : (PySem.W.clsIn X.K C).isSome = true := by
    obtain ⟨cd, e, _⟩ := PySem.W.any_some cl.hd
    rw [e]; rfl
  have one_ : ([Value.ref a] ++ ([] : List Value)).length = ps.length := q.1
  refine PySem.W.get_bind J.kIn look (PySem.W.plainGet_of (cl.get f)).1 (PySem.W.findObj_data isC hp.at_ hp.get hp.tak) (PySem.W.plainGet_of (cl.get f)).2 (wpAny_call (PySem.W.prop_get (s := { s1 with toks := s1.toks + 1 }) J.kIn getter ?_))
  refine codeAny_mono (F.go X.A.in1 X.stack { s1 with toks := s1.toks + 1 } H1 ⟨[.ref a], []⟩ [.ref a] [.ref a] Q E0 ⟨hr.r.in1, hr.g⟩ J1.env0.in1 (hb { s1 with toks := s1.toks + 1 } [.ref a] J1.kIn one_) (.cons rfl .nil) q) fun r s' e => ?_
  match r, e with
  | .error er, e => exact False.elim ((passL : Passes (L2.CX X.prog X.w) X.nox E0) pins σ H1 _ er s' (J1.wish _) e)
  | .ok (.ret u), e =>
    obtain ⟨v, H', J3, rv, q3⟩ := J1.after e
    show wpAny _ _ (handedOut u) _ _ _
    rw [PySem.W.handedOut_of (handed_of rv)]
    exact wpAny_pure ⟨v, H', J3, rv, q3⟩
  | .ok .next, e => exact e.elim
  | .ok .brk, e => exact e.elim
  | .ok .cont, e => exact e.elim
/-! ### built-ins by their values -/
abbrev FB := List D → Hh → R D
def CallS (X : Cx) (T : Tx) (rd : List V → Hp → VK → Prop) (g : FB) : Prop := ∀ (W : WX) G h H σ ds vs Q, Rel X.K T G h H → RDs X.K T G ds vs → okR X.K T W G σ (RD X.K T) (g ds h) Q → rd vs H Q
def eB (g : FB) (fa : FnA) : FnE := fun δ h => (fa δ h).bind g
theorem fe_b {x : Str} {p : Pos} {e : Expr} {es : List Expr} {id : String} {rd : List V → Hp → VK → Prop} {g : FB} {fa : FnA} (hc : CallR X (.builtin id) rd) (hs : CallS X T rd g) (hg : Gl X x) (hm : X.mg x = none) (hv : bootBuiltins x = some (.builtin id)) (ha : FA X T W (e :: es) fa) (hn : x ≠ "__name__" := by decide) (hdb : (x == ("__debug__" : Str)) = false := by decide)
    (he : starEach (e :: es) X.env = (false, eval e X.env) :: starEach es X.env := by rfl) (hpl : (backTo pos (starEach es X.env)).any (·.1) = false := by rfl) : FE X T W (.Call (.Name x p) (e :: es) [] pos) (eB g fa) := by
  refine PE.imp (pe_callB hc hg hm hv ha hn hdb he hpl) fun σ H Q h => ?_
  exact tF.bind (k := fun _ => g) h fun G δ ds vs h1 H1 r1 s1 d1 o1 => hs W G h1 H1 σ ds vs Q r1 d1 o1
theorem fe_bt {x : Str} {p : Pos} {e : Expr} {es : List Expr} {id : String} {rd : List V → Hp → VK → Prop} {g : FB} {fa : FnA} (hc : CallR X (.type id) rd) (hs : CallS X T rd g) (hg : Gl X x) (hm : X.mg x = none) (hv : bootBuiltins x = some (.type id)) (ha : FA X T W (e :: es) fa) (hn : x ≠ "__name__" := by decide) (hdb : (x == ("__debug__" : Str)) = false := by decide)
    (he : starEach (e :: es) X.env = (false, eval e X.env) :: starEach es X.env := by rfl) (hpl : (backTo pos (starEach es X.env)).any (·.1) = false := by rfl) : FE X T W (.Call (.Name x p) (e :: es) [] pos) (eB g fa) := by
  refine PE.imp (pe_callTy hc hg hm hv ha hn hdb he hpl) fun σ H Q h => ?_
  exact tF.bind (k := fun _ => g) h fun G δ ds vs h1 H1 r1 s1 d1 o1 => hs W G h1 H1 σ ds vs Q r1 d1 o1
/-- of one value -/
def one (g : D → Hh → R D) : FB := fun ds h => match ds with
  | [x] => g x h
  | _ => .stk
/-! len -/
def lenD (x : D) (h : Hh) : R D := match x with
  | .tup xs => .ok (.int xs.length) h
  | .scr xs => .ok (.int xs.length) h
  | .str x => if lineOk x.length = true then .ok (.int x.length) h else .stk
  | x => match asL h x with
    | some xs => .ok (.int xs.length) h
    | none => .stk
abbrev lenB : FB := one lenD
def rLenA (K : PySem.W.Frag) : List V → Hp → VK → Prop := fun xs H Q => ∃ x n, xs = [x] ∧ LenV K x H n ∧ Q (.int n) H
theorem cs_len : CallS X T (rLenA X.K) lenB := by
  intro W G h H σ ds vs Q r d o
  match ds, vs, d with
  | [], _, _ => exact o.elim
  | _ :: _ :: _, _, _ => exact o.elim
  | [x], [v], .cons d1 .nil =>
    have lists : (match asL h x with
      | some xs => R.ok (.int xs.length) h
      | none => .stk) = lenB [x] h → rLenA X.K [v] H Q := fun e => by
      rw [← e] at o
      cases ex : asL h x with
      | none => rw [ex] at o; exact o.elim
      | some xs =>
        rw [ex] at o
        obtain ⟨a, ws, rfl, h1, q1⟩ := asL_ok r d1 ex
        exact ⟨_, ws.length, rfl, .inl ⟨ws, .inl (.inl h1), rfl⟩, by rw [← q1.length]; exact o.at r .int⟩
    cases d1 with
    | @tup xs a ws h1 q1 => exact ⟨_, ws.length, rfl, .inr ⟨ws, SqT.sub r.sub h1, rfl⟩, by rw [← q1.length]; exact o.at r .int⟩
    | @scr xs a ws h1 q1 => exact ⟨_, ws.length, rfl, .inl ⟨ws, SqL.sub r.sub h1, rfl⟩, by rw [← q1.length]; exact o.at r .int⟩
    | @str x =>
      have o : okR X.K T W G σ (RD X.K T) (if lineOk x.length = true then R.ok (.int x.length) h else .stk) Q := o
      by_cases hl : lineOk x.length = true
      · rw [if_pos hl] at o
        refine ⟨_, x.length, rfl, ⟨?_, ?_⟩, o.at r .int⟩
        · show x.toArray.size ≤ sizeLine
          simpa using lineOk_le hl
        · show x.length = x.toArray.size
          simp
      · rw [if_neg hl] at o; exact o.elim
    | _ => first | exact lists rfl | exact o.elim
/-! tuple(x), list(x): frozen; list(x) that will be changed -/
def tupleD (x : D) (h : Hh) : R D := match x with
  | .tup xs => .ok (.tup xs) h
  | x => match asL h x with
    | some xs => .ok (.tup xs) h
    | none => .stk
abbrev tupleB : FB := one tupleD
def rTupA (K : PySem.W.Frag) : List V → Hp → VK → Prop := fun xs H Q => ∃ p ys, xs = [.ref p] ∧ ((SqL K H p ys ∧ ∀ l, H l = none → Q (.ref l) (upd H l (.tup ys))) ∨ (SqT K H p ys ∧ Q (.ref p) H))
theorem cs_tuple : CallS X T (rTupA X.K) tupleB := by
  intro W G h H σ ds vs Q r d o
  match ds, vs, d with
  | [], _, _ => exact o.elim
  | _ :: _ :: _, _, _ => exact o.elim
  | [x], [v], .cons d1 .nil =>
    have lists : (match asL h x with
      | some xs => R.ok (.tup xs) h
      | none => .stk) = tupleB [x] h → rTupA X.K [v] H Q := fun e => by
      rw [← e] at o
      cases ex : asL h x with
      | none => rw [ex] at o; exact o.elim
      | some xs =>
        rw [ex] at o
        obtain ⟨a, ws, rfl, h1, q1⟩ := asL_ok r d1 ex
        exact ⟨a, ws, rfl, .inl ⟨.inl (.inl h1), fun l hl => newTup r q1 hl o⟩⟩
    cases d1 with
    | @tup xs a ws h1 q1 => exact ⟨a, ws, rfl, .inr ⟨SqT.sub r.sub h1, o.at r (.tup h1 q1)⟩⟩
    | _ => first | exact lists rfl | exact o.elim
def asSeq (h : Hh) : D → Option (List D)
  | .tup ds => some ds
  | .scr ds => some ds
  | x => asL h x
def listB : FB := fun ds h => match ds with
  | [x] => match asSeq h x with
    | some xs => .ok (.lst xs) h
    | none => .stk
  | _ => .stk
def listMB : FB := fun ds h => match ds with
  | [x] => match asSeq h x with
    | some xs => .ok (.ref h.length) (h ++ [.lst xs])
    | none => .stk
  | _ => .stk
def rListA (K : PySem.W.Frag) : List V → Hp → VK → Prop := fun xs H Q => ∃ p ys, xs = [.ref p] ∧ (SqL K H p ys ∨ SqT K H p ys) ∧ ∀ l, H l = none → Q (.ref l) (upd H l (.lst ys))
theorem asSeq_ok {K : PySem.W.Frag} {G : Gst} {h : Hh} {H : Hp} {d : D} {v : V} {ds : List D} (r : Rel K T G h H) (d1 : RD K T G d v) (e : asSeq h d = some ds) : ∃ a vs, v = .ref a ∧ (SqL K H a vs ∨ SqT K H a vs) ∧ RDs K T G ds vs := by
  cases d1 with
  | tup h1 q => cases e; exact ⟨_, _, rfl, .inr (SqT.sub r.sub h1), q⟩
  | scr h1 q => cases e; exact ⟨_, _, rfl, .inl (SqL.sub r.sub h1), q⟩
  | lst h1 q => cases e; exact ⟨_, _, rfl, .inl (.inl (.inl (r.sub _ _ h1))), q⟩
  | ref h1 =>
    obtain ⟨a, vs, ev, h2, q⟩ := asL_ok r (.ref h1) (show asL h (.ref _) = some ds from e)
    exact ⟨a, vs, ev, .inl (.inl (.inl h2)), q⟩
  | _ => cases e
theorem cs_list : CallS X T (rListA X.K) listB := by
  intro W G h H σ ds vs Q r d o
  match ds, vs, d with
  | [], _, _ => exact o.elim
  | _ :: _ :: _, _, _ => exact o.elim
  | [x], [v], .cons d1 .nil =>
    unfold listB at o
    dsimp only at o
    cases ex : asSeq h x with
    | none => rw [ex] at o; exact o.elim
    | some xs =>
      rw [ex] at o
      obtain ⟨a, ws, rfl, h1, q1⟩ := asSeq_ok r d1 ex
      exact ⟨a, ws, rfl, h1, fun l hl => newLst r q1 hl o⟩
theorem cs_listM : CallS X T (rListA X.K) listMB := by
  intro W G h H σ ds vs Q r d o
  match ds, vs, d with
  | [], _, _ => exact o.elim
  | _ :: _ :: _, _, _ => exact o.elim
  | [x], [v], .cons d1 .nil =>
    unfold listMB at o
    dsimp only at o
    cases ex : asSeq h x with
    | none => rw [ex] at o; exact o.elim
    | some xs =>
      rw [ex] at o
      obtain ⟨a, ws, rfl, h1, q1⟩ := asSeq_ok r d1 ex
      exact ⟨a, ws, rfl, h1, fun l hl => newLstM r q1 hl o⟩
/-! int, abs, max, min of ints; sum, all, any -/
def intD (x : D) (h : Hh) : R D := match x with
  | .int i => .ok (.int i) h
  | .bl k => .ok (.int (if k then 1 else 0)) h
  | _ => .stk
abbrev intB : FB := one intD
theorem cs_int : CallS X T (fun xs H Q => (∃ i, xs = [.int i] ∧ Q (.int i) H) ∨ ∃ k, xs = [.bl k] ∧ Q (.int (if k then 1 else 0)) H) intB := by
  intro W G h H σ ds vs Q r d o
  match ds, vs, d with
  | [], _, _ => exact o.elim
  | _ :: _ :: _, _, _ => exact o.elim
  | [x], [v], .cons d1 .nil =>
    cases d1 with
    | int => exact .inl ⟨_, rfl, o.at r .int⟩
    | bl => exact .inr ⟨_, rfl, o.at r .int⟩
    | _ => exact o.elim
def absD (x : D) (h : Hh) : R D := match x with
  | .int i => .ok (.int (if i < 0 then -i else i)) h
  | _ => .stk
abbrev absB : FB := one absD
theorem cs_abs : CallS X T (fun xs H Q => ∃ i, xs = [.int i] ∧ Q (.int (if i < 0 then -i else i)) H) absB := by
  intro W G h H σ ds vs Q r d o
  match ds, vs, d with
  | [], _, _ => exact o.elim
  | _ :: _ :: _, _, _ => exact o.elim
  | [x], [v], .cons d1 .nil =>
    cases d1 with
    | int => exact ⟨_, rfl, o.at r .int⟩
    | _ => exact o.elim
def max2B : FB := fun ds h => match ds with
  | [.int i, .int j] => .ok (.int (if j > i then j else i)) h
  | _ => .stk
def min2B : FB := fun ds h => match ds with
  | [.int i, .int j] => .ok (.int (if j < i then j else i)) h
  | _ => .stk
theorem two_ints {K : PySem.W.Frag} {G : Gst} {ds : List D} {vs : List V} {P : Prop} (d : RDs K T G ds vs) (k : ∀ i j, ds = [.int i, .int j] → vs = [.int i, .int j] → P) (n : (∀ i j, ds ≠ [.int i, .int j]) → P) : P := by
  match ds, vs, d with
  | [x, y], [v, w], .cons d1 (.cons d2 .nil) =>
    cases d1 with
    | int => cases d2 with
      | int => exact k _ _ rfl rfl
      | _ => exact n (fun _ _ z => by cases z)
    | _ => exact n (fun _ _ z => by cases z)
  | [], _, _ => exact n (fun _ _ z => by cases z)
  | [_], _, _ => exact n (fun _ _ z => by cases z)
  | _ :: _ :: _ :: _, _, _ => exact n (fun _ _ z => by cases z)
theorem cs_max2 : CallS X T (fun xs H Q => ∃ i j, xs = [.int i, .int j] ∧ Q (.int (if j > i then j else i)) H) max2B := by
  intro W G h H σ ds vs Q r d o
  refine two_ints d (fun i j e1 e2 => ?_) fun n => ?_
  · subst e1; subst e2; exact ⟨i, j, rfl, o.at r .int⟩
  · unfold max2B at o
    split at o
    · exact absurd rfl (n _ _)
    · exact o.elim
theorem cs_min2 : CallS X T (fun xs H Q => ∃ i j, xs = [.int i, .int j] ∧ Q (.int (if j < i then j else i)) H) min2B := by
  intro W G h H σ ds vs Q r d o
  refine two_ints d (fun i j e1 e2 => ?_) fun n => ?_
  · subst e1; subst e2; exact ⟨i, j, rfl, o.at r .int⟩
  · unfold min2B at o
    split at o
    · exact absurd rfl (n _ _)
    · exact o.elim
def intsOf : List D → Option (List Int)
  | [] => some []
  | .int i :: r => (intsOf r).map (i :: ·)
  | _ => none
def blsOf : List D → Option (List Bool)
  | [] => some []
  | .bl i :: r => (blsOf r).map (i :: ·)
  | _ => none
theorem intsOf_ok {K : PySem.W.Frag} {G : Gst} : ∀ {ds : List D} {vs : List V} {ns : List Int}, RDs K T G ds vs → intsOf ds = some ns → vs = ns.map V.int
  | _, _, _, .nil, e => by cases e; rfl
  | _, _, _, .cons d t, e => by
    cases d with
    | int =>
      unfold intsOf at e
      obtain ⟨ms, e1, e2⟩ := Option.map_eq_some_iff.mp e
      subst e2
      rw [intsOf_ok t e1]
      rfl
    | _ => cases e
theorem blsOf_ok {K : PySem.W.Frag} {G : Gst} : ∀ {ds : List D} {vs : List V} {ns : List Bool}, RDs K T G ds vs → blsOf ds = some ns → vs = ns.map V.bl
  | _, _, _, .nil, e => by cases e; rfl
  | _, _, _, .cons d t, e => by
    cases d with
    | bl =>
      unfold blsOf at e
      obtain ⟨ms, e1, e2⟩ := Option.map_eq_some_iff.mp e
      subst e2
      rw [blsOf_ok t e1]
      rfl
    | _ => cases e
def listOf (h : Hh) (ds : List D) : Option (List D) := match ds with
  | [x] => asL h x
  | _ => none
theorem listOf_ok {K : PySem.W.Frag} {G : Gst} {h : Hh} {H : Hp} {ds : List D} {vs : List V} {es : List D} (r : Rel K T G h H) (d : RDs K T G ds vs) (e : listOf h ds = some es) : ∃ a ws, vs = [.ref a] ∧ H a = some (.lst ws) ∧ RDs K T G es ws := by
  match ds, vs, d with
  | [], _, _ => cases e
  | _ :: _ :: _, _, _ => cases e
  | [x], [v], .cons d1 .nil =>
    obtain ⟨a, ws, ev, h1, q⟩ := asL_ok r d1 e
    exact ⟨a, ws, by rw [ev], h1, q⟩
def sumB : FB := fun ds h => match (listOf h ds).bind intsOf with
  | some ns => .ok (.int ns.sum) h
  | none => .stk
def allB : FB := fun ds h => match (listOf h ds).bind blsOf with
  | some bs => .ok (.bl (bs.all id)) h
  | none => .stk
def anyB : FB := fun ds h => match (listOf h ds).bind blsOf with
  | some bs => .ok (.bl (bs.any id)) h
  | none => .stk
theorem cs_sum : CallS X T (rSum X.K) sumB := by
  intro W G h H σ ds vs Q r d o
  unfold sumB at o
  cases e : (listOf h ds).bind intsOf with
  | none => rw [e] at o; exact o.elim
  | some ns =>
    rw [e] at o
    obtain ⟨es, e1, e2⟩ := Option.bind_eq_some_iff.mp e
    obtain ⟨a, ws, ev, h1, q⟩ := listOf_ok r d e1
    have := intsOf_ok q e2
    subst this
    exact ⟨a, ns, ev, .inl (.inl h1), o.at r .int⟩
theorem cs_all : CallS X T (rAll X.K) allB := by
  intro W G h H σ ds vs Q r d o
  unfold allB at o
  cases e : (listOf h ds).bind blsOf with
  | none => rw [e] at o; exact o.elim
  | some ns =>
    rw [e] at o
    obtain ⟨es, e1, e2⟩ := Option.bind_eq_some_iff.mp e
    obtain ⟨a, ws, ev, h1, q⟩ := listOf_ok r d e1
    have := blsOf_ok q e2
    subst this
    exact ⟨a, ns, ev, .inl (.inl h1), o.at r .bl⟩
theorem cs_any : CallS X T (rAny X.K) anyB := by
  intro W G h H σ ds vs Q r d o
  unfold anyB at o
  cases e : (listOf h ds).bind blsOf with
  | none => rw [e] at o; exact o.elim
  | some ns =>
    rw [e] at o
    obtain ⟨es, e1, e2⟩ := Option.bind_eq_some_iff.mp e
    obtain ⟨a, ws, ev, h1, q⟩ := listOf_ok r d e1
    have := blsOf_ok q e2
    subst this
    exact ⟨a, ns, ev, .inl (.inl h1), o.at r .bl⟩
end
end L3
set_option autoImplicit false
set_option maxHeartbeats 4000000
/-! L3H: zip, enumerate, isinstance. -/
namespace L3
open PySem PySem.Spec L2
/-! ### zip of two, each a list or a tuple -/
def SqX (K : PySem.W.Frag) : Bool → Hp → Addr → List V → Prop
  | true, H, a, xs => SqT K H a xs
  | false, H, a, xs => SqL K H a xs
def HasX : Bool → Heap → Addr → Array Value → Prop
  | true, h, a, x => h.IsTuple a x
  | false, h, a, x => h.IsList a x
def IterX : Bool → Heap → Addr → Addr → Nat → Prop
  | true, h, it, a, i => h.IsTupleIter it a i
  | false, h, it, a, i => h.IsListIter it a i
def objX : Bool → Addr → Obj
  | true, a => { cls := .type "tuple_iterator", data := .fields #[.ref a, .int 0 0] }
  | false, a => { cls := .type "list_iterator", data := .fields #[.ref a, .int 0 0] }
theorem drawsX {prog : Program} {w : World} {A : Around} (hh : A.handled = none) (b : Bool) (it l : Addr) (hne : l ≠ it) (items : Array Value) :
    Draws prog w A it [it, l] items.size (fun i v => items[i]? = some v) (fun i h => IterX b h it l i ∧ HasX b h l items) := by
  cases b with
  | true => exact Draws.tuple hh it l hne items
  | false => exact Draws.list hh it l hne items
theorem beginsX (b : Bool) (l : Addr) (items : Array Value) : Begins (.ref l) (objX b l) fun h => HasX b h l items := by
  cases b with
  | true => exact begins_tuple l items
  | false => exact begins_list l items
theorem iterX_of {b : Bool} {h : Heap} {it a : Addr} (e : h.get? it = some (objX b a)) : IterX b h it a 0 := by
  cases b with
  | true => exact ⟨_, e, rfl, rfl⟩
  | false => exact ⟨_, e, rfl, rfl⟩
theorem IterX.at {b : Bool} {h h' : Heap} {it a : Addr} {i : Nat} (x : IterX b h it a i) (k : ∀ o, h.get? it = some o → h'.get? it = some o) : IterX b h' it a i := by
  cases b with
  | true => exact Heap.IsTupleIter.at x k
  | false => exact Heap.IsListIter.at x k
theorem IterX.obj {b : Bool} {h : Heap} {it a : Addr} {i : Nat} (x : IterX b h it a i) : ∃ o, h.get? it = some o ∧ ∀ v, o.data ≠ .cell v := by
  cases b with
  | true => obtain ⟨o, e, _, d⟩ := x; exact ⟨o, e, fun v q => by rw [d] at q; cases q⟩
  | false => obtain ⟨o, e, _, d⟩ := x; exact ⟨o, e, fun v q => by rw [d] at q; cases q⟩
theorem HasX.lt {b : Bool} {h : Heap} {a : Addr} {x : Array Value} (q : HasX b h a x) : a < h.objs.size := by
  cases b with
  | true => obtain ⟨o, e, _⟩ := q; exact Heap.lt_size e
  | false => obtain ⟨o, e, _⟩ := q; exact Heap.lt_size e
theorem SqX.has {X : Cx} {pins : List (Addr × Obj)} {σ : L2.St} {H : Hp} {s : Shared} {b : Bool} {a : Addr} {xs : List V} (I : Inv X pins σ H s) (q : SqX X.K b H a xs) : ∃ its : List Value, Vals xs its ∧ HasX b s.heap a its.toArray := by
  cases b with
  | true => obtain ⟨its, r, p, _⟩ := I.tuple q; exact ⟨its, r, p⟩
  | false => obtain ⟨its, r, p, _⟩ := I.list q; exact ⟨its, r, p.isList⟩
theorem SqX.inj {X : Cx} {pins : List (Addr × Obj)} {σ : L2.St} {H : Hp} {s : Shared} {b : Bool} {a : Addr} {xs ys : List V} (I : Inv X pins σ H s) (q : SqX X.K b H a xs) (q' : SqX X.K b H a ys) : xs = ys := by
  cases b with
  | true => exact I.tuple_inj q q'
  | false => exact I.list_inj q q'
def ItzX (K : PySem.W.Frag) (b1 b2 : Bool) (a b : Addr) : It :=
  ⟨fun i H => ∃ (xs ys : List V) (x y : V), SqX K b1 H a xs ∧ SqX K b2 H b ys ∧ xs[i]? = some x ∧ ys[i]? = some y,
    fun i H v H' => ∃ T x y, v = .ref T ∧ H T = none ∧ H' = upd H T (.tup [x, y]) ∧ (∀ xs, SqX K b1 H a xs → xs[i]? = some x) ∧ ∀ ys, SqX K b2 H b ys → ys[i]? = some y,
    fun i H => ∃ xs ys : List V, SqX K b1 H a xs ∧ SqX K b2 H b ys ∧ i ≤ xs.length ∧ i ≤ ys.length ∧ (i = xs.length ∨ i = ys.length)⟩
theorem sep_of {a b z TI TO i1 i2 : Addr} (D : ZipApart z TI TO i1 i2 a b) : ZipSep2 z TI TO i1 i2 [i1, a] [i2, b] where
  TIz := D.TIz
  TOz := D.TOz
  TITO := D.TITO
  TIi1 := D.TIi1
  mem1 := by simp
  zf1 := by simp [Ne.symm D.i1z, Ne.symm D.l1z]
  Tf1 := by simp [D.TOi1, Ne.symm D.l1TO]
  TIi2 := D.TIi2
  mem2 := by simp
  zf2 := by simp [Ne.symm D.i2z, Ne.symm D.l2z]
  Tf2 := by simp [D.TOi2, Ne.symm D.l2TO]
  sep1_2 := by simp [D.i12, Ne.symm D.l2i1]
  sep2_1 := by simp [Ne.symm D.i12, Ne.symm D.l1i2]
theorem turn_zipX {P : Program} {w : World} {K : PySem.W.Frag} {elts : List Expr} {kk : Nat} {tpos : Pos} (b1 b2 : Bool) {a b z TI TO i1 i2 : Addr} (D : ZipApart z TI TO i1 i2 a b) :
    Turn P w K (.Tuple elts kk tpos) (ItzX K b1 b2 a b) [z, TI, TO, i1, i2] z (fun i h => IsZip h z TI TO .none ∧ IsPair h TI (.ref i1) (.ref i2) ∧ (∃ x y, IsPair h TO x y) ∧ IterX b1 h i1 a i ∧ IterX b2 h i2 b i) where
  mem := by simp
  obj := fun i h st0 c hc => by
    obtain ⟨hz, hTI, ⟨x, y, hTO⟩, j1, j2⟩ := st0
    have alt : (((c = z ∨ c = TI) ∨ c = TO) ∨ c = i1) ∨ c = i2 := by simpa [or_assoc] using hc
    rcases alt with (((q | q) | q) | q) | q <;> subst q
    · exact ⟨_, hz, fun v q => nomatch q⟩
    · exact ⟨_, hTI, fun v q => nomatch q⟩
    · exact ⟨_, hTO, fun v q => nomatch q⟩
    · exact j1.obj
    · exact j2.obj
  keep := fun i h h' st0 k => by
    obtain ⟨hz, hTI, ⟨x, y, hTO⟩, j1, j2⟩ := st0
    exact ⟨k z (by simp) _ hz, k TI (by simp) _ hTI, ⟨x, y, k TO (by simp) _ hTO⟩, j1.at fun o q => k i1 (by simp) o q, j2.at fun o q => k i2 (by simp) o q⟩
  item := by
    intro X hP hw hK hc i pins s σ H E I free_ st0 go_
    subst hP hw hK
    obtain ⟨hz, hTI, ⟨x0, y0, hTO⟩, j1, j2⟩ := st0
    obtain ⟨xs, ys, x, y, qa, qb, ix, iy⟩ := go_
    obtain ⟨us1, va, p⟩ := qa.has I
    obtain ⟨us2, vb, p2⟩ := qb.has I
    obtain ⟨p1v, gu, wa⟩ := va.get ix
    obtain ⟨p2v, gu2, wb⟩ := vb.get iy
    have lt1 : i < us1.toArray.size := by have := (List.getElem?_eq_some_iff.mp gu).1; simpa using this
    have lt2 : i < us2.toArray.size := by have := (List.getElem?_eq_some_iff.mp gu2).1; simpa using this
    have zl : z < s.heap.objs.size := Heap.lt_size hz
    have D1 := drawsX (prog := X.prog) (w := X.w) (A := X.A.in1) (I.ok.hd hc) b1 i1 a D.l1i1 us1.toArray
    have D2 := drawsX (prog := X.prog) (w := X.w) (A := X.A.in1) (I.ok.hd hc) b2 i2 b D.l2i2 us2.toArray
    refine wpAny_pyNext_zipD2_item (sep_of D) D1 D2 hz hTI hTO ⟨j1, p⟩ ⟨j2, p2⟩ lt1 lt2 fun x1 x2 h' tk y1 y2 zn out_ st1 st2 hT size_ kept_ => ?_
    have e1 : x1 = p1v := by simp at y1; rw [gu] at y1; exact (Option.some.inj y1).symm
    have e2 : x2 = p2v := by simp at y2; rw [gu2] at y2; exact (Option.some.inj y2).symm
    subst e1
    subst e2
    refine ⟨_, rfl, wpAny_letOwnedTupleGo_zip (s := { s with heap := h', toks := tk }) zn fun h'' zn2 same_ => ?_⟩
    have pair_ : h''.get? s.heap.objs.size = some { cls := .type "tuple", data := .seq #[x1, x2] } := (same_.2 _ (Nat.ne_of_gt zl)).trans hT
    have laid : ObjOk X.prog X.w (upd H s.heap.objs.size (.tup [x, y])) h'' s.heap.objs.size (.tup [x, y]) :=
      ⟨by show 2 ≤ sizeLine; decide, [x1, x2], .cons wa (.cons wb .nil), ⟨_, pair_, rfl, _, rfl⟩⟩
    have J1 : Inv X pins σ (upd H s.heap.objs.size (.tup [x, y])) { s with heap := h'', toks := tk } :=
      I.turnedNew (t' := tk) (ch := [z, TI, TO, i1, i2]) (fun c o hb q => (same_.2 c (fun q' => hb (by simp [q']))).trans (kept_ c o (fun q' => hb (by simp [q'])) (fun q' => hb (by simp [q'])) (fun q' => hb (by simp [q'])) (fun q' => hb (by simp [q'])) q)) free_ (Nat.le_refl _) laid
    refine ⟨.ref s.heap.objs.size, _, J1, rfl, ⟨_, x, y, rfl, I.hok.fresh (Nat.le_refl _), rfl, fun l hl => by rw [SqX.inj I hl qa]; exact ix, fun l hl => by rw [SqX.inj I hl qb]; exact iy⟩, ⟨zn2, ?_, ⟨x1, x2, ?_⟩, ?_, ?_⟩, fun c mem_ => ?_⟩
    · exact (same_.2 _ D.TIz).trans (kept_ _ _ D.TIz D.TITO D.TIi1 D.TIi2 hTI)
    · exact (same_.2 _ D.TOz).trans out_
    · exact st1.1.at fun o q => (same_.2 _ D.i1z).trans q
    · exact st2.1.at fun o q => (same_.2 _ D.i2z).trans q
    · have below : c < s.heap.objs.size := by
        have alt : (((c = z ∨ c = TI) ∨ c = TO) ∨ c = i1) ∨ c = i2 := by simpa [or_assoc] using mem_
        rcases alt with (((q | q) | q) | q) | q
        · rw [q]; exact zl
        · rw [q]; exact Heap.lt_size hTI
        · rw [q]; exact Heap.lt_size hTO
        · rw [q]; obtain ⟨_, e1, _⟩ := j1.obj; exact Heap.lt_size e1
        · rw [q]; obtain ⟨_, e2, _⟩ := j2.obj; exact Heap.lt_size e2
      rw [upd_ne (Nat.ne_of_lt below)]
      exact (free_ c mem_).1
  done := by
    intro X hP hw hK hc i pins s σ H E I free_ st0 go_
    subst hP hw hK
    obtain ⟨hz, hTI, ⟨x0, y0, hTO⟩, j1, j2⟩ := st0
    obtain ⟨xs, ys, qa, qb, l1, l2, end_⟩ := go_
    obtain ⟨us1, va, p⟩ := qa.has I
    obtain ⟨us2, vb, p2⟩ := qb.has I
    have n1 := va.length
    have n2 := vb.length
    have D1 := drawsX (prog := X.prog) (w := X.w) (A := X.A.in1) (I.ok.hd hc) b1 i1 a D.l1i1 us1.toArray
    have D2 := drawsX (prog := X.prog) (w := X.w) (A := X.A.in1) (I.ok.hd hc) b2 i2 b D.l2i2 us2.toArray
    exact wpAny_pyNext_zipD2_end (sep_of D) D1 D2 hz hTI hTO ⟨j1, p⟩ ⟨j2, p2⟩ (by simp; omega) (by simp; omega) (by simp; omega) fun h' tk kept_ => ⟨rfl, I.turnedL (t' := tk) (ch := [z, TI, TO, i1, i2]) (fun c o hb q =>
      kept_ c o (fun q' => hb (by simp [q'])) (fun q' => hb (by simp [q'])) (fun q' => hb (by simp [q'])) (fun q' => hb (by simp [q'])) q) free_⟩
  self := fun A i s Q E st0 h => wpAny_pyIter_zip st0.1 h
def iZipX (K : PySem.W.Frag) (ta : TA) : TI := fun σ H R => ta σ H fun vs H1 => ∃ b1 b2 a b xs ys, vs = [.ref a, .ref b] ∧ SqX K b1 H1 a xs ∧ SqX K b2 H1 b ys ∧ R (ItzX K b1 b2 a b) H1
theorem pi_zipX {X : Cx} {e e2 : Expr} {ta : TA} {p pos tpos : Pos} {elts : List Expr} {kk : Nat} (go_ : Gl X "zip") (hm : X.mg "zip" = none) (ha : PA X [e, e2] ta)
    (hs : starEach [e, e2] X.env = (false, eval e X.env) :: starEach [e2] X.env := by rfl) (hpl : (backTo pos (starEach [e2] X.env)).any (·.1) = false := by rfl) :
    PI X (.Tuple elts kk tpos) (.Call (.Name "zip" p) [e, e2] [] pos) (iZipX X.K ta) := by
  refine ⟨fun pins s σ H R I h => ?_⟩
  refine PyProof.Rows.Call_ (ld_blt I go_ hm PyProof.Rows.boot_zip (PyProof.Rows.callWith_type1 (thn (ha.run pos pins s σ H _ I h) fun us sh ⟨vs, H1, J1, r1, q1⟩ => ?_) hs hpl))
  obtain ⟨b1, b2, a, b, xs, ys, ex, qa, qb, q⟩ := q1
  subst ex
  cases r1 with
  | cons r rr =>
    cases rr with
    | cons r' rr =>
      cases rr
      cases r
      cases r'
      obtain ⟨us1, va, p1⟩ := qa.has J1
      obtain ⟨us2, vb, p2⟩ := qb.has J1
      refine zip_begins2 (beginsX b1 a us1.toArray) (beginsX b2 b us2.toArray) p1 p2 fun h' hz hTI hTO h1 h2 size_ kept_ => wpAny_pyIter_zip hz ?_
      have J2 : Inv X pins σ H1 { sh with heap := h' } := J1.kept (t' := sh.toks) kept_
      refine ⟨sh.heap.objs.size + 4, [sh.heap.objs.size + 4, sh.heap.objs.size + 2, sh.heap.objs.size + 3, sh.heap.objs.size, sh.heap.objs.size + 1], _, _, H1, rfl, J2, turn_zipX b1 b2 (PySem.W.ktu_apart sh.heap.objs.size a b p1.lt p2.lt), ⟨hz, hTI, ⟨_, _, hTO⟩, iterX_of h1, iterX_of h2⟩, fun c mem_ => ?_, q⟩
      have after_ : sh.heap.objs.size ≤ c := by
        have alt : c = sh.heap.objs.size + 4 ∨ c = sh.heap.objs.size + 2 ∨ c = sh.heap.objs.size + 3 ∨ c = sh.heap.objs.size ∨ c = sh.heap.objs.size + 1 := by simpa using mem_
        rcases alt with z | z | z | z | z <;> (rw [z]; omega)
      exact J1.fpOk after_ (J1.hok.fresh after_)
section
variable {X : Cx} {T : Tx} {W : WX} {pos : Pos}
/-- what never changes and is walked -/
def immS : D → Option (Bool × List D)
  | .tup ds => some (true, ds)
  | .lst ds => some (false, ds)
  | .scr ds => some (false, ds)
  | _ => none
theorem immS_ok {K : PySem.W.Frag} {G : Gst} {d : D} {v : V} {b : Bool} {ds : List D} (d1 : RD K T G d v) (e : immS d = some (b, ds)) : ∃ a vs, v = .ref a ∧ SqX K b G.fz a vs ∧ RDs K T G ds vs := by
  cases d1 with
  | tup h r => cases e; exact ⟨_, _, rfl, h, r⟩
  | lst h r => cases e; exact ⟨_, _, rfl, .inl (.inl h), r⟩
  | scr h r => cases e; exact ⟨_, _, rfl, h, r⟩
  | _ => cases e
theorem SqX.sub {K : PySem.W.Frag} {b : Bool} {H H' : Hp} {a : Addr} {xs : List V} (s : ∀ a o, H a = some o → H' a = some o) (h : SqX K b H a xs) : SqX K b H' a xs := by
  cases b with
  | true => exact SqT.sub s h
  | false => exact SqL.sub s h
def zipL : List D → List D → List D
  | x :: xs, y :: ys => .tup [x, y] :: zipL xs ys
  | _, _ => []
theorem zipL_len : ∀ xs ys : List D, (zipL xs ys).length = min xs.length ys.length
  | [], _ => by simp [zipL]
  | _ :: _, [] => by simp [zipL]
  | x :: xs, y :: ys => by simp [zipL, zipL_len xs ys]
theorem zipL_get : ∀ (xs ys : List D) (i : Nat) (d : D), (zipL xs ys)[i]? = some d → ∃ x y, xs[i]? = some x ∧ ys[i]? = some y ∧ d = .tup [x, y]
  | [], _, _, _, e => by simp [zipL] at e
  | _ :: _, [], _, _, e => by simp [zipL] at e
  | x :: xs, y :: ys, 0, d, e => by simp [zipL] at e; exact ⟨x, y, rfl, rfl, e.symm⟩
  | x :: xs, y :: ys, i + 1, d, e => by
    obtain ⟨x', y', h1, h2, h3⟩ := zipL_get xs ys i d (by simpa [zipL] using e)
    exact ⟨x', y', by simpa using h1, by simpa using h2, h3⟩
theorem walk_zip {K : PySem.W.Frag} {G : Gst} {b1 b2 : Bool} {a b : Addr} {ds es : List D} {vs ws : List V} (q1 : SqX K b1 G.fz a vs) (q2 : RDs K T G ds vs) (q3 : SqX K b2 G.fz b ws) (q4 : RDs K T G es ws) : Walk3 K T (ItzX K b1 b2 a b) G (zipL ds es) := fun i G2 h2 H2 x r => by
  have z1 : SqX K b1 H2 a vs := SqX.sub r.sub (SqX.sub x.fz q1)
  have z2 : SqX K b2 H2 b ws := SqX.sub r.sub (SqX.sub x.fz q3)
  have l1 := q2.length
  have l2 := q4.length
  refine ⟨fun d e => ?_, fun hl => ⟨vs, ws, z1, z2, ?_⟩⟩
  · obtain ⟨d1, d2, e1, e2, rfl⟩ := zipL_get ds es i d e
    obtain ⟨v, ev, dv⟩ := q2.get e1
    obtain ⟨w, ew, dw⟩ := q4.get e2
    refine ⟨⟨vs, ws, v, w, z1, z2, ev, ew⟩, ?_⟩
    rintro y H3 ⟨p, v', w', rfl, hp, rfl, f1, f2⟩
    have g1 := f1 vs z1
    have g2 := f2 ws z2
    rw [ev] at g1; cases g1
    rw [ew] at g2; cases g2
    obtain ⟨x', r'⟩ := r.newF (o := .tup [v, w]) hp
    exact ⟨_, x', r', .tup (.inl (.inl upd_same)) (.cons ((dv.mono0 x).mono x') (.cons ((dw.mono0 x).mono x') .nil))⟩
  · rw [zipL_len] at hl
    omega
def kZip (ds : List D) (h : Hh) : R (List D) := match ds with
  | [x, y] => match immS x, immS y with
    | some (_, xs), some (_, ys) => .ok (zipL xs ys) h
    | _, _ => .stk
  | _ => .stk
def iZip (fa : FnA) : FnI := fun δ h => (fa δ h).bind kZip
theorem fi_zip {e e2 : Expr} {fa : FnA} {p tpos : Pos} {elts : List Expr} {kk : Nat} (hg : Gl X "zip") (hm : X.mg "zip" = none) (ha : FA X T W [e, e2] fa)
    (hs : starEach [e, e2] X.env = (false, eval e X.env) :: starEach [e2] X.env := by rfl) (hpl : (backTo pos (starEach [e2] X.env)).any (·.1) = false := by rfl) :
    FI X T W (.Tuple elts kk tpos) (.Call (.Name "zip" p) [e, e2] [] pos) (iZip fa) := by
  refine PI.imp (pi_zipX hg hm ha hs hpl) fun σ H Q => ?_
  rintro ⟨G, h0, δ, r, s, o⟩
  refine ⟨G, h0, δ, r, s, (okR.bind (rel := RDs X.K T) o).mono ?_⟩
  rintro vs H1 ⟨G1, ds, h1, e1, r1, d1, o1⟩
  match ds, vs, d1 with
  | [], _, _ => exact o1.elim
  | [_], _, _ => exact o1.elim
  | _ :: _ :: _ :: _, _, _ => exact o1.elim
  | [x, y], [v, w], .cons d1 (.cons d2 .nil) =>
    unfold kZip at o1
    dsimp only at o1
    cases ex : immS x with
    | none => rw [ex] at o1; exact o1.elim
    | some p =>
      cases ey : immS y with
      | none => rw [ex, ey] at o1; exact o1.elim
      | some q =>
        rw [ex, ey] at o1
        obtain ⟨b1, xs⟩ := p
        obtain ⟨b2, ys⟩ := q
        obtain ⟨a, us, rfl, z1, z2⟩ := immS_ok d1 ex
        obtain ⟨b, ws, rfl, z3, z4⟩ := immS_ok d2 ey
        exact ⟨b1, b2, a, b, us, ws, rfl, SqX.sub r1.sub z1, SqX.sub r1.sub z3, o1 G1 H1 _ (Ext.refl G1) r1 (walk_zip z1 z2 z3 z4)⟩
/-! ### enumerate of a list -/
def enumL : Nat → List D → List D
  | _, [] => []
  | k, x :: xs => .tup [.int k, x] :: enumL (k + 1) xs
theorem enumL_len : ∀ (k : Nat) (xs : List D), (enumL k xs).length = xs.length
  | _, [] => rfl
  | k, x :: xs => by simp [enumL, enumL_len (k + 1) xs]
theorem enumL_get : ∀ (k : Nat) (xs : List D) (i : Nat) (d : D), (enumL k xs)[i]? = some d → ∃ x, xs[i]? = some x ∧ d = .tup [.int ((k + i : Nat) : Int), x]
  | _, [], _, _, e => by simp [enumL] at e
  | k, x :: xs, 0, d, e => by simp [enumL] at e; exact ⟨x, rfl, by rw [← e]; simp⟩
  | k, x :: xs, i + 1, d, e => by
    obtain ⟨x', h1, h2⟩ := enumL_get (k + 1) xs i d (by simpa [enumL] using e)
    exact ⟨x', by simpa using h1, by rw [h2, show k + 1 + i = k + (i + 1) by omega]⟩
theorem walk_enum {K : PySem.W.Frag} {G : Gst} {a : Addr} {ds : List D} {vs : List V} (q1 : SqL K G.fz a vs) (q2 : RDs K T G ds vs) : Walk3 K T (Ite K a) G (enumL 0 ds) := fun i G2 h2 H2 x r => by
  have z1 : SqL K H2 a vs := SqL.sub r.sub (SqL.sub x.fz q1)
  have l1 := q2.length
  refine ⟨fun d e => ?_, fun hl => ⟨vs, z1, ?_⟩⟩
  · obtain ⟨d1, e1, rfl⟩ := enumL_get 0 ds i d e
    obtain ⟨v, ev, dv⟩ := q2.get e1
    refine ⟨⟨vs, v, z1, ev⟩, ?_⟩
    rintro y H3 ⟨p, v', rfl, hp, rfl, f1⟩
    have g1 := f1 vs z1
    rw [ev] at g1; cases g1
    obtain ⟨x', r'⟩ := r.newF (o := .tup [.int (i : Nat), v]) hp
    refine ⟨_, x', r', .tup (.inl (.inl upd_same)) (.cons ?_ (.cons ((dv.mono0 x).mono x') .nil))⟩
    rw [Nat.zero_add]; exact .int
  · rw [enumL_len] at hl
    omega
def kEnum (ds : List D) (h : Hh) : R (List D) := match ds with
  | [.lst xs] => .ok (enumL 0 xs) h
  | [.scr xs] => .ok (enumL 0 xs) h
  | _ => .stk
def iEnum3 (fa : FnA) : FnI := fun δ h => (fa δ h).bind kEnum
theorem fi_enum {e : Expr} {fa : FnA} {p tpos : Pos} {elts : List Expr} {kk : Nat} (hg : Gl X "enumerate") (hm : X.mg "enumerate" = none) (ha : FA X T W [e] fa)
    (hs : starEach [e] X.env = [(false, eval e X.env)] := by rfl) :
    FI X T W (.Tuple elts kk tpos) (.Call (.Name "enumerate" p) [e] [] pos) (iEnum3 fa) := by
  refine PI.imp (pi_enum hg hm ha hs) fun σ H Q => ?_
  rintro ⟨G, h0, δ, r, s, o⟩
  refine ⟨G, h0, δ, r, s, (okR.bind (rel := RDs X.K T) o).mono ?_⟩
  rintro vs H1 ⟨G1, ds, h1, e1, r1, d1, o1⟩
  match ds, vs, d1 with
  | [], _, _ => exact o1.elim
  | _ :: _ :: _, _, _ => exact (by unfold kEnum at o1; split at o1 <;> first | exact o1.elim | simp_all)
  | [x], [v], .cons d1 .nil =>
    cases d1 with
    | @lst xs a us z1 z2 => exact ⟨a, us, rfl, .inl (.inl (r1.sub _ _ z1)), o1 G1 H1 _ (Ext.refl G1) r1 (walk_enum (.inl (.inl z1)) z2)⟩
    | @scr xs a us z1 z2 => exact ⟨a, us, rfl, SqL.sub r1.sub z1, o1 G1 H1 _ (Ext.refl G1) r1 (walk_enum z1 z2)⟩
    | _ => exact o1.elim
/-! ### isinstance with a built-in type -/
inductive Ty | int | bool | str | tuple | list | dict
deriving DecidableEq
def Ty.nm : Ty → String
  | .int => "int" | .bool => "bool" | .str => "str" | .tuple => "tuple" | .list => "list" | .dict => "dict"
/-- what a value's type is, as far as it is known -/
inductive Kd | non | bool | int | str | tuple | list | dict
def Kd.nm : Kd → String
  | .non => "NoneType" | .bool => "bool" | .int => "int" | .str => "str" | .tuple => "tuple" | .list => "list" | .dict => "dict"
def isK : Kd → Ty → Bool
  | .bool, .bool => true
  | .bool, .int => true
  | .int, .int => true
  | .str, .str => true
  | .tuple, .tuple => true
  | .list, .list => true
  | .dict, .dict => true
  | _, _ => false
theorem isK_kit (k : Kd) (t : Ty) : kitB k.nm t.nm = some (isK k t) := by
  cases k <;> cases t <;> decide +kernel
def kdOf (h : Hh) : D → Option Kd
  | .non => some .non
  | .bl _ => some .bool
  | .int _ => some .int
  | .str _ => some .str
  | .tup _ => some .tuple
  | .lst _ => some .list
  | .scr _ => some .list
  | .dic _ _ => some .dict
  | .ref n => match h[n]? with
    | some (.lst _) => some .list
    | some (.dic _ _) => some .dict
    | _ => none
  | .obj _ _ => none
theorem kd_list {K : PySem.W.Frag} {H : Hp} {a : Addr} {vs : List V} (q : SqL K H a vs) : TyX K H (.ref a) (.type "list") := by
  rcases q with (h | ⟨o, h⟩) | ⟨o, its, n, h1, h2, _⟩
  · exact .base (.lst h)
  · exact .base (.frz h)
  · exact .kList h1 h2
theorem kd_tup {K : PySem.W.Frag} {H : Hp} {a : Addr} {vs : List V} (q : SqT K H a vs) : TyX K H (.ref a) (.type "tuple") := by
  rcases q with (h | ⟨o, h⟩) | ⟨o, its, n, h1, h2, _⟩
  · exact .base (.tup h)
  · exact .fTuple h
  · exact .kTuple h1 h2
theorem kd_ok {K : PySem.W.Frag} {G : Gst} {h : Hh} {H : Hp} {d : D} {v : V} {k : Kd} (r : Rel K T G h H) (d1 : RD K T G d v) (e : kdOf h d = some k) : TyX K H v (.type k.nm) := by
  cases d1 with
  | non => cases e; exact .base .non
  | bl => cases e; exact .base (.bl _)
  | int => cases e; exact .base (.int _)
  | str => cases e; exact .base (.str _)
  | tup q _ => cases e; exact kd_tup (SqT.sub r.sub q)
  | lst q _ => cases e; exact .base (.lst (r.sub _ _ q))
  | scr q _ => cases e; exact kd_list (SqL.sub r.sub q)
  | dic q _ _ => cases e; exact .base (.dK (r.sub _ _ q))
  | obj => cases e
  | @ref n a q =>
    unfold kdOf at e
    dsimp only at e
    cases z : h[n]? with
    | none => rw [z] at e; cases e
    | some o =>
      rw [z] at e
      cases o with
      | lst ds =>
        cases e
        obtain ⟨a', vs, e1, e2, e3, _⟩ := r.obj n _ z
        rw [q] at e1; cases e1
        exact .base (.lst e3)
      | dic ks vs =>
        cases e
        obtain ⟨a', kvs, e1, e2, e3, _⟩ := r.obj n _ z
        rw [q] at e1; cases e1
        exact .base (.dK e3)
      | _ => cases e
def isiD (t : Ty) (x : D) (h : Hh) : R D := match kdOf h x with
  | some k => .ok (.bl (isK k t)) h
  | none => .stk
def eIsi (t : Ty) (fa : FnE) : FnE := fun δ h => (fa δ h).bind (isiD t)
theorem fe_isi {t : Ty} {x : Str} {p p2 : Pos} {e : Expr} {fa : FnE} (he : FE X T W e fa) (hg : Gl X "isinstance") (hm : X.mg "isinstance" = none) (hgt : Gl X x) (hmt : X.mg x = none) (hv : bootBuiltins x = some (.type t.nm)) (hv0 : bootBuiltins "isinstance" = some (.builtin "isinstance")) (hn : x ≠ "__name__" := by decide) (hdb : (x == ("__debug__" : Str)) = false := by decide)
    (hs : starEach [e, .Name x p2] X.env = (false, eval e X.env) :: starEach [.Name x p2] X.env := by rfl) (hs2 : starEach [.Name x p2] X.env = (false, eval (.Name x p2) X.env) :: starEach [] X.env := by rfl) (hpl : (backTo pos (starEach [.Name x p2] X.env)).any (·.1) = false := by rfl) :
    FE X T W (.Call (.Name "isinstance" p) [e, .Name x p2] [] pos) (eIsi t fa) := by
  have hty : PE X (.Name x p2) (tC (.ty t.nm)) := pe_bltn hgt hmt hv rfl hn hdb
  refine PE.imp (pe_callB call_isi hg hm hv0 (pa_cons he (pa_cons hty pa_nil hs2) hs) (by decide) (by decide) hs hpl) fun σ H Q h => ?_
  refine tF.bind (k := fun _ => isiD t) h fun G δ x v h1 H1 r1 s1 d1 o1 => ?_
  unfold isiD at o1
  cases ek : kdOf h1 x with
  | none => rw [ek] at o1; exact o1.elim
  | some k =>
    rw [ek] at o1
    exact ⟨v, .ty t.nm, .type k.nm, .type t.nm, isK k t, rfl, .ty _, kd_ok r1 d1 ek, kit_ty (isK_kit k t), o1.at r1 .bl⟩
end
end L3
set_option autoImplicit false
set_option maxHeartbeats 4000000
/-! L3I: dicts, stores, methods that change, while, op=. -/
namespace L3
open PySem PySem.Spec L2
/-! ### keys -/
def keyEq : D → D → Bool
  | .int i, .int j => decide (i = j)
  | .str a, .str b => decide (a = b)
  | _, _ => false
def isKey : D → Bool
  | .int _ => true
  | .str _ => true
  | _ => false
def keyOf : D → Key
  | .int i => .inl i
  | .str x => .inr ⟨x.toArray⟩
  | _ => .inl 0
theorem keyEq_iff {a b : D} (ha : isKey a = true) (hb : isKey b = true) : keyEq a b = decide (keyOf a = keyOf b) := by
  cases a <;> first | (cases ha; done) | skip
  all_goals (cases b <;> first | (cases hb; done) | skip)
  all_goals simp [keyEq, keyOf]
section
variable {T : Tx} {K : PySem.W.Frag} {G : Gst}
theorem RD.key {d : D} {v : V} (d1 : RD K T G d v) (h : isKey d = true) : v = kV (keyOf d) := by
  cases d1 <;> first | rfl | cases h
theorem RD.unkey {d : D} {k : Key} (d1 : RD K T G d (kV k)) : isKey d = true ∧ keyOf d = k := by
  cases k with
  | inl i =>
    have e : kV (.inl i) = V.int i := rfl
    rw [e] at d1
    cases d1; exact ⟨rfl, rfl⟩
  | inr x =>
    have e : kV (.inr x) = V.str x := rfl
    rw [e] at d1
    cases d1; exact ⟨rfl, rfl⟩
def lookD : List D → List D → D → Option D
  | k :: ks, v :: vs, x => if keyEq k x = true then some v else lookD ks vs x
  | _, _, _ => none
theorem lookD_ok {x d : D} (hx : isKey x = true) : ∀ {kvs : List (Key × V)} {ks vs : List D}, RDs K T G ks (kvs.map fun p => kV p.1) → RDs K T G vs (kvs.map (·.2)) → lookD ks vs x = some d → ∃ v, valV kvs (keyOf x) = some v ∧ RD K T G d v
  | [], _, _, hk, hv, e => by cases hk; cases hv; cases e
  | p :: kvs, _, _, hk, hv, e => by
    rw [List.map_cons] at hk hv
    cases hk with
    | cons k1 k2 => cases hv with
      | cons v1 v2 =>
        obtain ⟨z1, z2⟩ := k1.unkey
        unfold lookD at e
        rw [keyEq_iff z1 hx, z2] at e
        by_cases q : p.1 = keyOf x
        · rw [if_pos (decide_eq_true q)] at e
          cases e
          exact ⟨p.2, valV_pos q, v1⟩
        · rw [if_neg (by simpa using q)] at e
          obtain ⟨v, w1, w2⟩ := lookD_ok hx k2 v2 e
          exact ⟨v, by rw [valV_neg q]; exact w1, w2⟩
def hasK (ks : List D) (x : D) : Bool := ks.any fun k => keyEq k x
def replD : List D → List D → D → D → List D
  | k :: ks, v :: vs, x, y => (if keyEq k x = true then y else v) :: replD ks vs x y
  | _, _, _, _ => []
def putKs (ks : List D) (x : D) : List D := if hasK ks x = true then ks else ks ++ [x]
def putVs (ks vs : List D) (x y : D) : List D := if hasK ks x = true then replD ks vs x y else vs ++ [y]
theorem hasK_ok {x : D} (hx : isKey x = true) : ∀ {kvs : List (Key × V)} {ks : List D}, RDs K T G ks (kvs.map fun p => kV p.1) → hasK ks x = kvs.any fun kv => decide (kv.1 = keyOf x)
  | [], _, hk => by cases hk; rfl
  | p :: kvs, _, hk => by
    rw [List.map_cons] at hk
    cases hk with
    | cons k1 k2 =>
      obtain ⟨z1, z2⟩ := k1.unkey
      unfold hasK
      rw [List.any_cons, List.any_cons, keyEq_iff z1 hx, z2]
      congr 1
      exact hasK_ok hx k2
theorem replD_ok {x y : D} {w : V} (hx : isKey x = true) (hy : RD K T G y w) : ∀ {kvs : List (Key × V)} {ks vs : List D}, RDs K T G ks (kvs.map fun p => kV p.1) → RDs K T G vs (kvs.map (·.2)) →
    RDs K T G (replD ks vs x y) ((kvs.map fun kv => if kv.1 = keyOf x then (kv.1, w) else kv).map (·.2))
  | [], _, _, hk, hv => by cases hk; cases hv; exact .nil
  | p :: kvs, _, _, hk, hv => by
    rw [List.map_cons] at hk hv
    cases hk with
    | cons k1 k2 => cases hv with
      | cons v1 v2 =>
        obtain ⟨z1, z2⟩ := k1.unkey
        unfold replD
        rw [List.map_cons, List.map_cons, keyEq_iff z1 hx, z2]
        refine .cons ?_ (replD_ok hx hy k2 v2)
        by_cases q : p.1 = keyOf x
        · rw [if_pos (decide_eq_true q), if_pos q]; exact hy
        · rw [if_neg (by simpa using q), if_neg q]; exact v1
theorem repl_keys (k : Key) (w : V) : ∀ kvs : List (Key × V), ((kvs.map fun kv => if kv.1 = k then (kv.1, w) else kv).map fun p => kV p.1) = kvs.map fun p => kV p.1
  | [] => rfl
  | p :: kvs => by
    rw [List.map_cons, List.map_cons, List.map_cons, repl_keys k w kvs]
    congr 1
    by_cases q : p.1 = k
    · rw [if_pos q]
    · rw [if_neg q]
theorem putD_ok {x y : D} {w : V} {kvs : List (Key × V)} {ks vs : List D} (hx : isKey x = true) (hy : RD K T G y w) (hk : RDs K T G ks (kvs.map fun p => kV p.1)) (hv : RDs K T G vs (kvs.map (·.2))) :
    RDs K T G (putKs ks x) ((putK kvs (keyOf x) w).map fun p => kV p.1) ∧ RDs K T G (putVs ks vs x y) ((putK kvs (keyOf x) w).map (·.2)) := by
  unfold putKs putVs putK
  rw [hasK_ok hx hk]
  by_cases q : (kvs.any fun kv => decide (kv.1 = keyOf x)) = true
  · rw [if_pos q, if_pos q, if_pos q, repl_keys]
    exact ⟨hk, replD_ok hx hy hk hv⟩
  · rw [if_neg q, if_neg q, if_neg q, List.map_append, List.map_append]
    refine ⟨hk.append (.cons ?_ .nil), hv.append (.cons hy .nil)⟩
    cases x with
    | int => exact .int
    | str => exact .str
    | _ => cases hx
end
section
variable {X : Cx} {T : Tx} {W : WX} {pos : Pos}
def asDic (h : Hh) : D → Option (List D × List D)
  | .dic ks vs => some (ks, vs)
  | .ref n => match h[n]? with
    | some (.dic ks vs) => some (ks, vs)
    | _ => none
  | _ => none
theorem asDic_ok {K : PySem.W.Frag} {G : Gst} {h : Hh} {H : Hp} {d : D} {v : V} {ks vs : List D} (r : Rel K T G h H) (d1 : RD K T G d v) (e : asDic h d = some (ks, vs)) :
    ∃ a kvs, v = .ref a ∧ H a = some (.dK kvs) ∧ RDs K T G ks (kvs.map fun p => kV p.1) ∧ RDs K T G vs (kvs.map (·.2)) := by
  cases d1 with
  | dic q1 q2 q3 => cases e; exact ⟨_, _, rfl, r.sub _ _ q1, q2, q3⟩
  | @ref n a q =>
    unfold asDic at e
    dsimp only at e
    cases z : h[n]? with
    | none => rw [z] at e; cases e
    | some o =>
      rw [z] at e
      cases o with
      | dic ks' vs' =>
        cases e
        obtain ⟨a', kvs, e1, e2, e3, e4, e5⟩ := r.obj n _ z
        rw [q] at e1; cases e1
        exact ⟨a, kvs, rfl, e3, e4, e5⟩
      | _ => cases e
  | _ => cases e
/-! ### o[i] of all kinds -/
def rIxH : R2 := fun x y H Q => ∃ a v, x = .ref a ∧ DGet H a y (some v) ∧ Q v H
theorem ix_dict (hu : X.A.units + 1 < cLine) : IxR X rIxH := by
  intro value slice pins s σ H x y v u Q I rx ry h hs
  obtain ⟨a, w, ex, g, q⟩ := h
  subst ex
  obtain rfl : v = Value.ref a := rx
  have hT := dict_typeIs I g
  unfold PyProof.Rows.subscriptTail
  refine wpAny_bind ?_
  rw [getitemInPython_of_ne hT.not_modules]
  refine wpAny_bind (wpAny_specialOf hT PySem.F.slot_dict_getitem.lookup ?_)
  have fin : wpAny (model X.prog X.w) X.A (subscripted slice false (.ref a) u) (fun r s₃ => wpAny (model X.prog X.w) X.A (letTemporaryGo value (.ref a) r >>= fun _ => pure r) (EP X pins σ Q) X.xe s₃) X.xe s := by
    rw [hs]
    exact wpAny_operating (d_getItem hu I g ry fun w' s3 I3 rw' => wpAny_bind (wpAny_letTemporaryGo (wpAny_pure ⟨w, H, I3, rw', q⟩)))
  first
    | exact wpAny_pure (wpAny_bind fin)
    | exact wpAny_bind (wpAny_pure (wpAny_bind fin))
    | exact wpAny_bind fin
def ixA : F2 := fun x y h => match asDic h x with
  | some (ks, vs) => if isKey y = true then optR (lookD ks vs y) h else .stk
  | none => ixD x y h
def rIxAll (K : PySem.W.Frag) : R2 := fun x y H Q => rIx K x y H Q ∨ rIxH x y H Q
theorem os_ixA : OpS X T (rIxAll X.K) ixA := by
  intro W G h H σ x y v w Q r d1 d2 o
  unfold ixA at o
  cases e : asDic h x with
  | none => rw [e] at o; exact .inl (os_ix W G h H σ x y v w Q r d1 d2 o)
  | some p =>
    obtain ⟨ks, vs⟩ := p
    rw [e] at o
    dsimp only at o
    by_cases hy : isKey y = true
    · rw [if_pos hy] at o
      cases el : lookD ks vs y with
      | none => rw [el] at o; exact o.elim
      | some d =>
        rw [el] at o
        obtain ⟨a, kvs, rfl, q1, q2, q3⟩ := asDic_ok r d1 e
        obtain ⟨u, w1, w2⟩ := lookD_ok hy q2 q3 el
        have ew := d2.key hy
        subst ew
        exact .inr ⟨a, u, rfl, by rw [← w1]; exact DGet.k q1, o.at r w2⟩
    · rw [if_neg hy] at o; exact o.elim
theorem fe_ixA {a b : Expr} {fa fb : FnE} (hu : X.A.units + 1 < cLine) (hs : PlainIx b) (ha : FE X T W a fa) (hb : FE X T W b fb) : FE X T W (.Subscript a b pos) (eBin ixA fa fb) :=
  PE.imp (pe_ix (IxR.or ix_seq (ix_dict hu)) ha hb hs) fun _ _ _ h => tE_bin os_ixA h
/-- y in d, of a dict as well -/
def inA : F2 := fun x y h => match asDic h y with
  | some (ks, _) => if isKey x = true then .ok (.bl (hasK ks x)) h else .stk
  | none => inD x y h
/-! ### o[i] = e -/
def setOne (x i y : D) (h : Hh) : Option Hh := match x with
  | .ref n => match h[n]? with
    | some (.lst ds) => match i with
      | .int k => match ixN ds.length k with
        | some j => some (h.set n (.lst (ds.set j y)))
        | none => none
      | _ => none
    | some (.dic ks vs) => if isKey i = true ∧ ks.length < 1000000 then some (h.set n (.dic (putKs ks i) (putVs ks vs i y))) else none
    | _ => none
  | _ => none
def rSetA : TSet := fun o i v H Q => rSetL o i v H Q ∨ rSetD o i v H Q
theorem set_A (hu : X.A.units + 1 < cLine) : PSet X rSetA := fun pins s σ H o i v ov iv u Q I ro ri rv h => h.elim (set_list pins s σ H o i v ov iv u Q I ro ri rv) (set_dict hu pins s σ H o i v ov iv u Q I ro ri rv)
theorem setOne_ok {K : PySem.W.Frag} {G : Gst} {h h' : Hh} {H : Hp} {x i y : D} {vx vi vy : V} {Q : Hp → Prop} (r : Rel K T G h H) (dx : RD K T G x vx) (di : RD K T G i vi) (dy : RD K T G y vy) (e : setOne x i y h = some h') (q : ∀ H', Rel K T G h' H' → Q H') : rSetA vx vi vy H Q := by
  cases dx with
  | @ref n a q1 =>
    unfold setOne at e
    dsimp only at e
    cases z : h[n]? with
    | none => rw [z] at e; cases e
    | some o =>
      rw [z] at e
      have hn : n < h.length := (List.getElem?_eq_some_iff.mp z).1
      cases o with
      | lst ds =>
        cases di with
        | @int k =>
          dsimp only at e
          cases ej : ixN ds.length k with
          | none => rw [ej] at e; cases e
          | some j =>
            rw [ej] at e
            cases e
            obtain ⟨a', vs, e1, e2, e3, e4⟩ := r.obj n _ z
            rw [q1] at e1; cases e1
            refine .inl ⟨a, vs, k, j, rfl, rfl, e3, by rw [← e4.length]; exact ej, q _ (r.put hn e2 ⟨a, _, q1, e2, upd_same, e4.set dy j⟩)⟩
        | _ => cases e
      | dic ks vs =>
        dsimp only at e
        by_cases hk : isKey i = true ∧ ks.length < 1000000
        · rw [if_pos hk] at e
          cases e
          obtain ⟨a', kvs, e1, e2, e3, e4, e5⟩ := r.obj n _ z
          rw [q1] at e1; cases e1
          have ei := di.key hk.1
          subst ei
          obtain ⟨p1, p2⟩ := putD_ok hk.1 dy e4 e5
          have hl : kvs.length < sizeLine := by
            have := e4.length
            rw [List.length_map] at this
            rw [← this, sizeLine_eq]; omega
          exact .inr ⟨a, _, rfl, DPut.k e3 hl, q _ (r.put hn e2 ⟨a, _, q1, e2, upd_same, p1, p2⟩)⟩
        · rw [if_neg hk] at e; cases e
      | _ => cases e
  | _ => cases e
def kSet (δ : De) (x i y : D) (h : Hh) : RS := match setOne x i y h with
  | some h' => .nx δ h'
  | none => .stk
def sIxS (fo fi fv : FnE) : FnS := fun δ h => (fv δ h).toS δ fun y h1 => (fo δ h1).toS δ fun x h2 => (fi δ h2).toS δ fun i h3 => kSet δ x i y h3
theorem fs_ix {o i value : Expr} {fo fi fv : FnE} {pos' : Pos} (hu : X.A.units + 1 < cLine) (ho : FE X T W o fo) (hi : FE X T W i fi) (hv : FE X T W value fv)
    (ha : ∀ v, assign (.Subscript o i pos') X.env v = (do
      let ov ← holding [v] (eval o X.env)
      let iv ← holding [v, ov] (eval i X.env)
      standAt pos'
      holding [v, ov, iv] (setItem ov iv v)
      release [v, ov, iv] []) := by intro _; rfl)
    (hs : swapsWithSole [.Subscript o i pos'] value pos.line X.env = pure false := by rfl) (hw : swappedStores [.Subscript o i pos'] value X.env = pure none := by rfl) (h1 : (assignEach [.Subscript o i pos'] X.env).map (·.2) = [assign (.Subscript o i pos') X.env] := by rfl) :
    FS X T W (.Assign [.Subscript o i pos'] value pos) (sIxS fo fi fv) := by
  refine PS.imp (ps_asg hv (pg_sub ho hi (set_A hu) ha) hs hw h1) fun D σ H => ?_
  rintro ⟨G, h0, δ, r, s, oo⟩
  refine ⟨G, h0, δ, r, s, (okS.toS (rel := RD X.K T) s oo).mono ?_⟩
  rintro vy H1 ⟨G1, y, h1, e1, r1, d1, o1⟩
  refine ⟨G1, h1, δ, r1, s.mono e1, (okS.toS (rel := RD X.K T) (s.mono e1) o1).mono ?_⟩
  rintro vx H2 ⟨G2, x, h2, e2, r2, d2, o2⟩
  refine ⟨G2, h2, δ, r2, s.mono (e1.trans e2), (okS.toS (rel := RD X.K T) (s.mono (e1.trans e2)) o2).mono ?_⟩
  rintro vi H3 ⟨G3, i', h3, e3, r3, d3, o3⟩
  unfold kSet at o3
  cases es : setOne x i' y h3 with
  | none => rw [es] at o3; exact o3.elim
  | some h4 =>
    rw [es] at o3
    exact setOne_ok r3 (d2.mono e3) d3 (d1.mono (e2.trans e3)) es fun H' r' => o3 G3 H' σ (Ext.refl G3) r' (s.mono (e1.trans (e2.trans e3)))
/-! ### name op= e: ints -/
def sAug (i : Nat) (p : Int → Int → Int) (f : FnE) : FnS := fun δ h => match δ[i]? with
  | some (some (.int a)) => (f δ h).toS δ fun y h1 => match y with
    | .int b => .nx (δ.set i (some (.int (p a b)))) h1
    | _ => .stk
  | _ => .stk
theorem fs_aug {i : Nat} {x : Str} {e : Expr} {f : FnE} {op : Operator} {p : Int → Int → Int} {pos' : Pos} (ho : PIp X op (ipI p)) (hN : X.N.Nodup) (hi : X.N[i]? = some x) (hx : Loc X.env.scope x) (he : FE X T W e f) (hf : X.fn x = true ∨ X.env.scope.names.lookup x = some .local := by first | exact .inl rfl | exact .inr rfl | assumption) :
    FS X T W (.AugAssign (.Name x pos') op e pos) (sAug i p f) := by
  refine PS.imp (ps_aug hN hi hx he ho hf) fun D σ H => ?_
  rintro ⟨G, h0, δ, r, s, o⟩
  unfold sAug at o
  split at o
  · rename_i a ea
    obtain ⟨v, h1, h2⟩ := s.at_ i _ ea
    cases h2
    refine ⟨_, h1, G, h0, δ, r, s, (okS.toS (rel := RD X.K T) s o).mono ?_⟩
    rintro vy H1 ⟨G1, y, h1, e1, r1, d1, o1⟩
    cases d1 with
    | int => exact ⟨_, _, rfl, rfl, o1 G1 H1 _ (Ext.refl G1) r1 ((s.mono e1).set .int i)⟩
    | _ => exact o1.elim
  · exact o.elim
/-! ### while -/
def whileN (t : FnT) (u : FnS) : Nat → FnS
  | 0 => fun _ _ => .stk
  | n + 1 => fun δ h => (t δ h).toS δ fun c h1 => if c = true then (match u δ h1 with
      | .nx δ2 h2 => whileN t u n δ2 h2
      | .ct δ2 h2 => whileN t u n δ2 h2
      | .bk δ2 h2 => .nx δ2 h2
      | r => r) else .nx δ h1
theorem fs_while {N : Nat} {c : Expr} {body : List Stmt} {t : FnT} {u : FnS} (hp : PassesOwn (model X.prog X.w) X.A X.env X.xe) (hc : FT X T W c t) (hb : FSs X T W body u) : FS X T W (.While c body [] pos) (whileN t u N) := by
  refine PS.imp (ps_while hp hc hb) fun D σ H => ?_
  intro hh
  refine ⟨fun m σ H => tS X.K T W (whileN t u m) D σ H, ⟨N, hh⟩, ?_⟩
  rintro m σ' H' ⟨G1, h1, δ1, r1, s1, o1⟩
  cases m with
  | zero => exact o1.elim
  | succ n =>
    unfold whileN at o1
    refine ⟨G1, h1, δ1, r1, s1, (okS.toS (rel := relB) s1 o1).mono ?_⟩
    rintro b H2 ⟨G2, x, h2, e2, r2, d2, o2⟩
    have d : x = b := d2
    subst d
    cases x with
    | false =>
      rw [if_neg Bool.false_ne_true] at o2 ⊢
      exact o2 G2 H2 σ' (Ext.refl G2) r2 (s1.mono e2)
    | true =>
      rw [if_pos rfl] at o2 ⊢
      refine ⟨fun σ3 H3 => tS X.K T W (whileN t u n) D σ3 H3, fun σ3 H3 z => ⟨n, Nat.lt_succ_self n, z⟩, G2, h2, δ1, r2, s1.mono e2, ?_⟩
      cases eu : u δ1 h2 with
      | nx δ5 h5 => rw [eu] at o2; exact fun G' H'' σ'' x' r' s' => ⟨G', h5, δ5, r', s', okS.ext x' o2⟩
      | ct δ5 h5 => rw [eu] at o2; exact fun G' H'' σ'' x' r' s' => ⟨G', h5, δ5, r', s', okS.ext x' o2⟩
      | bk δ5 h5 => rw [eu] at o2; exact o2
      | rt d h5 => rw [eu] at o2; exact o2
      | exc c ds δ5 h5 => rw [eu] at o2; exact o2
      | stk => rw [eu] at o2; exact o2
theorem whileN_mono {t : FnT} {u : FnS} : ∀ (n m : Nat) (δ : De) (h : Hh), n ≤ m → whileN t u n δ h ≠ .stk → whileN t u m δ h = whileN t u n δ h
  | 0, _, _, _, _, e => absurd rfl e
  | n + 1, 0, _, _, hl, _ => by omega
  | n + 1, m + 1, δ, h, hl, e => by
    unfold whileN at e ⊢
    cases et : t δ h with
    | stk => rfl
    | exc => rfl
    | ok c h1 =>
      rw [et] at e
      simp only [R.toS] at e ⊢
      cases c with
      | false => rfl
      | true =>
        simp only [if_true] at e ⊢
        cases eu : u δ h1 with
        | nx δ2 h2 => rw [eu] at e; exact whileN_mono n m δ2 h2 (by omega) e
        | ct δ2 h2 => rw [eu] at e; exact whileN_mono n m δ2 h2 (by omega) e
        | bk δ2 h2 => rfl
        | rt d h2 => rfl
        | exc c ds δ2 h2 => rfl
        | stk => rfl
/-! ### methods of lists -/
abbrev FM := D → List D → Hh → R D
def MtS (X : Cx) (T : Tx) (rd : V → List V → Hp → VK → Prop) (g : FM) : Prop := ∀ (W : WX) G h H σ x v ds vs Q, Rel X.K T G h H → RD X.K T G x v → RDs X.K T G ds vs → okR X.K T W G σ (RD X.K T) (g x ds h) Q → rd v vs H Q
/-- a method of a list -/
def kM (g : FM) (fa : FnA) (δ : De) (x : D) (h1 : Hh) : R D := if (asL h1 x).isSome = true then (fa δ h1).bind (g x) else .stk
def eM (g : FM) (fo : FnE) (fa : FnA) : FnE := fun δ h => (fo δ h).bind (kM g fa δ)
theorem asL_ty {K : PySem.W.Frag} {G : Gst} {h : Hh} {H : Hp} {d : D} {v : V} (r : Rel K T G h H) (d1 : RD K T G d v) (e : (asL h d).isSome = true) : tyV K "list" v H := by
  obtain ⟨ds, ed⟩ := Option.isSome_iff_exists.mp e
  obtain ⟨a, vs, rfl, h1, _⟩ := asL_ok r d1 ed
  exact .inl ⟨rfl, vs, .inl (.inl h1)⟩
theorem fe_m {o e : Expr} {es : List Expr} {name : Str} {id : String} {apos : Pos} {rd : V → List V → Hp → VK → Prop} {g : FM} {fo : FnE} {fa : FnA} (slot : Slot "list" name id) (hty : typeOf (.builtin id) = pure (.type "method_descriptor")) (hm : MtR X id rd) (hs : MtS X T rd g) (ho : FE X T W o fo) (ha : FA X T W (e :: es) fa)
    (hbase : attributeBase o name X.env (eval o X.env) = eval o X.env := by rfl)
    (hfew : ((backTo pos (starEach (e :: es) X.env)).all (fun x => !x.1) && (backToKw pos (keywordEach [] X.env)).all (fun x => x.1.isSome)
      && decide ((e :: es).length + ([] : List Keyword).length + (if ([] : List Keyword).isEmpty then 0 else 1) < 30)) = true := by rfl)
    (hline : (apos.endLine == pos.line) = true := by rfl) (hs1 : starEach (e :: es) X.env = (false, eval e X.env) :: starEach es X.env := by rfl) (hplain : (backTo pos (starEach es X.env)).any (·.1) = false := by rfl) :
    FE X T W (.Call (.Attribute o name apos) (e :: es) [] pos) (eM g fo fa) := by
  refine PE.imp (pe_bm PySem.F.plainAttrs_list slot hty hm ho ha hbase hfew hline hs1 hplain) fun σ H Q => ?_
  rintro ⟨G, h0, δ, r, s, oo⟩
  refine ⟨G, h0, δ, r, s, (okR.bind (rel := RD X.K T) oo).mono ?_⟩
  rintro v H1 ⟨G1, x, h1, e1, r1, d1, o1⟩
  unfold kM at o1
  by_cases hl : (asL h1 x).isSome = true
  · rw [if_pos hl] at o1
    refine ⟨asL_ty r1 d1 hl, G1, h1, δ, r1, s.mono e1, (okR.bind (rel := RDs X.K T) o1).mono ?_⟩
    rintro vs H2 ⟨G2, ds, h2, e2, r2, d2, o2⟩
    exact hs W G2 h2 H2 σ x v ds vs Q r2 (d1.mono e2) d2 o2
  · rw [if_neg hl] at o1; exact o1.elim
theorem fe_m0 {o : Expr} {name : Str} {id : String} {apos : Pos} {rd : V → List V → Hp → VK → Prop} {g : FM} {fo : FnE} (slot : Slot "list" name id) (hty : typeOf (.builtin id) = pure (.type "method_descriptor")) (hm : MtR X id rd) (hs : MtS X T rd g) (ho : FE X T W o fo)
    (hbase : attributeBase o name X.env (eval o X.env) = eval o X.env := by rfl) (hline : (apos.endLine == pos.line) = true := by rfl) : FE X T W (.Call (.Attribute o name apos) [] [] pos) (eM g fo aNil) := by
  refine PE.imp (pe_bm0 PySem.F.plainAttrs_list slot hty hm ho hbase hline) fun σ H Q => ?_
  rintro ⟨G, h0, δ, r, s, oo⟩
  refine ⟨G, h0, δ, r, s, (okR.bind (rel := RD X.K T) oo).mono ?_⟩
  rintro v H1 ⟨G1, x, h1, e1, r1, d1, o1⟩
  unfold kM at o1
  by_cases hl : (asL h1 x).isSome = true
  · rw [if_pos hl] at o1
    exact ⟨asL_ty r1 d1 hl, hs W G1 h1 H1 σ x v [] [] Q r1 d1 .nil o1⟩
  · rw [if_neg hl] at o1; exact o1.elim
def mutL (h : Hh) : D → Option (Nat × List D)
  | .ref n => match h[n]? with
    | some (.lst ds) => some (n, ds)
    | _ => none
  | _ => none
theorem mutL_ok {K : PySem.W.Frag} {G : Gst} {h : Hh} {H : Hp} {d : D} {v : V} {n : Nat} {ds : List D} (r : Rel K T G h H) (d1 : RD K T G d v) (e : mutL h d = some (n, ds)) :
    ∃ a vs, v = .ref a ∧ H a = some (.lst vs) ∧ RDs K T G ds vs ∧ ∀ es ws, RDs K T G es ws → Rel K T G (h.set n (.lst es)) (upd H a (.lst ws)) := by
  cases d1 with
  | @ref m a q =>
    unfold mutL at e
    dsimp only at e
    cases z : h[m]? with
    | none => rw [z] at e; cases e
    | some o =>
      rw [z] at e
      cases o with
      | lst es =>
        cases e
        obtain ⟨a', vs, e1, e2, e3, e4⟩ := r.obj _ _ z
        rw [q] at e1; cases e1
        exact ⟨a, vs, rfl, e3, e4, fun es ws d => r.put (List.getElem?_eq_some_iff.mp z).1 e2 (show RO K T G (upd H a (.lst ws)) _ (.lst es) from ⟨a, ws, q, e2, upd_same, d⟩)⟩
      | _ => cases e
  | _ => cases e
def appendM : FM := fun x as h => match mutL h x, as with
  | some (n, ds), [y] => if ds.length < 16777216 then .ok .non (h.set n (.lst (ds ++ [y]))) else .stk
  | _, _ => .stk
theorem ms_append : MtS X T rAppend appendM := by
  intro W G h H σ x v as vs Q r d1 d2 o
  unfold appendM at o
  cases e : mutL h x with
  | none => rw [e] at o; exact o.elim
  | some p =>
    obtain ⟨n, ds⟩ := p
    rw [e] at o
    match as, vs, d2 with
    | [], _, _ => exact o.elim
    | _ :: _ :: _, _, _ => exact o.elim
    | [y], [w], .cons dy .nil =>
      dsimp only at o
      by_cases hl : ds.length < 16777216
      · rw [if_pos hl] at o
        obtain ⟨a, us, rfl, q1, q2, q3⟩ := mutL_ok r d1 e
        exact ⟨a, us, w, rfl, rfl, q1, by rw [← q2.length, sizeLine_eq]; exact hl, o.at (q3 _ _ (q2.append (.cons dy .nil))) .non⟩
      · rw [if_neg hl] at o; exact o.elim
theorem RDs.eraseIdx {K : PySem.W.Frag} {G : Gst} : ∀ {ds : List D} {vs : List V} (i : Nat), RDs K T G ds vs → RDs K T G (ds.eraseIdx i) (vs.eraseIdx i)
  | _, _, _, .nil => .nil
  | _, _, 0, .cons _ t => t
  | _, _, i + 1, .cons h t => .cons h (RDs.eraseIdx i t)
theorem RDs.dropLast {K : PySem.W.Frag} {G : Gst} {ds : List D} {vs : List V} (h : RDs K T G ds vs) : RDs K T G ds.dropLast vs.dropLast := by
  rw [List.dropLast_eq_take, List.dropLast_eq_take, h.length]
  exact h.take _
/-- pop(0), pop(i) from the front -/
def popAtM : FM := fun x as h => match mutL h x, as with
  | some (n, ds), [.int (.ofNat i)] => if i < 4294967296 then match ds[i]? with
    | some y => .ok y (h.set n (.lst (ds.eraseIdx i)))
    | none => .stk else .stk
  | _, _ => .stk
theorem ms_popAt : MtS X T rPopAt popAtM := by
  intro W G h H σ x v as vs Q r d1 d2 o
  unfold popAtM at o
  cases e : mutL h x with
  | none => rw [e] at o; exact o.elim
  | some p =>
    obtain ⟨n, ds⟩ := p
    rw [e] at o
    match as, vs, d2 with
    | [], _, _ => exact o.elim
    | _ :: _ :: _, _, _ => exact (by split at o <;> first | exact o.elim | simp_all)
    | [y], [w], .cons dy .nil =>
      cases dy with
      | @int i =>
        cases i with
        | ofNat i =>
          dsimp only at o
          by_cases hl : i < 4294967296
          · rw [if_pos hl] at o
            cases ed : ds[i]? with
            | none => rw [ed] at o; exact o.elim
            | some y =>
              rw [ed] at o
              obtain ⟨a, us, rfl, q1, q2, q3⟩ := mutL_ok r d1 e
              obtain ⟨u, eu, du⟩ := q2.get ed
              have hil : i < us.length := (List.getElem?_eq_some_iff.mp eu).1
              refine ⟨a, us, (i : Nat), i, u, rfl, rfl, q1, by omega, by omega, ?_, eu, o.at (q3 _ _ (q2.eraseIdx i)) du⟩
              rw [PySem.seqIndex_of (by omega) (by simpa using hil)]; simp
          · rw [if_neg hl] at o; exact o.elim
        | negSucc i => exact o.elim
      | _ => exact o.elim
def popM : FM := fun x as h => match mutL h x, as with
  | some (n, ds), [] => match ds[ds.length - 1]? with
    | some y => .ok y (h.set n (.lst ds.dropLast))
    | none => .stk
  | _, _ => .stk
theorem ms_pop : MtS X T rPop popM := by
  intro W G h H σ x v as vs Q r d1 d2 o
  unfold popM at o
  cases e : mutL h x with
  | none => rw [e] at o; exact o.elim
  | some p =>
    obtain ⟨n, ds⟩ := p
    rw [e] at o
    match as, vs, d2 with
    | [], [], .nil =>
      dsimp only at o
      cases ed : ds[ds.length - 1]? with
      | none => rw [ed] at o; exact o.elim
      | some y =>
        rw [ed] at o
        obtain ⟨a, us, rfl, q1, q2, q3⟩ := mutL_ok r d1 e
        obtain ⟨u, eu, du⟩ := q2.get ed
        exact ⟨a, us, u, rfl, rfl, q1, by rw [← q2.length]; exact eu, o.at (q3 _ _ q2.dropLast) du⟩
    | _ :: _, _, _ => exact o.elim
/-! ### slices that will be changed -/
def sliceM (x : D) (lo hi : Option Int) (h : Hh) : R D := match asL h x with
  | some xs => .ok (.ref h.length) (h ++ [.lst (cutL xs lo hi)])
  | none => .stk
def eSliceM (f : FnE) (fl fh : FnO) : FnE := fun δ h => (f δ h).bind fun x h1 => (fl δ h1).bind fun l h2 => (fh δ h2).bind fun u h3 => sliceM x l u h3
theorem fe_sliceM {e : Expr} {lo hi : Option Expr} {p2 : Pos} {f : FnE} {fl fh : FnO} (he : FE X T W e f) (hl : FO X T W lo fl) (hh : FO X T W hi fh) : FE X T W (.Subscript e (.Slice lo hi none p2) pos) (eSliceM f fl fh) := by
  refine PE.imp (pe_slice (r := rSlL X.K) sl_list he hl hh) fun σ H Q => ?_
  rintro ⟨G, h0, δ, r, s, o⟩
  refine ⟨G, h0, δ, r, s, (okR.bind (rel := RD X.K T) o).mono ?_⟩
  rintro v H1 ⟨G1, x, h1, e1, r1, d1, o1⟩
  refine ⟨G1, h1, δ, r1, s.mono e1, (okR.bind (rel := fun _ a b => a = b) o1).mono ?_⟩
  rintro l H2 ⟨G2, l', h2, e2, r2, rfl, o2⟩
  refine ⟨G2, h2, δ, r2, s.mono (e1.trans e2), (okR.bind (rel := fun _ a b => a = b) o2).mono ?_⟩
  rintro u H3 ⟨G3, u', h3, e3, r3, rfl, o3⟩
  have d3 := d1.mono (e2.trans e3)
  unfold sliceM at o3
  cases ex : asL h3 x with
  | none => rw [ex] at o3; exact o3.elim
  | some xs =>
    rw [ex] at o3
    obtain ⟨a, vs, rfl, q1, q2⟩ := asL_ok r3 d3 ex
    exact ⟨a, vs, rfl, .inl (.inl q1), fun p hp => newLstM r3 (q2.cut l' u') hp o3⟩
/-! ### {k: v, ..} -/
def dPairs : List (FnE × FnE) → De → Hh → R (List D × List D)
  | [], _, h => .ok ([], []) h
  | (fk, fv) :: r, δ, h => (fk δ h).bind fun k h1 => (fv δ h1).bind fun v h2 => (dPairs r δ h2).bind fun p h3 => .ok (k :: p.1, v :: p.2) h3
abbrev FPs (X : Cx) (T : Tx) (W : WX) (pos : Pos) (keys : List (Option Expr)) (values : List Expr) (fs : List (FnE × FnE)) : Prop := PPs X pos keys values (fs.map fun p => (tE X.K T W p.1, tE X.K T W p.2))
theorem fps_nil : FPs X T W pos [] [] [] := pps_nil
theorem fps_cons {k v : Expr} {ks : List (Option Expr)} {vs : List Expr} {fk fv : FnE} {fs : List (FnE × FnE)} (hk : FE X T W k fk) (hv : FE X T W v fv) (hr : FPs X T W pos ks vs fs) : FPs X T W pos (some k :: ks) (v :: vs) ((fk, fv) :: fs) := pps_cons hk hv hr
def relP (K : PySem.W.Frag) (T : Tx) (G : Gst) (p : List D × List D) (ps : List (V × V)) : Prop := RDs K T G p.1 (ps.map (·.1)) ∧ RDs K T G p.2 (ps.map (·.2))
theorem dPairs_ok {K : PySem.W.Frag} {σ : L2.St} : ∀ (fs : List (FnE × FnE)) (G : Gst) (h : Hh) (δ : De) (H : Hp) (Q : List (V × V) → Hp → Prop), Rel K T G h H → RSl K T G δ σ → okR K T W G σ (relP K T) (dPairs fs δ h) Q → tPairs (fs.map fun p => (tE K T W p.1, tE K T W p.2)) σ H Q
  | [], G, h, δ, H, Q, r, s, o => o G H [] (Ext.refl G) r ⟨.nil, .nil⟩
  | (fk, fv) :: fs, G, h, δ, H, Q, r, s, o => by
    refine ⟨G, h, δ, r, s, (okR.bind (rel := RD K T) o).mono ?_⟩
    rintro v H1 ⟨G1, x, h1, e1, r1, d1, o1⟩
    refine ⟨G1, h1, δ, r1, s.mono e1, (okR.bind (rel := RD K T) o1).mono ?_⟩
    rintro w H2 ⟨G2, y, h2, e2, r2, d2, o2⟩
    refine dPairs_ok fs G2 h2 δ H2 _ r2 (s.mono (e1.trans e2)) ((okR.bind (rel := relP K T) o2).mono ?_)
    rintro ps H3 ⟨G3, p, h3, e3, r3, d3, o3⟩
    exact o3 G3 H3 ((v, w) :: ps) (Ext.refl G3) r3 ⟨.cons (d1.mono (e2.trans e3)) d3.1, .cons (d2.mono e3) d3.2⟩
def keysOk : List D → Bool
  | [] => true
  | k :: ks => isKey k && !hasK ks k && keysOk ks
theorem keys_of {K : PySem.W.Frag} {G : Gst} : ∀ {ks vs : List D} {ps : List (V × V)}, keysOk ks = true → RDs K T G ks (ps.map (·.1)) → RDs K T G vs (ps.map (·.2)) →
    ∃ kvs : List (Key × V), ps = kvs.map (fun kv => (kV kv.1, kv.2)) ∧ (kvs.map (·.1)).Nodup ∧ RDs K T G ks (kvs.map fun p => kV p.1) ∧ RDs K T G vs (kvs.map (·.2))
  | _, _, [], _, hk, hv => by cases hk; cases hv; exact ⟨[], rfl, by simp, .nil, .nil⟩
  | _, _, p :: ps, e, hk, hv => by
    rw [List.map_cons] at hk hv
    cases hk with
    | @cons k v ks _ k1 k2 => cases hv with
      | cons v1 v2 =>
        simp only [keysOk, Bool.and_eq_true, Bool.not_eq_true'] at e
        obtain ⟨⟨z1, z2⟩, z3⟩ := e
        obtain ⟨kvs, e1, e2, e3, e4⟩ := keys_of z3 k2 v2
        have ek := k1.key z1
        have nk : keyOf k ∉ kvs.map (·.1) := fun m => by
          rw [hasK_ok z1 e3] at z2
          obtain ⟨q, q1, q2⟩ := List.mem_map.mp m
          have : (kvs.any fun kv => decide (kv.1 = keyOf k)) = true := List.any_eq_true.mpr ⟨q, q1, decide_eq_true q2⟩
          rw [this] at z2; cases z2
        refine ⟨(keyOf k, p.2) :: kvs, ?_, ?_, ?_, .cons v1 e4⟩
        · rw [List.map_cons, ← e1, ← ek]
        · rw [List.map_cons]; exact List.nodup_cons.mpr ⟨nk, e2⟩
        · rw [List.map_cons]; show RDs K T G (k :: ks) (kV (keyOf k) :: _); rw [← ek]; exact .cons k1 e3
theorem merge_nil : ∀ (more kvs : List (Key × V)), ((kvs ++ more).map (·.1)).Nodup → mergeK kvs more = kvs ++ more
  | [], kvs, _ => by simp [mergeK]
  | p :: r, kvs, nd => by
    have hn : valV kvs p.1 = none := by
      unfold valV
      rw [Option.map_eq_none_iff, List.find?_eq_none]
      intro q hq
      have : q.1 ≠ p.1 := fun e => by
        rw [List.map_append, List.nodup_append] at nd
        exact nd.2.2 _ (List.mem_map.mpr ⟨q, hq, rfl⟩) _ (List.mem_map.mpr ⟨p, List.mem_cons_self, rfl⟩) e
      simpa using this
    show mergeK (putK kvs p.1 p.2) r = _
    rw [putK_new _ hn]
    have e : kvs ++ p :: r = (kvs ++ [(p.1, p.2)]) ++ r := by simp
    rw [e]
    exact merge_nil r _ (by rw [← e]; exact nd)
def kDic (mu : Bool) (p : List D × List D) (h1 : Hh) : R D := if keysOk p.1 = true ∧ p.1.length ≤ 15 then (if mu = true then .ok (.ref h1.length) (h1 ++ [.dic p.1 p.2]) else .ok (.dic p.1 p.2) h1) else .stk
/-- an exception inside is not told -/
def noXP {α : Type} (r : R α) : R α := match r with
  | .ok x h => .ok x h
  | _ => .stk
def eDic (mu : Bool) (fs : List (FnE × FnE)) : FnE := fun δ h => (noXP (dPairs fs δ h)).bind (kDic mu)
theorem fe_dict {mu : Bool} {keys : List (Option Expr)} {values : List Expr} {fs : List (FnE × FnE)} (h : FPs X T W0 pos keys values fs) (hall : keys.all (·.isSome) = true) (hl : keys.length = values.length) (h0 : keys ≠ []) (h15 : keys.length ≤ 15) :
    FE X T W (.Dict keys values pos) (eDic mu fs) := by
  refine PE.imp (pe_disp h hall hl h0 h15) fun σ H Q => ?_
  rintro ⟨G, hh, δ, r, s, o⟩
  intro p hp
  have rg := r.guard (o := .dK []) hp
  have sg : RSl X.K T (G.guard p (.dK [])) δ σ := RSl.ghost (G := G) (G' := G.guard p (.dK [])) rfl (fun _ _ z => z) s
  refine dPairs_ok fs (G.guard p (.dK [])) hh δ _ _ rg sg ?_
  unfold eDic at o
  cases ed : dPairs fs δ hh with
  | stk => rw [ed] at o; exact o.elim
  | exc c ds h' => rw [ed] at o; exact o.elim
  | ok q h1 =>
    rw [ed] at o
    obtain ⟨ks, vs⟩ := q
    have o1 : okR X.K T W G σ (RD X.K T) (kDic mu (ks, vs) h1) Q := o
    intro G2 H2 ps x2 r2 d2
    obtain ⟨d2k, d2v⟩ := d2
    have hpr : G2.pr p = some (.dK []) := by rw [x2.pr]; exact upd_same
    obtain ⟨z1, z2, z3⟩ := r2.pr p _ hpr
    refine ⟨z1, ?_⟩
    unfold kDic at o1
    by_cases hk : keysOk ks = true ∧ ks.length ≤ 15
    · rw [if_pos hk] at o1
      obtain ⟨kvs, e1, e2, e3, e4⟩ := keys_of hk.1 d2k d2v
      have hlen : kvs.length ≤ 15 := by
        have := e3.length
        rw [List.length_map] at this
        omega
      refine ⟨kvs, e1, hlen, ?_⟩
      rw [merge_nil kvs [] (by simpa using e2), List.nil_append]
      have r3 := r2.reguard (u := .dK kvs) hpr
      have pn : G.pr p = none := by
        cases z : G.pr p with
        | none => rfl
        | some u => have := (r.pr p u z).1; rw [hp] at this; cases this
      have hpr3 : ({ G2 with pr := upd G2.pr p (.dK kvs) } : Gst).pr p = some (.dK kvs) := upd_same
      have hpr0 : ∀ a u, G.pr a = some u → a ≠ p ∧ ({ G2 with pr := upd G2.pr p (.dK kvs) } : Gst).pr a = some u := fun a u z => by
        have na : a ≠ p := fun y => by rw [y, pn] at z; cases z
        refine ⟨na, ?_⟩
        show upd G2.pr p (.dK kvs) a = some u
        rw [upd_ne na, x2.pr]
        show upd G.pr p _ a = some u
        rw [upd_ne na]; exact z
      obtain ⟨tt, et⟩ := x2.ι
      cases mu with
      | false =>
        rw [if_neg Bool.false_ne_true] at o1
        have fzm : ∀ a u, G2.fz a = some u → upd G2.fz p (.dK kvs) a = some u := fun a u z => by
          have na : a ≠ p := fun y => by rw [y, z2] at z; cases z
          rw [upd_ne na]; exact z
        have x0 : Ext0 G2 { G2 with pr := G.pr, fz := upd G2.fz p (.dK kvs) } := ⟨⟨[], (List.append_nil _).symm⟩, fzm⟩
        exact o1 { G2 with pr := G.pr, fz := upd G2.fz p (.dK kvs) } _ (.ref p) ⟨⟨tt, et⟩, fun a u z => fzm a u (x2.fz a u z), rfl⟩ (r3.unguard hpr3 hpr0) (.dic upd_same (e3.mono0 x0) (e4.mono0 x0))
      | true =>
        rw [if_pos rfl] at o1
        obtain ⟨x5, r5⟩ := r3.unguardO (u := .dic ks vs) hpr3 hpr0 fun G' x hi ho _ => ⟨p, kvs, hi, ho, upd_same, RDs.mono0 (G := G2) ⟨x.ι, x.fz⟩ e3, RDs.mono0 (G := G2) ⟨x.ι, x.fz⟩ e4⟩
        refine o1 (Gst.give { G2 with pr := upd G2.pr p (.dK kvs) } p G.pr) _ (.ref p) ⟨⟨tt ++ [p], ?_⟩, fun a u z => x2.fz a u z, rfl⟩ r5 (.ref ?_)
        · show G2.ι ++ [p] = G.ι ++ (tt ++ [p])
          rw [et, List.append_assoc]; rfl
        · show (G2.ι ++ [p])[h1.length]? = some p
          rw [← r2.len]; simp
    · rw [if_neg hk] at o1; exact o1.elim
def eDic0 (mu : Bool) : FnE := fun _ h1 => if mu = true then .ok (.ref h1.length) (h1 ++ [.dic [] []]) else .ok (.dic [] []) h1
theorem fe_dict0 {mu : Bool} : FE X T W (.Dict [] [] pos) (eDic0 mu) := by
  refine PE.imp pe_dnewK fun σ H Q => ?_
  rintro ⟨G, hh, δ, r, s, o⟩
  intro p hp
  unfold eDic0 at o
  cases mu with
  | false =>
    rw [if_neg Bool.false_ne_true] at o
    obtain ⟨x, r'⟩ := r.newF (o := .dK []) hp
    exact o _ _ _ x r' (.dic upd_same .nil .nil)
  | true =>
    rw [if_pos rfl] at o
    obtain ⟨x, r'⟩ := r.newO (o := .dK []) (u := .dic [] []) hp fun G' x hi ho _ => ⟨p, [], hi, ho, upd_same, .nil, .nil⟩
    refine o _ _ _ x r' (.ref ?_)
    show (G.ι ++ [p])[hh.length]? = some p
    rw [← r.len]; simp
end
end L3
set_option autoImplicit false
set_option maxHeartbeats 4000000
/-! L3J: what is never reached; the head's facts; defs by facts; a law's end. -/
namespace L3
open PySem PySem.Spec L2
open PyProof.Rows (envOfC IntsAre AllBare)
section
variable {X : Cx} {T : Tx} {W : WX} {pos : Pos}
def sNever : FnS := fun _ _ => .stk
def eNever : FnE := fun _ _ => .stk
theorem fs_never {st : Stmt} : FS X T W st sNever := ⟨fun _ _ _ _ _ _ ⟨_, _, _, _, _, o⟩ => o.elim⟩
theorem fe_never {e : Expr} : FE X T W e eNever := ⟨fun _ _ _ _ _ _ ⟨_, _, _, _, _, o⟩ => o.elim⟩
theorem fss_never {st : List Stmt} : FSs X T W st sNever := ⟨fun _ _ _ _ _ _ ⟨_, _, _, _, _, o⟩ => o.elim⟩
end
/-! ### constants -/
mutual
def cstB (K : PySem.W.Frag) : D → Value → Bool
  | .non, .none => true
  | .bl b, .bool c => b == c
  | .int i, .int j _ => decide (i = j)
  | .str x, .str y _ => decide (y = ⟨x.toArray⟩)
  | .tup ds, .ref a => (match K.lookup a with
    | some ⟨.type c, _, .seq its _, _⟩ => decide (c = "tuple") && (decide (its.size ≤ sizeLine) && cstsB K ds its.toList)
    | _ => false)
  | _, _ => false
def cstsB (K : PySem.W.Frag) : List D → List Value → Bool
  | [], [] => true
  | d :: ds, v :: vs => cstB K d v && cstsB K ds vs
  | _, _ => false
end
theorem two {a b : Bool} (h : (a && b) = true) : a = true ∧ b = true := by simpa using h
mutual
theorem cstB_ok {K : PySem.W.Frag} : ∀ (d : D) (u : Value), cstB K d u = true → ∃ v, RelV v u ∧ ∀ T, Cst K T d v
  | .non, u, h => by
    cases u <;> first | (exact ⟨.non, rfl, fun _ _ => .non⟩) | (simp [cstB] at h)
  | .bl b, u, h => by
    cases u with
    | bool c =>
      have e : b = c := by simpa [cstB] using h
      subst e
      exact ⟨.bl b, rfl, fun _ _ => .bl⟩
    | _ => simp [cstB] at h
  | .int i, u, h => by
    cases u with
    | int j t =>
      have e : i = j := by simpa [cstB] using h
      subst e
      exact ⟨.int i, ⟨t, rfl⟩, fun _ _ => .int⟩
    | _ => simp [cstB] at h
  | .str x, u, h => by
    cases u with
    | str y t =>
      have e : y = ⟨x.toArray⟩ := by simpa [cstB] using h
      subst e
      exact ⟨.str ⟨x.toArray⟩, ⟨t, rfl⟩, fun _ _ => .str⟩
    | _ => simp [cstB] at h
  | .tup ds, u, h => by
    cases u with
    | ref a =>
      unfold cstB at h
      cases q : K.lookup a with
      | none => rw [q] at h; cases h
      | some o =>
        obtain ⟨oc, od, dt, osl⟩ := o
        rw [q] at h
        cases oc with
        | type c =>
          cases dt with
          | seq its n =>
            obtain ⟨h1, h2⟩ := two h
            obtain ⟨h3, h4⟩ := two h2
            obtain ⟨vs, r, rd⟩ := cstsB_ok ds its.toList h4
            exact ⟨.ref a, rfl, fun T G => .tup (.inr ⟨_, its, n, q, congrArg Value.type (of_decide_eq_true h1), rfl, of_decide_eq_true h3, r⟩) (rd T G)⟩
          | _ => cases h
        | _ => cases dt <;> cases h
    | _ => simp [cstB] at h
  | .lst _, u, h => by simp [cstB] at h
  | .dic _ _, u, h => by simp [cstB] at h
  | .obj _ _, u, h => by simp [cstB] at h
  | .ref _, u, h => by simp [cstB] at h
  | .scr _, u, h => by simp [cstB] at h
theorem cstsB_ok {K : PySem.W.Frag} : ∀ (ds : List D) (us : List Value), cstsB K ds us = true → ∃ vs, Vals vs us ∧ ∀ T G, RDs K T G ds vs
  | [], us, h => by
    cases us with
    | nil => exact ⟨[], .nil, fun _ _ => .nil⟩
    | cons _ _ => simp [cstsB] at h
  | d :: ds, us, h => by
    cases us with
    | nil => simp [cstsB] at h
    | cons u us =>
      have h' : cstB K d u = true ∧ cstsB K ds us = true := by simpa [cstsB] using h
      obtain ⟨v, r, c⟩ := cstB_ok d u h'.1
      obtain ⟨vs, rs, cs⟩ := cstsB_ok ds us h'.2
      exact ⟨v :: vs, .cons r rs, fun T G => .cons (c T G) (cs T G)⟩
end
/-! ### facts -/
open He (ga ma fAd eqO eqO_ok FnW)
/-- a property's object, its getter -/
def pgA (K : PySem.W.Frag) (x f : Str) : Addr × Addr := match PySem.W.findIn K (.ref (ga K x)) f with
  | some (some (.ref p)) => (match PySem.W.recIn K p "property" with
    | some (.ref g :: _) => (p, g)
    | _ => (p, 0))
  | _ => (0, 0)
def prB (K : PySem.W.Frag) (x f : Str) (p g : Addr) : Bool := eqO (PySem.W.findIn K (.ref (ga K x)) f) (some (some (.ref p))) && (eqO (PySem.W.specialIn K (.ref p) "__get__") (some (some (.builtin "property.__get__"))) &&
  (decide (PySem.W.takesIn K (.ref p) = some true) && (match PySem.W.recIn K p "property" with
    | some (.ref g' :: _) => decide (g' = g)
    | _ => false)))
theorem prB_ok {K : PySem.W.Frag} {x f : Str} {p g : Addr} (h : prB K x f p g = true) : PropOf K (ga K x) f p g := by
  obtain ⟨h1, h2⟩ := two h
  obtain ⟨h3, h4⟩ := two h2
  obtain ⟨h5, h6⟩ := two h4
  refine ⟨eqO_ok h1, eqO_ok h3, of_decide_eq_true h5, ?_⟩
  cases q : PySem.W.recIn K p "property" with
  | none => rw [q] at h6; cases h6
  | some r =>
    rw [q] at h6
    match r, h6 with
    | .ref g' :: rest, h6 =>
      have e : g' = g := of_decide_eq_true h6
      subst e
      exact ⟨rest, rfl⟩
def isiB (K : PySem.W.Frag) (C : Addr) : Bool := eqO (PySem.W.findIn K (.ref C) "__class__") (some (some (.builtin "object.__class__"))) && (eqO (PySem.W.specialIn K (.builtin "object.__class__") "__get__") (some (some (.builtin "getset_descriptor.__get__"))) &&
  (decide (PySem.W.takesIn K (.builtin "object.__class__") = some true) && (decide (PySem.W.mroIn K C (.type "object") = some true) && (decide (PySem.W.kitOne K (.ref C) (.ref C) = some true) &&
  (decide (PySem.W.kitOne K (.type "NoneType") (.ref C) = some false) && (decide (PySem.W.kitOne K (.type "bool") (.ref C) = some false) && (decide (PySem.W.kitOne K (.type "int") (.ref C) = some false) && (decide (PySem.W.kitOne K (.type "str") (.ref C) = some false) &&
  (decide (PySem.W.kitOne K (.type "tuple") (.ref C) = some false) && (decide (PySem.W.kitOne K (.type "list") (.ref C) = some false) && decide (PySem.W.kitOne K (.type "dict") (.ref C) = some false)))))))))))
/-- what isinstance asks of a class of the text's own -/
structure IsiC (K : PySem.W.Frag) (C : Addr) : Prop where
  ha : PySem.W.findIn K (.ref C) "__class__" = some (some (.builtin "object.__class__"))
  hn : PySem.W.specialIn K (.builtin "object.__class__") "__get__" = some (some (.builtin "getset_descriptor.__get__"))
  ht : PySem.W.takesIn K (.builtin "object.__class__") = some true
  hm : PySem.W.mroIn K C (.type "object") = some true
  me : PySem.W.kitOne K (.ref C) (.ref C) = some true
  n0 : PySem.W.kitOne K (.type "NoneType") (.ref C) = some false
  n1 : PySem.W.kitOne K (.type "bool") (.ref C) = some false
  n2 : PySem.W.kitOne K (.type "int") (.ref C) = some false
  n3 : PySem.W.kitOne K (.type "str") (.ref C) = some false
  n4 : PySem.W.kitOne K (.type "tuple") (.ref C) = some false
  n5 : PySem.W.kitOne K (.type "list") (.ref C) = some false
  n6 : PySem.W.kitOne K (.type "dict") (.ref C) = some false
theorem isiB_ok {K : PySem.W.Frag} {C : Addr} (h : isiB K C = true) : IsiC K C := by
  obtain ⟨a1, h⟩ := two h
  obtain ⟨a2, h⟩ := two h
  obtain ⟨a3, h⟩ := two h
  obtain ⟨a4, h⟩ := two h
  obtain ⟨a5, h⟩ := two h
  obtain ⟨a6, h⟩ := two h
  obtain ⟨a7, h⟩ := two h
  obtain ⟨a8, h⟩ := two h
  obtain ⟨a9, h⟩ := two h
  obtain ⟨b1, h⟩ := two h
  obtain ⟨b2, b3⟩ := two h
  exact ⟨eqO_ok a1, eqO_ok a2, of_decide_eq_true a3, of_decide_eq_true a4, of_decide_eq_true a5, of_decide_eq_true a6, of_decide_eq_true a7, of_decide_eq_true a8, of_decide_eq_true a9, of_decide_eq_true b1, of_decide_eq_true b2, of_decide_eq_true b3⟩
inductive Fl where
  | isi (x : Str)
  | k (f : He.Fa)
  | gc (x : Str) (d : D)
  | pr (x f : Str)
def Fl.ok (K : PySem.W.Frag) : Fl → Bool
  | .isi x => isiB K (ga K x)
  | .k f => f.ok K
  | .gc x d => (match PySem.W.nsIn K mainGlobals x with
    | some (some u) => cstB K d u
    | _ => false)
  | .pr x f => prB K x f (pgA K x f).1 (pgA K x f).2
theorem gc_ok {K : PySem.W.Frag} {h : Heap} {mg : Str → Option Value} {x : Str} {d : D} (X : K.In h) (G : h.Ns mainGlobals mg) (c : (Fl.gc x d).ok K = true) : ∃ u v, mg x = some u ∧ RelV v u ∧ ∀ T, Cst K T d v := by
  have c2 : (match PySem.W.nsIn K mainGlobals x with
    | some (some u) => cstB K d u
    | _ => false) = true := c
  cases e : PySem.W.nsIn K mainGlobals x with
  | none => rw [e] at c2; cases c2
  | some o =>
    cases o with
    | none => rw [e] at c2; cases c2
    | some u =>
      rw [e] at c2
      obtain ⟨v, r, k⟩ := cstB_ok d u c2
      exact ⟨u, v, PySem.W.mg_of X G e, r, k⟩
/-! ### defs -/
structure DefL where
  at_ : Str × Option Str
  pr : Bool
  name : Str
  qual : Str
  params : Arguments
  body : List Stmt
  scope : Scope
  dfl : List He.Dv := []
def DefL.ad (K : PySem.W.Frag) (d : DefL) : Addr := match d.pr, d.at_ with
  | true, (x, some f) => (pgA K x f).2
  | _, p => fAd K p
def DefL.val (d : DefL) : FnW := some (d.name, d.qual, d.params, .stmts d.body, d.scope, mainGlobals, [], builtinsNs)
def fnL (K : PySem.W.Frag) (a : Addr) : FnW := match K.lookup a with
  | some ⟨_, _, .func g, _⟩ => some (g.name, g.qualname, g.params, g.body, g.scope, g.globals, g.closure, g.builtins)
  | _ => none
def DefL.ok (K : PySem.W.Frag) (d : DefL) : Bool := PySem.W.keepIn K (.ref (d.ad K)) && (match K.lookup (d.ad K) with
  | some ⟨_, _, .func g, _⟩ => PySem.W.codeIn K g.code d.qual && He.dflB K g.defaults (d.dfl.map (He.Dv.v K))
  | _ => false)
theorem DefL.funD {K : PySem.W.Frag} {d : DefL} (e : fnL K (d.ad K) = d.val) (c : d.ok K = true) : ∃ fd, FunD K d.name d.qual d.params d.body d.scope (d.dfl.map (He.Dv.v K)) [] (d.ad K) fd := by
  obtain ⟨kp, c2⟩ := two c
  unfold fnL at e
  cases q : K.lookup (d.ad K) with
  | none => rw [q] at c2; cases c2
  | some o =>
    obtain ⟨oc, od, dt, osl⟩ := o
    rw [q] at c2 e
    cases dt with
    | func g =>
      obtain ⟨a1, a2, a3, a4, a5, a6, a7, a8, a9, a10, a11, a12, a13, a14, a15⟩ := g
      have said : (some (a1, a2, a3, a4, a5, a6, a7, a15) : FnW) = some (d.name, d.qual, d.params, .stmts d.body, d.scope, mainGlobals, [], builtinsNs) := e
      simp only [Option.some.injEq, Prod.mk.injEq] at said
      obtain ⟨z1, z2, z3, z4, z5, z6, z7, z8⟩ := said
      subst z1 z2 z3 z4 z5 z6 z7 z8
      obtain ⟨k1, k2⟩ := two (show (PySem.W.codeIn K a13 d.qual && He.dflB K a8 (d.dfl.map (He.Dv.v K))) = true from c2)
      exact ⟨_, ⟨oc, od, a8, a9, a10, a11, a12, a13, a14, osl, rfl, q, k1, He.dflB_ok k2, .inl rfl⟩, kp⟩
    | _ => cases c2
/-! ### the Hook -/
abbrev AlL : Type := Bool × List FnW
def obsL (fl : List Fl) (fn : List DefL) (K : PySem.W.Frag) : AlL := ((fl.all fun f => f.ok K) && fn.all fun d => d.ok K, fn.map fun d => fnL K (d.ad K))
def valL (fn : List DefL) : AlL := (true, fn.map DefL.val)
def SaysL (fl : List Fl) (fn : List DefL) (K : PySem.W.Frag) : Prop := obsL fl fn K = valL fn
def obsLG (n : Nat) (fl : List Fl) (fn : List DefL) (g : Addr → Option Obj) : AlL := obsL fl fn (He.frG g (He.asD g n))
def hookL (n : Nat) (fl : List Fl) (fn : List DefL) : PySem.W.Hook where
  α := AlL
  obs := fun s => obsLG n fl fn s.heap.get?
  val := fun _ => valL fn
  says := fun _ h => ∃ K : PySem.W.Frag, K.In h ∧ SaysL fl fn K
  of := fun _ _ e => ⟨_, He.frG_in, e⟩
  keeps := fun _ _ _ ⟨K, hK, c⟩ k => ⟨K, PySem.W.Frag.In.keeps hK k, c⟩
theorem obsLG_eq {n : Nat} {fl : List Fl} {fn : List DefL} {g : Addr → Option Obj} {s : Shared} (h : ∀ a, g a = s.heap.get? a) : obsLG n fl fn g = (hookL n fl fn).obs s := by
  have e : g = s.heap.get? := funext h
  rw [e] <;> rfl
theorem SaysL.fact {fl : List Fl} {fn : List DefL} {K : PySem.W.Frag} (c : SaysL fl fn K) (i : Nat) {f : Fl} (h : fl[i]? = some f := by rfl) : f.ok K = true := by
  have c1 := (two (show ((fl.all fun f => f.ok K) && fn.all fun d => d.ok K) = true from congrArg (fun z : AlL => z.1) c)).1
  exact List.all_eq_true.mp c1 f (List.mem_of_getElem? h)
theorem SaysL.def_ {fl : List Fl} {fn : List DefL} {K : PySem.W.Frag} (c : SaysL fl fn K) (i : Nat) {d : DefL} (h : fn[i]? = some d := by rfl) : ∃ fd, FunD K d.name d.qual d.params d.body d.scope (d.dfl.map (He.Dv.v K)) [] (d.ad K) fd := by
  have c2 := (two (show ((fl.all fun f => f.ok K) && fn.all fun d => d.ok K) = true from congrArg (fun z : AlL => z.1) c)).2
  have e : fn.map (fun d => fnL K (d.ad K)) = fn.map DefL.val := congrArg (fun z : AlL => z.2) c
  have e2 : (fn.map fun d => fnL K (d.ad K))[i]? = (fn.map DefL.val)[i]? := by rw [e]
  rw [List.getElem?_map, List.getElem?_map, h] at e2
  exact DefL.funD (Option.some.inj e2) (List.all_eq_true.mp c2 d (List.mem_of_getElem? h))
/-- what is known of the text's names -/
structure Bs (fl : List Fl) (fn : List DefL) (K : PySem.W.Frag) (mg : Str → Option Value) : Prop where
  c : SaysL fl fn K
  h : ∃ h : Heap, K.In h ∧ h.Ns mainGlobals mg
section
variable {fl : List Fl} {fn : List DefL} {K : PySem.W.Frag} {mg : Str → Option Value}
theorem Bs.glo (B : Bs fl fn K mg) (i : Nat) {x : Str} (h : fl[i]? = some (.k (.glo x)) := by rfl) : mg x = some (.ref (ga K x)) := by
  obtain ⟨hp, X, G⟩ := B.h
  exact He.glo_ok X G (B.c.fact i h)
theorem Bs.free (B : Bs fl fn K mg) (i : Nat) {x : Str} (h : fl[i]? = some (.k (.free x)) := by rfl) : mg x = none := by
  obtain ⟨hp, X, G⟩ := B.h
  exact He.free_ok X G (B.c.fact i h)
theorem Bs.gc (B : Bs fl fn K mg) (i : Nat) {x : Str} {d : D} (h : fl[i]? = some (.gc x d) := by rfl) : ∃ u v, mg x = some u ∧ RelV v u ∧ ∀ T, Cst K T d v := by
  obtain ⟨hp, X, G⟩ := B.h
  exact gc_ok X G (B.c.fact i h)
theorem Bs.cls (B : Bs fl fn K mg) (i : Nat) {x : Str} (h : fl[i]? = some (.k (.cls x)) := by rfl) : Cls K (ga K x) := He.cls_ok (B.c.fact i h)
theorem Bs.isi (B : Bs fl fn K mg) (i : Nat) {x : Str} (h : fl[i]? = some (.isi x) := by rfl) : IsiC K (ga K x) := isiB_ok (B.c.fact i h)
theorem Bs.noat (B : Bs fl fn K mg) (i : Nat) {x f : Str} (h : fl[i]? = some (.k (.noat x f)) := by rfl) : NoAttr K (ga K x) f := He.noat_ok (B.c.fact i h)
theorem Bs.meth (B : Bs fl fn K mg) (i : Nat) {x m : Str} (h : fl[i]? = some (.k (.meth x m)) := by rfl) : Meth K (ga K x) m (ma K (ga K x) m) := He.meth_ok (B.c.fact i h)
theorem Bs.mkr (B : Bs fl fn K mg) (i : Nat) {x : Str} (h : fl[i]? = some (.k (.mkr x)) := by rfl) : Mk K (ga K x) (ma K (ga K x) "__init__") := He.mkr_ok (B.c.fact i h)
theorem Bs.pr (B : Bs fl fn K mg) (i : Nat) {x f : Str} (h : fl[i]? = some (.pr x f) := by rfl) : PropOf K (ga K x) f (pgA K x f).1 (pgA K x f).2 := prB_ok (B.c.fact i h)
end
theorem fe_gc {X : Cx} {T : Tx} {W : WX} {pos : Pos} {x : Str} {d : D} (hg : Gl X x) (h : ∃ u v, X.mg x = some u ∧ RelV v u ∧ ∀ T, Cst X.K T d v) (hd : (x == ("__debug__" : Str)) = false := by decide) : FE X T W (.Name x pos) (eC d) := by
  obtain ⟨u, v, h1, h2, h3⟩ := h
  exact fe_glob hg h1 h2 (h3 T) hd
/-- a def by its facts -/
theorem def_okD {P : Program} {w : World} {K : PySem.W.Frag} {mg : Str → Option Value} {base : Heap} {T : Tx} {x qual : Str} {params : Arguments} {body : List Stmt} {scope : Scope} {dvs : List V} {kws : List (Str × V)} {f : Addr} {fd : FuncData} {N ps : List Str} {k : Nat} {u : FnS} (F : FunD K x qual params body scope dvs kws f fd) (S : FnScope N ps scope)
    (hb : ∀ (cdv : Value) (A : Around) (outer : List Env) (s : Shared) (H : Hp) (E : XK) (W : WX), RoomG k (A.deeper (envOfC qual scope s.heap.objs.size f cdv)) →
      Takes (cxOf (L2.CX P w) P w K mg base N qual scope f cdv A outer s H E) W → FSs (cxOf (L2.CX P w) P w K mg base N qual scope f cdv A outer s H E) T W body u) :
    FnL P w K mg base T (k + 1) f fd ps (runD N.length u) :=
  fnQ_of F S (fun vs H Q E h => h.1) fun cdv A outer s H vs Q E hr h => ⟨_, hb cdv A outer s H E _ hr (takes_of rfl rfl rfl rfl), def_read h⟩
/-! ### a law's end -/
def noH : Hp := fun _ => none
theorem law_sp {K : PySem.W.Frag} {T : Tx} {sem : Sem3} {H : Hp} {a : Addr} {ns : List Int} (hS : SqL K H a (ns.map V.int)) (hp : ∃ h', sem [.scr (ns.map D.int)] [] = .ok (.bl true) h') : sp3 K T 1 sem [.ref a] H (fun v _ => v = .bl true) fun _ _ _ => False := by
  obtain ⟨h', e⟩ := hp
  refine ⟨rfl, ⟨[], fun _ => none, H, noH⟩, [], [.scr (ns.map D.int)], ⟨rfl, fun a o h => h, fun a n h => absurd h (by simp), fun a o h => absurd h (by simp [noH]), fun n o h => absurd h (by simp)⟩, .cons (.scr hS ?_) .nil, ?_⟩
  · have : ∀ ns : List Int, RDs K T ⟨[], fun _ => none, H, noH⟩ (ns.map D.int) (ns.map V.int) := fun ns => by
      induction ns with
      | nil => exact .nil
      | cons n ns ih => exact .cons .int ih
    exact this ns
  · rw [e]
    intro G' H' v x r d
    cases d
    rfl
/-- the law's def, called on the script behind the top -/
theorem law_callQ {P : Program} {w : World} {K : PySem.W.Frag} {mg mb : Str → Option Value} {CX : CXT} {k : Nat} {fa a : Addr} {fd : FuncData} {x : Str} {sp : Sp} {s : Shared} {vs : List Value} {ns : List Int}
    (KX : K.In s.heap) (hns : s.heap.Ns mainGlobals mg) (hb : s.heap.Ns builtinsNs mb) (hbb : ∀ x : Str, x ≠ "__name__" → mb x = bootBuiltins x) (hlim : s.heap.NoLimit) (hg : s.gens = #[])
    (ha : s.heap.get? a = some { cls := .type "list", data := .seq vs.toArray }) (hi : IntsAre vs ns) (hl : ns.length ≤ sizeLine) (hr : Room k callerA)
    (F : ∀ base : Heap, FnQ P w K mg base CX k fa fd [x] sp) (bd : ∀ (s : Shared) (u : Value), BindsTo s fd ⟨[u], []⟩ [(x, u)])
    (hsp : ∀ H : Hp, SqL K H a (ns.map V.int) → sp [.ref a] H (fun v _ => v = .bl true) fun _ _ _ => False)
    (noex : ∀ H e s', CX [] H s (fun _ _ _ => False) e s' → False) :
    codeAny (model P w) callerA (.call (.ref fa) ⟨[.ref a], []⟩) (fun r s' => r = .ok (.ret (.bool true)) ∧ OldK s.heap s'.heap ∧ s'.os = s.os ∧ AllBare s'.gens) s := by
  have valsI := vals_ints hi
  have many := hi.length
  -- the heap that is told: nothing but the script, if it is no object of the module
  have main : ∀ H : Hp, (∀ b, H b = none ∨ (b = a ∧ K.lookup a = none ∧ ∃ o xs, H b = some (.frz o (.lst xs)))) → SqL K H a (ns.map V.int) → HOk P w H s.heap →
      codeAny (model P w) callerA (.call (.ref fa) ⟨[.ref a], []⟩) (fun r s' => r = .ok (.ret (.bool true)) ∧ OldK s.heap s'.heap ∧ s'.os = s.os ∧ AllBare s'.gens) s := by
    intro H told hS hok
    have notold : ∀ {b : Addr} {o : Obj}, s.heap.get? b = some o → (b = a → K.lookup a = none → False) → H b = none := fun {b o} e n => (told b).elim id fun q => (n q.1 q.2.1).elim
    have dicts : ∀ {b : Addr} {m : Str → Option Value}, s.heap.Ns b m → (hidT s.heap H).Ns b m := fun {b m} ⟨o, es, ep, e, d, r⟩ => ⟨o, es, ep, hidT_get e (notold e fun q _ => by
      subst q
      rw [ha] at e; cases e
      exact absurd (show Data.seq vs.toArray _ = Data.dict es ep from d) (by simp)), d, r⟩
    have kin : K.In (hidT s.heap H) := fun b o e => hidT_get (KX b o e) (notold (KX b o e) fun q n => by subst q; rw [n] at e; cases e)
    have md : Mod K mg (hidT s.heap H) := ⟨kin, dicts hns, ⟨mb, dicts hb, hbb⟩, let ⟨mc, h1, h2⟩ := hlim; ⟨mc, dicts h1, h2⟩⟩
    have e0 : Env0 P w K mg (hidT s.heap H) callerA [] s H := ⟨rfl, md, fun b o e => of_hidT e, Nat.le_of_eq (hidT_size _ _), trivial, fun b hb => absurd (show b ∈ ([] : List Addr) from hb) (by simp), hok, .of_eq hg⟩
    refine codeAny_mono ((F (hidT s.heap H)).go callerA [] s H ⟨[.ref a], []⟩ [.ref a] [.ref a] _ _ ⟨hr, rfl⟩ e0 (bd s (.ref a)) (.cons rfl .nil) (hsp H hS)) fun r s' h => ?_
    match r, h with
    | .error e, h => exact (noex H e s' h).elim
    | .ok .next, h => exact h.elim
    | .ok .brk, h => exact h.elim
    | .ok .cont, h => exact h.elim
    | .ok (.ret u), ⟨v, H', os, bare, un, hok', r', q⟩ =>
      have eq : v = .bl true := q
      subst eq
      cases (show u = Value.bool true from r')
      refine ⟨rfl, OldK.of_keep fun b o e => ?_, os, bare⟩
      rcases told b with q | ⟨_, _, ob, xs, q⟩
      · exact un.keep b o e q (by intro z; exact absurd (show b ∈ ([] : List Addr) from z) (by simp)) (by simp)
      · obtain ⟨e1, _⟩ := hok b _ q
        obtain ⟨e2, _⟩ := hok' b _ (un.frzs b ob _ q)
        rw [e] at e1; cases e1
        exact e2
  cases hk : K.lookup a with
  | some o =>
    have e := KX a o hk
    rw [ha] at e
    cases e
    exact main (fun _ => none) (fun _ => .inl rfl) (.inr ⟨_, vs.toArray, _, hk, rfl, rfl, rfl, by rw [List.size_toArray, many]; exact hl, by simpa using valsI⟩) fun b u z => absurd (show (none : Option HO) = some u from z) (by simp)
  | none =>
    refine main (fun b => if b = a then some (.frz { cls := .type "list", data := .seq vs.toArray } (.lst (ns.map V.int))) else none) (fun b => ?_) (.inl (.inr ⟨{ cls := .type "list", data := .seq vs.toArray }, if_pos rfl⟩)) fun b u z => ?_
    · by_cases q : b = a
      · exact .inr ⟨q, hk, _, _, if_pos q⟩
      · exact .inl (if_neg q)
    · by_cases q : b = a
      · have z' := (if_pos q).symm.trans z
        cases z'
        subst q
        exact ⟨ha, by rw [List.length_map]; exact hl, vs, _, valsI, ha⟩
      · have z' := (if_neg q).symm.trans z
        cases z'
theorem law_end {l : PySem.W.OpenLaw} {n k : Nat} {q : Program} {loose : List Str} {XP : (Str → Option Value) → Heap → Prop} {d : DefRec} {x : Str} {fl : List Fl} {fn : List DefL} {m : Nat} {sem : Sem3} {TX : PySem.W.Frag → Tx} {params : Arguments} {body : List Stmt} {scope : Scope} (hn : l.most = some n) (hn2 : n ≤ sizeLine) (hdf : d.params.defaults = []) (hr : Room k callerA)
    (hnm : d.name = x) (i : Nat) (hi : fl[i]? = some (.k (.glo x)))
    (F : ∀ (w : World) (mg : Str → Option Value) (K : PySem.W.Frag), Bs fl fn K mg → ∃ fd, (∀ base, FnL l.prog w K mg base (TX K) k (ga K x) fd ["_law_script"] sem) ∧ ∀ (s : Shared) (u : Value), BindsTo s fd ⟨[u], []⟩ [("_law_script", u)])
    (hp : ∀ ns : List Int, ns.length ≤ n → ∃ h', sem [.scr (ns.map D.int)] [] = .ok (.bl true) h') :
    PySem.W.WalkO q loose XP (hookL m fl fn).says l.row.toRowW d [] (fun f vs => PySem.call f vs) := by
  refine Att.attach_call hn hdf fun w s0 s1 mg mb fa o pm cd doc a vs ns G Y ho hd hcd hmg hobj hints hlen hg => ?_
  obtain ⟨K, KX, c⟩ := Y
  have B : Bs fl fn K mg := ⟨c, _, KX, G.T.g⟩
  obtain ⟨fd, hF, hb⟩ := F w mg K B
  have e := (hnm ▸ hmg : mg x = some (.ref fa)).symm.trans (B.glo i hi)
  cases e
  exact law_callQ KX G.T.g G.T.b G.T.builtins G.T.nolimit hg hobj hints (Nat.le_trans hlen hn2) hr hF hb (fun H hS => law_sp hS (hp ns hlen)) fun H e s' z => by
    obtain ⟨_, _, _, _, _, _, _, _, _, _, _, _, f⟩ := z
    exact f
end L3
set_option autoImplicit false
set_option maxHeartbeats 4000000
/-! L3K: rows for plain reckoning. -/
namespace L3
open PySem PySem.Spec L2
theorem addI (i j : Int) (h : Hh) : addD (.int i) (.int j) h = .ok (.int (i + j)) h := rfl
theorem subI (i j : Int) (h : Hh) : subD (.int i) (.int j) h = .ok (.int (i - j)) h := rfl
theorem negI (i : Int) (h : Hh) : negD (.int i) h = .ok (.int (-i)) h := rfl
theorem mulL {i j : Int} (h : Hh) (h1 : -18446744073709551616 < i) (h2 : i < 18446744073709551616) : mulD (.int i) (.int j) h = .ok (.int (i * j)) h := by
  have e : mulOk i j = true := by
    unfold mulOk
    simp only [Bool.or_eq_true, Bool.and_eq_true, decide_eq_true_eq]
    exact .inl (.inl ⟨by omega, by omega⟩)
  show (if mulOk i j = true then R.ok (D.int (i * j)) h else .stk) = _
  rw [if_pos e]
theorem mulR {i j : Int} (h : Hh) (h1 : -18446744073709551616 < j) (h2 : j < 18446744073709551616) : mulD (.int i) (.int j) h = .ok (.int (i * j)) h := by
  have e : mulOk i j = true := by
    unfold mulOk
    simp only [Bool.or_eq_true, Bool.and_eq_true, decide_eq_true_eq]
    exact .inl (.inr ⟨by omega, by omega⟩)
  show (if mulOk i j = true then R.ok (D.int (i * j)) h else .stk) = _
  rw [if_pos e]
theorem divI {i j : Int} (h : Hh) (h1 : 0 < j) (h2 : j < 18446744073709551616) : divD (.int i) (.int j) h = .ok (.int (i / j)) h := by
  show (if 0 < j ∧ j.natAbs.log2 < 9000 then R.ok (D.int (i / j)) h else .stk) = _
  rw [if_pos ⟨h1, (wide_div (i := i) (b := 64) h1 (by omega) (by decide) (by decide)).2⟩]
theorem divW {i j : Int} {b : Nat} (h : Hh) (h1 : 0 < j) (h2 : j.natAbs < 2 ^ b) (h0 : 0 < b) (h9 : b ≤ 9000) : divD (.int i) (.int j) h = .ok (.int (i / j)) h := by
  show (if 0 < j ∧ j.natAbs.log2 < 9000 then R.ok (D.int (i / j)) h else .stk) = _
  rw [if_pos ⟨h1, (wide_div (i := i) h1 h2 h0 h9).2⟩]
theorem mulW {i j : Int} {a b : Nat} (h : Hh) (ha : i.natAbs < 2 ^ a) (hb : j.natAbs < 2 ^ b) (h0 : 0 < a) (h1 : 0 < b) (hs : a + b ≤ 1000000) : mulD (.int i) (.int j) h = .ok (.int (i * j)) h := by
  have w : i.natAbs.log2 + j.natAbs.log2 < 1000000 := wide_mul ha hb h0 h1 hs
  have e : mulOk i j = true := by
    unfold mulOk
    simp only [Bool.or_eq_true, Bool.and_eq_true, decide_eq_true_eq]
    exact .inr w
  show (if mulOk i j = true then R.ok (D.int (i * j)) h else .stk) = _
  rw [if_pos e]
theorem absI (i : Int) (h : Hh) : absD (.int i) h = .ok (.int (if i < 0 then -i else i)) h := rfl
theorem max2I (i j : Int) (h : Hh) : max2B [.int i, .int j] h = .ok (.int (if j > i then j else i)) h := rfl
theorem min2I (i j : Int) (h : Hh) : min2B [.int i, .int j] h = .ok (.int (if j < i then j else i)) h := rfl
theorem modI {i j : Int} (h : Hh) (h1 : 0 < j) : modD (.int i) (.int j) h = .ok (.int (i % j)) h := by
  show (if 0 < j then R.ok (D.int (i % j)) h else .stk) = _
  rw [if_pos h1]
theorem ltI (i j : Int) (h : Hh) : ltD (.int i) (.int j) h = .ok (.bl (decide (i < j))) h := rfl
theorem leI (i j : Int) (h : Hh) : leD (.int i) (.int j) h = .ok (.bl (decide (i ≤ j))) h := rfl
theorem gtI (i j : Int) (h : Hh) : gtD (.int i) (.int j) h = .ok (.bl (decide (j < i))) h := rfl
theorem geI (i j : Int) (h : Hh) : geD (.int i) (.int j) h = .ok (.bl (decide (j ≤ i))) h := rfl
theorem eqvI (i j : Int) : eqv (.int i) (.int j) = decide (i = j) := by simp [eqv, pd, PyData.eqv]; rfl
theorem eqvB (i j : Bool) : eqv (.bl i) (.bl j) = decide (i = j) := by cases i <;> cases j <;> simp [eqv, pd, PyData.eqv]
theorem eqI (i j : Int) (h : Hh) : eqD (.int i) (.int j) h = .ok (.bl (decide (i = j))) h := by
  simp [eqD, deref, flat, eqvI]
theorem neI (i j : Int) (h : Hh) : neD (.int i) (.int j) h = .ok (.bl (!decide (i = j))) h := by
  simp [neD, deref, flat, eqvI]
theorem flats_ints (k : Nat) : ∀ xs : List Int, flats k (xs.map D.int) = true
  | [] => by simp [flats]
  | x :: xs => by simp [flats, flat, flats_ints k xs]
theorem flats_bls (k : Nat) : ∀ xs : List Bool, flats k (xs.map D.bl) = true
  | [] => by simp [flats]
  | x :: xs => by simp [flats, flat, flats_bls k xs]
theorem eqv_nil (ds : List D) : eqv (.lst ds) (.lst []) = ds.isEmpty := by
  cases ds <;> simp [eqv, pd, pds, PyData.eqv, PyData.eqvAll]
/-- list of ints != [] -/
theorem neNil {h : Hh} {n : Nat} {xs : List Int} (e : h[n]? = some (.lst (xs.map D.int))) : neD (.ref n) (.lst []) h = .ok (.bl (!xs.isEmpty)) h := by
  have d : deref h (.ref n) = .lst (xs.map D.int) := by unfold deref; dsimp only; rw [e]
  have f : flat 60 (D.lst (xs.map D.int)) = true := by simp only [flat]; exact flats_ints 59 xs
  have f0 : flat 60 (D.lst []) = true := by simp [flat, flats]
  have d0 : deref h (.lst []) = .lst [] := rfl
  unfold neD
  rw [d, d0, if_pos ⟨f, f0⟩, eqv_nil]
  cases xs <;> rfl
theorem ixDic {h : Hh} {n : Nat} {ks vs : List D} {x : D} (e : h[n]? = some (.dic ks vs)) (hx : isKey x = true) : ixA (.ref n) x h = optR (lookD ks vs x) h := by
  have a : asDic h (.ref n) = some (ks, vs) := by unfold asDic; dsimp only; rw [e]
  unfold ixA
  rw [a]
  simp only [hx, if_true]
theorem ixLstR {h : Hh} {n : Nat} {ds : List D} {x : D} (e : h[n]? = some (.lst ds)) : ixA (.ref n) x h = ixD (.lst ds) x h := by
  have a : asDic h (.ref n) = none := by unfold asDic; dsimp only; rw [e]
  have l : asL h (.ref n) = some ds := by unfold asL; dsimp only; rw [e]
  unfold ixA
  rw [a]
  have l2 : asL h (.lst ds) = some ds := rfl
  cases x <;> simp only [ixD, l, l2]
theorem ixTup {ds : List D} {x : D} {h : Hh} : ixA (.tup ds) x h = ixD (.tup ds) x h := rfl
theorem ixLst {ds : List D} {x : D} {h : Hh} : ixA (.lst ds) x h = ixD (.lst ds) x h := rfl
theorem atI_some {α : Type} {xs : List α} {i : Int} {d : α} (h0 : 0 ≤ i) (e : xs[i.toNat]? = some d) : atI xs i = some d := by
  have hl := (List.getElem?_eq_some_iff.mp e).1
  unfold atI ixN
  rw [if_pos h0, if_pos (by omega)]
  exact e
theorem ixTupAt {ds : List D} {i : Int} {d : D} {h : Hh} (h0 : 0 ≤ i) (e : ds[i.toNat]? = some d) : ixA (.tup ds) (.int i) h = .ok d h := by
  rw [ixTup]; unfold ixD; dsimp only; rw [atI_some h0 e]
theorem ixLstAt {ds : List D} {i : Int} {d : D} {h : Hh} (h0 : 0 ≤ i) (e : ds[i.toNat]? = some d) : ixA (.lst ds) (.int i) h = .ok d h := by
  rw [ixLst]
  have a : asL h (.lst ds) = some ds := rfl
  unfold ixD
  simp only [a, atI_some h0 e]
theorem ixRefAt {h : Hh} {n : Nat} {ds : List D} {i : Int} {d : D} (e : h[n]? = some (.lst ds)) (h0 : 0 ≤ i) (e2 : ds[i.toNat]? = some d) : ixA (.ref n) (.int i) h = .ok d h := by
  rw [ixLstR e, ← ixLst]
  exact ixLstAt h0 e2
theorem tup0 {a0 : D} {r : List D} {h : Hh} : ixA (.tup (a0 :: r)) (.int 0) h = .ok a0 h := ixTupAt (by omega) rfl
theorem tup1 {a0 a1 : D} {r : List D} {h : Hh} : ixA (.tup (a0 :: a1 :: r)) (.int 1) h = .ok a1 h := ixTupAt (by omega) rfl
theorem tup2 {a0 a1 a2 : D} {r : List D} {h : Hh} : ixA (.tup (a0 :: a1 :: a2 :: r)) (.int 2) h = .ok a2 h := ixTupAt (by omega) rfl
theorem tup3 {a0 a1 a2 a3 : D} {r : List D} {h : Hh} : ixA (.tup (a0 :: a1 :: a2 :: a3 :: r)) (.int 3) h = .ok a3 h := ixTupAt (by omega) rfl
theorem tup4 {a0 a1 a2 a3 a4 : D} {r : List D} {h : Hh} : ixA (.tup (a0 :: a1 :: a2 :: a3 :: a4 :: r)) (.int 4) h = .ok a4 h := ixTupAt (by omega) rfl
theorem tup5 {a0 a1 a2 a3 a4 a5 : D} {r : List D} {h : Hh} : ixA (.tup (a0 :: a1 :: a2 :: a3 :: a4 :: a5 :: r)) (.int 5) h = .ok a5 h := ixTupAt (by omega) rfl
theorem tup6 {a0 a1 a2 a3 a4 a5 a6 : D} {r : List D} {h : Hh} : ixA (.tup (a0 :: a1 :: a2 :: a3 :: a4 :: a5 :: a6 :: r)) (.int 6) h = .ok a6 h := ixTupAt (by omega) rfl
theorem tup7 {a0 a1 a2 a3 a4 a5 a6 a7 : D} {r : List D} {h : Hh} : ixA (.tup (a0 :: a1 :: a2 :: a3 :: a4 :: a5 :: a6 :: a7 :: r)) (.int 7) h = .ok a7 h := ixTupAt (by omega) rfl
theorem lst0 {a0 : D} {r : List D} {h : Hh} : ixA (.lst (a0 :: r)) (.int 0) h = .ok a0 h := ixLstAt (by omega) rfl
theorem lst1 {a0 a1 : D} {r : List D} {h : Hh} : ixA (.lst (a0 :: a1 :: r)) (.int 1) h = .ok a1 h := ixLstAt (by omega) rfl
theorem lst2 {a0 a1 a2 : D} {r : List D} {h : Hh} : ixA (.lst (a0 :: a1 :: a2 :: r)) (.int 2) h = .ok a2 h := ixLstAt (by omega) rfl
theorem lst3 {a0 a1 a2 a3 : D} {r : List D} {h : Hh} : ixA (.lst (a0 :: a1 :: a2 :: a3 :: r)) (.int 3) h = .ok a3 h := ixLstAt (by omega) rfl
theorem lst4 {a0 a1 a2 a3 a4 : D} {r : List D} {h : Hh} : ixA (.lst (a0 :: a1 :: a2 :: a3 :: a4 :: r)) (.int 4) h = .ok a4 h := ixLstAt (by omega) rfl
theorem lst5 {a0 a1 a2 a3 a4 a5 : D} {r : List D} {h : Hh} : ixA (.lst (a0 :: a1 :: a2 :: a3 :: a4 :: a5 :: r)) (.int 5) h = .ok a5 h := ixLstAt (by omega) rfl
theorem lst6 {a0 a1 a2 a3 a4 a5 a6 : D} {r : List D} {h : Hh} : ixA (.lst (a0 :: a1 :: a2 :: a3 :: a4 :: a5 :: a6 :: r)) (.int 6) h = .ok a6 h := ixLstAt (by omega) rfl
theorem lst7 {a0 a1 a2 a3 a4 a5 a6 a7 : D} {r : List D} {h : Hh} : ixA (.lst (a0 :: a1 :: a2 :: a3 :: a4 :: a5 :: a6 :: a7 :: r)) (.int 7) h = .ok a7 h := ixLstAt (by omega) rfl
theorem keyTest : ∀ (a b : List Nat), keyEq (.str a) (.str b) = decide (a = b) := fun _ _ => rfl
theorem intB1 (i : Int) (h : Hh) : intB [.int i] h = .ok (.int i) h := rfl
theorem intB2 (b : Bool) (h : Hh) : intB [.bl b] h = .ok (.int (if b then 1 else 0)) h := rfl
theorem lenTup (ds : List D) (h : Hh) : lenB [.tup ds] h = .ok (.int ds.length) h := rfl
theorem lenLst (ds : List D) (h : Hh) : lenB [.lst ds] h = .ok (.int ds.length) h := rfl
theorem lenScr (ds : List D) (h : Hh) : lenB [.scr ds] h = .ok (.int ds.length) h := rfl
theorem lenRef {h : Hh} {n : Nat} {ds : List D} (e : h[n]? = some (.lst ds)) : lenB [.ref n] h = .ok (.int ds.length) h := by
  show lenD (.ref n) h = _
  have l : asL h (.ref n) = some ds := by unfold asL; dsimp only; rw [e]
  unfold lenD
  simp only [l]
theorem setRef {h : Hh} {n : Nat} {ds : List D} {i : Int} {y : D} (e : h[n]? = some (.lst ds)) (h0 : 0 ≤ i) (h1 : i < ds.length) : setOne (.ref n) (.int i) y h = some (h.set n (.lst (ds.set i.toNat y))) := by
  unfold setOne ixN
  dsimp only
  rw [e]
  dsimp only
  rw [if_pos h0, if_pos h1]
theorem setDic {h : Hh} {n : Nat} {ks vs : List D} {i y : D} (e : h[n]? = some (.dic ks vs)) (h0 : isKey i = true) (h1 : ks.length < 1000000) : setOne (.ref n) i y h = some (h.set n (.dic (putKs ks i) (putVs ks vs i y))) := by
  unfold setOne
  dsimp only
  rw [e]
  dsimp only
  rw [if_pos ⟨h0, h1⟩]
/-- h' has all of h -/
def Keep (h h' : Hh) : Prop := h.length ≤ h'.length ∧ ∀ j, j < h.length → h'[j]? = h[j]?
theorem Keep.refl (h : Hh) : Keep h h := ⟨Nat.le_refl _, fun _ _ => rfl⟩
theorem Keep.trans {h h1 h2 : Hh} (a : Keep h h1) (b : Keep h1 h2) : Keep h h2 := ⟨Nat.le_trans a.1 b.1, fun j hj => (b.2 j (Nat.lt_of_lt_of_le hj a.1)).trans (a.2 j hj)⟩
theorem Keep.app (h t : Hh) : Keep h (h ++ t) := ⟨by simp, fun j hj => List.getElem?_append_left hj⟩
/-! step by step -/
theorem bindOk {α β : Type} (x : α) (h : Hh) (k : α → Hh → R β) : (R.ok x h).bind k = k x h := rfl
theorem bindExc {α β : Type} (c : Nat) (ds : List D) (h : Hh) (k : α → Hh → R β) : (R.exc (α := α) c ds h).bind k = .exc c ds h := rfl
theorem bindStk {α β : Type} (k : α → Hh → R β) : (R.stk (α := α)).bind k = .stk := rfl
theorem toSOk {α : Type} (x : α) (h : Hh) (δ : De) (k : α → Hh → RS) : (R.ok x h).toS δ k = k x h := rfl
theorem toSExc {α : Type} (c : Nat) (ds : List D) (h : Hh) (δ : De) (k : α → Hh → RS) : (R.exc (α := α) c ds h).toS δ k = .exc c ds δ h := rfl
def seqK (r : RS) (v : FnS) : RS := match r with
  | .nx δ' h' => v δ' h'
  | r => r
theorem seqE (u v : FnS) (δ : De) (h : Hh) : sSeq u v δ h = seqK (u δ h) v := by
  unfold sSeq seqK; cases u δ h <;> rfl
theorem seqNx (δ : De) (h : Hh) (v : FnS) : seqK (.nx δ h) v = v δ h := rfl
theorem seqRt (d : D) (h : Hh) (v : FnS) : seqK (.rt d h) v = .rt d h := rfl
theorem seqExc (c : Nat) (ds : List D) (δ : De) (h : Hh) (v : FnS) : seqK (.exc c ds δ h) v = .exc c ds δ h := rfl
theorem endRt (d : D) (h : Hh) : endD (.rt d h) = .ok d h := rfl
theorem endNx (δ : De) (h : Hh) : endD (.nx δ h) = .ok .non h := rfl
theorem endExc (c : Nat) (ds : List D) (δ : De) (h : Hh) : endD (.exc c ds δ h) = .exc c ds h := rfl
def lcC (r : R D) (k : Hh → R (List D)) : R (List D) := match r with
  | .ok y h2 => (k h2).bind fun ys h3 => .ok (y :: ys) h3
  | _ => .stk
def lcB (r : R Bool) (e : Hh → R D) (k : Hh → R (List D)) : R (List D) := match r with
  | .ok b h1 => if b = true then lcC (e h1) k else k h1
  | _ => .stk
def lcA (o : Option De) (t : FnT) (e : FnE) (k : Hh → R (List D)) (h : Hh) : R (List D) := match o with
  | none => .stk
  | some δ1 => lcB (t δ1 h) (e δ1) k
theorem lcNil (g : FnG) (t : FnT) (e : FnE) (δ : De) (h : Hh) : lcs g t e δ [] h = .ok [] h := rfl
theorem lcCons (g : FnG) (t : FnT) (e : FnE) (δ : De) (d : D) (ds : List D) (h : Hh) : lcs g t e δ (d :: ds) h = lcA (g d δ) t e (fun h => lcs g t e δ ds h) h := by
  show (match g d δ with
    | none => R.stk
    | some δ1 => match t δ1 h with
      | .ok b h1 => if b = true then
          match e δ1 h1 with
          | .ok y h2 => (lcs g t e δ ds h2).bind fun ys h3 => .ok (y :: ys) h3
          | _ => .stk
        else lcs g t e δ ds h1
      | _ => .stk) = _
  unfold lcA lcB lcC
  cases g d δ with
  | none => rfl
  | some δ1 => rfl
theorem lcAS (δ1 : De) (t : FnT) (e : FnE) (k : Hh → R (List D)) (h : Hh) : lcA (some δ1) t e k h = lcB (t δ1 h) (e δ1) k := rfl
theorem lcBT (h1 : Hh) (e : Hh → R D) (k : Hh → R (List D)) : lcB (.ok true h1) e k = lcC (e h1) k := rfl
theorem lcBF (h1 : Hh) (e : Hh → R D) (k : Hh → R (List D)) : lcB (.ok false h1) e k = k h1 := rfl
theorem lcCO (y : D) (h2 : Hh) (k : Hh → R (List D)) : lcC (.ok y h2) k = (k h2).bind fun ys h3 => .ok (y :: ys) h3 := rfl
def loK (r : RS) (k : De → Hh → RS) : RS := match r with
  | .nx δ2 h2 => k δ2 h2
  | .ct δ2 h2 => k δ2 h2
  | .bk δ2 h2 => .nx δ2 h2
  | r => r
def loA (o : Option De) (u : FnS) (k : De → Hh → RS) (h : Hh) : RS := match o with
  | none => .stk
  | some δ1 => loK (u δ1 h) k
theorem loNil (g : FnG) (u : FnS) (δ : De) (h : Hh) : loop3 g u [] δ h = .nx δ h := rfl
theorem loCons (g : FnG) (u : FnS) (d : D) (ds : List D) (δ : De) (h : Hh) : loop3 g u (d :: ds) δ h = loA (g d δ) u (fun δ h => loop3 g u ds δ h) h := by
  show (match g d δ with
    | none => RS.stk
    | some δ1 => match u δ1 h with
      | .nx δ2 h2 => loop3 g u ds δ2 h2
      | .ct δ2 h2 => loop3 g u ds δ2 h2
      | .bk δ2 h2 => .nx δ2 h2
      | r => r) = _
  unfold loA loK
  cases g d δ with
  | none => rfl
  | some δ1 => rfl
theorem loAS (δ1 : De) (u : FnS) (k : De → Hh → RS) (h : Hh) : loA (some δ1) u k h = loK (u δ1 h) k := rfl
theorem loNx (δ : De) (h : Hh) (k : De → Hh → RS) : loK (.nx δ h) k = k δ h := rfl
theorem loCt (δ : De) (h : Hh) (k : De → Hh → RS) : loK (.ct δ h) k = k δ h := rfl
theorem loBk (δ : De) (h : Hh) (k : De → Hh → RS) : loK (.bk δ h) k = .nx δ h := rfl
theorem loRt (d : D) (h : Hh) (k : De → Hh → RS) : loK (.rt d h) k = .rt d h := rfl
/-- a loop by an invariant -/
theorem loop_ok {g : FnG} {u : FnS} (I : Nat → De → Hh → Prop) : ∀ (items : List D) (n : Nat) (δ : De) (h : Hh), I n δ h →
    (∀ i d, items[i]? = some d → ∀ δ h, I (n + i) δ h → ∃ δ1 δ2 h2, g d δ = some δ1 ∧ (u δ1 h = .nx δ2 h2 ∨ u δ1 h = .ct δ2 h2) ∧ I (n + i + 1) δ2 h2) → ∃ δ' h', loop3 g u items δ h = .nx δ' h' ∧ I (n + items.length) δ' h'
  | [], n, δ, h, z, _ => ⟨δ, h, rfl, z⟩
  | d :: ds, n, δ, h, z, st => by
    obtain ⟨δ1, δ2, h2, e1, e2, z2⟩ := st 0 d rfl δ h z
    obtain ⟨δ', h', e3, z3⟩ := loop_ok I ds (n + 1) δ2 h2 z2 fun i d' e δ h zz => by
      have := st (i + 1) d' (by simpa using e) δ h (by rw [show n + (i + 1) = n + 1 + i by omega]; exact zz)
      rw [show n + (i + 1) + 1 = n + 1 + i + 1 by omega] at this
      exact this
    refine ⟨δ', h', ?_, by rw [List.length_cons, show n + (ds.length + 1) = n + 1 + ds.length by omega]; exact z3⟩
    rw [loCons, e1, loAS]
    rcases e2 with e2 | e2
    · rw [e2, loNx]; exact e3
    · rw [e2, loCt]; exact e3
theorem rg_get {lo : Int} {n i : Nat} {d : D} (e : (rgD lo n)[i]? = some d) : i < n ∧ d = .int (lo + i) := by
  unfold rgD at e
  rw [List.getElem?_map] at e
  obtain ⟨j, ej, rfl⟩ := Option.map_eq_some_iff.mp e
  obtain ⟨hj, e2⟩ := List.getElem?_eq_some_iff.mp ej
  simp at e2 hj
  subst e2
  exact ⟨hj, rfl⟩
theorem rg_len (lo : Int) (n : Nat) : (rgD lo n).length = n := by simp [rgD]
theorem clsObj (c : Nat) (ds : List D) (h : Hh) : clsOf h (.obj c ds) = some c := rfl
theorem set_last (h : Hh) (o u : O) : (h ++ [o]).set h.length u = h ++ [u] := by simp
theorem get_last (h : Hh) (o : O) : (h ++ [o])[h.length]? = some o := by simp
theorem mut_last (h : Hh) (ds : List D) : mutL (h ++ [.lst ds]) (.ref h.length) = some (h.length, ds) := by
  unfold mutL; dsimp only; rw [get_last]
theorem optS (d : D) (h : Hh) : optR (some d) h = .ok d h := rfl
theorem rg1 : rgD 0 1 = [.int 0] := rfl
theorem rg2 : rgD 0 2 = [.int 0, .int 1] := rfl
theorem rg3 : rgD 0 3 = [.int 0, .int 1, .int 2] := rfl
theorem rg4 : rgD 0 4 = [.int 0, .int 1, .int 2, .int 3] := rfl
theorem rg5 : rgD 0 5 = [.int 0, .int 1, .int 2, .int 3, .int 4] := rfl
theorem rg6 : rgD 0 6 = [.int 0, .int 1, .int 2, .int 3, .int 4, .int 5] := rfl
theorem rg7 : rgD 0 7 = [.int 0, .int 1, .int 2, .int 3, .int 4, .int 5, .int 6] := rfl
theorem rg8 : rgD 0 8 = [.int 0, .int 1, .int 2, .int 3, .int 4, .int 5, .int 6, .int 7] := rfl
end L3
set_option autoImplicit false
set_option maxHeartbeats 4000000
/-! L3L: repr of plain data. -/
namespace L3
open PySem PySem.Spec L2
mutual
def smallD : D → Bool
  | .int i => decide (i.natAbs < 10 ^ 40)
  | .str x => x.all fun c => decide (c < 16 ^ 8)
  | .tup ds => smallDs ds
  | .lst ds => smallDs ds
  | _ => true
def smallDs : List D → Bool
  | [] => true
  | d :: ds => smallD d && smallDs ds
end
mutual
def wtD : D → Nat
  | .int _ => 140
  | .str x => x.length
  | .tup ds => wtDs ds
  | .lst ds => wtDs ds
  | _ => 0
def wtDs : List D → Nat
  | [] => 0
  | d :: ds => wtD d + 1 + wtDs ds
end
mutual
theorem small_ok : ∀ (d : D) (k : Nat), flat k d = true → smallD d = true → (pd d).showable = true ∧ (pd d).leavesShort 41 = true ∧ (pd d).weight ≤ wtD d ∧ (pd d).hasDict = false
  | .non, _, _, _ => ⟨rfl, rfl, Nat.zero_le _, rfl⟩
  | .bl _, _, _, _ => by simp [pd, PyData.showable, PyData.leavesShort, PyData.weight, PyData.hasDict]
  | .int i, _, _, s => by
    have s' : i.natAbs < 10 ^ 40 := by simpa [smallD] using s
    have e := int_text_length_le10 (k := 40) (by decide) s'
    have e2 : (PyData.shown (.int i)).length ≤ 41 := by
      show (Str.ofString (toString i)).length ≤ 41
      rw [ofString_length]; exact e
    have big : (10 : Nat) ^ 40 < 2 ^ 139 := by decide
    have lg : i.natAbs = 0 ∨ i.natAbs.log2 < 139 := by
      by_cases z : i.natAbs = 0
      · exact .inl z
      · exact .inr ((Nat.log2_lt z).mpr (by omega))
    have lg2 : i.natAbs.log2 < 139 := by
      rcases lg with z | z
      · rw [z]; decide
      · exact z
    refine ⟨?_, ?_, ?_, ?_⟩
    · simp only [pd, PyData.showable, decide_eq_true_eq]; omega
    · simp only [pd, PyData.leavesShort, decide_eq_true_eq]; exact e2
    · simp only [pd, PyData.weight, wtD]; split <;> omega
    · simp only [pd, PyData.hasDict]
  | .str x, _, _, s => by
    refine ⟨?_, ?_, ?_, ?_⟩
    · simp only [pd, PyData.showable]
    · simp only [pd, PyData.leavesShort]; simpa [smallD] using s
    · simp [pd, PyData.weight, wtD]
    · simp only [pd, PyData.hasDict]
  | .tup ds, 0, h, _ => nomatch (show false = true by simpa [flat] using h)
  | .tup ds, k + 1, h, s => by
    obtain ⟨a, b, c, e⟩ := smalls_ok ds k (by simpa [flat] using h) (by simpa [smallD] using s)
    refine ⟨?_, ?_, ?_, ?_⟩
    · simp only [pd, PyData.showable]; exact a
    · simp only [pd, PyData.leavesShort]; exact b
    · simp only [pd, PyData.weight, wtD]; exact c
    · simp only [pd, PyData.hasDict]; exact e
  | .lst ds, 0, h, _ => nomatch (show false = true by simpa [flat] using h)
  | .lst ds, k + 1, h, s => by
    obtain ⟨a, b, c, e⟩ := smalls_ok ds k (by simpa [flat] using h) (by simpa [smallD] using s)
    refine ⟨?_, ?_, ?_, ?_⟩
    · simp only [pd, PyData.showable]; exact a
    · simp only [pd, PyData.leavesShort]; exact b
    · simp only [pd, PyData.weight, wtD]; exact c
    · simp only [pd, PyData.hasDict]; exact e
  | .dic _ _, k, h, _ => by cases k <;> exact nomatch (show false = true by simpa [flat] using h)
  | .obj _ _, k, h, _ => by cases k <;> exact nomatch (show false = true by simpa [flat] using h)
  | .ref _, k, h, _ => by cases k <;> exact nomatch (show false = true by simpa [flat] using h)
  | .scr _, k, h, _ => by cases k <;> exact nomatch (show false = true by simpa [flat] using h)
theorem smalls_ok : ∀ (ds : List D) (k : Nat), flats k ds = true → smallDs ds = true → PyData.showableAll (pds ds) = true ∧ PyData.leavesShortAll 41 (pds ds) = true ∧ PyData.weightAll (pds ds) ≤ wtDs ds ∧ PyData.hasDictAll (pds ds) = false
  | [], _, _, _ => ⟨rfl, rfl, Nat.le_refl _, rfl⟩
  | d :: ds, k, h, s => by
    have h' : flat k d = true ∧ flats k ds = true := by simpa [flats] using h
    have s' : smallD d = true ∧ smallDs ds = true := by simpa [smallDs] using s
    obtain ⟨a, b, c, e⟩ := small_ok d k h'.1 s'.1
    obtain ⟨a', b', c', e'⟩ := smalls_ok ds k h'.2 s'.2
    refine ⟨?_, ?_, ?_, ?_⟩
    · simp only [pds, PyData.showableAll, a, a', Bool.and_self]
    · simp only [pds, PyData.leavesShortAll, b, b', Bool.and_self]
    · simp only [pds, PyData.weightAll, wtDs]; omega
    · simp only [pds, PyData.hasDictAll, e, e', Bool.or_self]
end
/-- the text of a value -/
def showL (d : D) : List Nat := (pd d).shown.cps.toList
def reprD (x : D) (h : Hh) : R D := if (flat 60 (deref h x) && (smallD (deref h x) && decide (wtD (deref h x) ≤ 300000))) = true then .ok (.str (showL (deref h x))) h else .stk
abbrev reprB : FB := one reprD
section
variable {X : Cx} {T : Tx} {W : WX} {pos : Pos}
def rRepr (K : PySem.W.Frag) : List V → Hp → VK → Prop := fun xs H Q => ∃ x d, xs = [x] ∧ Dp K H x d ∧ d.showable = true ∧ d.hasDict = false ∧ d.depth ≤ 60 ∧ d.shown.length ≤ sizeLine ∧ Q (.str d.shown) H
theorem call_reprP (hu : X.A.units + 64 < cLine) (hg : X.A.guards = some []) : CallR X (.builtin "repr") (rRepr X.K) := by
  intro pins s σ H xs us Q I r h
  obtain ⟨x, d, rfl, dp, hs, hd, hn, hz, q⟩ := h
  obtain ⟨u, rfl, ru⟩ := vals1 r
  obtain ⟨as, rd⟩ := Dp.reads I d x u dp ru
  cases rd with
  | none => exact PySem.P.repr_of_none ⟨.str "None", H, I.tok _, ⟨_, rfl⟩, q⟩
  | bool b => exact PySem.P.repr_of_bool ⟨.str _, H, I.tok _, ⟨_, rfl⟩, q⟩
  | int i t => exact PySem.P.repr_of_int (by simpa [PyData.showable] using hs) ⟨.str _, H, I.tok _, ⟨_, rfl⟩, q⟩
  | str y t => exact PySem.P.repr_of_str ⟨.str _, H, I.tok _, ⟨_, rfl⟩, q⟩ (by simpa only [PyData.shown] using hz)
  | list h1 h2 h3 h4 => exact repr_of_reads' (.list h1 h2 h3 h4) hs (PyData.noDict_hsm hd) hg (by omega) (fun _ _ e => e) (fun h' v tk hk => ⟨.str _, H, I.kept hk, ⟨_, rfl⟩, q⟩) hz
  | tuple h1 h2 h3 h4 => exact repr_of_reads' (.tuple h1 h2 h3 h4) hs (PyData.noDict_hsm hd) hg (by omega) (fun _ _ e => e) (fun h' v tk hk => ⟨.str _, H, I.kept hk, ⟨_, rfl⟩, q⟩) hz
  | dict => exact absurd hd (by simp [PyData.hasDict])
theorem cs_repr : CallS X T (rRepr X.K) reprB := by
  intro W G h H σ ds vs Q r d o
  match ds, vs, d with
  | [], _, _ => exact o.elim
  | _ :: _ :: _, _, _ => exact o.elim
  | [x], [v], .cons d1 .nil =>
    have o : okR X.K T W G σ (RD X.K T) (reprD x h) Q := o
    unfold reprD at o
    by_cases c : (flat 60 (deref h x) && (smallD (deref h x) && decide (wtD (deref h x) ≤ 300000))) = true
    · rw [if_pos c] at o
      simp only [Bool.and_eq_true, decide_eq_true_eq] at c
      obtain ⟨p1, n1⟩ := flat_pd _ _ c.1
      obtain ⟨z1, z2, z3, z4⟩ := small_ok _ _ c.1 c.2.1
      have len := PyData.shown_le 41 (by decide) _ z2
      refine ⟨v, pd (deref h x), rfl, deref_dp r d1 c.1, z1, z4, n1, ?_, ?_⟩
      · rw [sizeLine_eq]; omega
      · have e : (pd (deref h x)).shown = ⟨(showL (deref h x)).toArray⟩ := by simp [showL]
        rw [e]
        exact o.at r .str
    · rw [if_neg c] at o; exact o.elim
end
theorem eqStr (a b : List Nat) (h : Hh) : eqD (.str a) (.str b) h = .ok (.bl (decide (a = b))) h := by
  have e : eqv (.str a) (.str b) = decide (a = b) := by
    simp only [eqv, pd, PyData.eqv]
    by_cases c : a = b
    · subst c; simp
    · have : ¬ (⟨a.toArray⟩ : Str) = ⟨b.toArray⟩ := fun z => c (by simpa using congrArg (fun y : Str => y.cps.toList) z)
      simp [c]
  simp [eqD, deref, flat, e]
theorem neStr (a b : List Nat) (h : Hh) : neD (.str a) (.str b) h = .ok (.bl (!decide (a = b))) h := by
  have e : eqv (.str a) (.str b) = decide (a = b) := by
    simp only [eqv, pd, PyData.eqv]
    by_cases c : a = b
    · subst c; simp
    · have : ¬ (⟨a.toArray⟩ : Str) = ⟨b.toArray⟩ := fun z => c (by simpa using congrArg (fun y : Str => y.cps.toList) z)
      simp [c]
  simp [neD, deref, flat, e]
end L3
set_option autoImplicit false
set_option maxHeartbeats 4000000
/-! L3M: a list turned around. -/
namespace L3
open PySem PySem.Spec L2 PyProof.Rows
section
variable {X : Cx} {T : Tx} {W : WX} {pos p2 : Pos} {e st : Expr} {te : TE} {ts : TO}
def rRev (K : PySem.W.Frag) : V → Option Int → Hp → VK → Prop := fun x k H Q => k = some (-1) ∧ ∃ a xs, x = .ref a ∧ SqL K H a xs ∧ ∀ p, H p = none → Q (.ref p) (upd H p (.lst xs.reverse))
theorem pe_rev (he : PE X e te) (hs : PO X (some st) ts) : PE X (.Subscript e (.Slice none none (some st) p2) pos) (fun σ H Q => te σ H fun x H1 => ts σ H1 fun k H2 => rRev X.K x k H2 Q) := by
  refine ⟨fun pins s σ H Q I h => ?_⟩
  refine Subscript_ (thn (he.run pins s σ H _ I h) fun v s1 ⟨x, H1, I1, r1, q1⟩ => ?_)
  refine wpAny_Slice ?_
  rw [evalPart_none]
  refine wpAny_pure ?_
  refine wpAny_pure ?_
  refine thn (hs.run pins s1 σ H1 _ I1 q1) fun vk s3 ⟨k, H3, I3, pk, q3⟩ => ?_
  obtain ⟨rfl, a, xs, rfl, hx, q⟩ := q3
  have I4 : Inv X pins σ H3 { s3 with heap := s3.heap.push { cls := .type "slice", data := .fields #[.none, .none, vk] } } := I3.kept (t' := s3.toks) fun b ob q => Heap.get?_push_of_some _ q
  cases r1
  obtain ⟨its, r, ht, hz⟩ := I4.list hx
  have hlen := r.length
  have g : wpAny (model X.prog X.w) X.A (getItem (.ref a) (.ref s3.heap.objs.size)) (EP X pins σ Q) X.xe { s3 with heap := s3.heap.push { cls := .type "slice", data := .fields #[.none, .none, vk] } } := by
    refine wpAny_getItem_list_slice ht.isList (Heap.IsSliceOf.new ..) .none .none pk (by decide) ?_ (by rw [List.size_toArray] <;> omega)
    rw [PySem.W.krv_pick]
    refine ⟨.ref _, _, I4.laid (t' := s3.toks) (o := .lst xs.reverse) (fun b ob q => Heap.get?_push_of_some _ q) (Nat.le_refl _) ?_, rfl, q _ (I4.hok.fresh (Nat.le_refl _))⟩
    exact ⟨by rw [List.length_reverse]; exact hz, _, 0, r.reverse, Heap.get?_push_size _ rfl⟩
  exact tail_any (ops := [.ref a, .ref s3.heap.objs.size]) ht.isList.typeIs slot_list_getitem.lookup g (by with_unfolding_all rfl)
def revD (x : D) (k : Option Int) (h : Hh) : R D := if k = some (-1) then match asL h x with
    | some xs => .ok (.lst xs.reverse) h
    | none => .stk
  else .stk
def eRev (f : FnE) (fk : FnO) : FnE := fun δ h => (f δ h).bind fun x h1 => (fk δ h1).bind fun k h2 => revD x k h2
theorem RDs.rev {K : PySem.W.Frag} {G : Gst} : ∀ {ds : List D} {vs : List V}, RDs K T G ds vs → RDs K T G ds.reverse vs.reverse
  | _, _, .nil => .nil
  | _, _, .cons d r => by
    rw [List.reverse_cons, List.reverse_cons]
    exact (RDs.rev r).append (.cons d .nil)
theorem fe_rev {f : FnE} {fk : FnO} (he : FE X T W e f) (hk : FO X T W (some st) fk) : FE X T W (.Subscript e (.Slice none none (some st) p2) pos) (eRev f fk) := by
  refine PE.imp (pe_rev he hk) fun σ H Q => ?_
  rintro ⟨G, h0, δ, r, s, o⟩
  refine ⟨G, h0, δ, r, s, (okR.bind (rel := RD X.K T) o).mono ?_⟩
  rintro v H1 ⟨G1, x, h1, e1, r1, d1, o1⟩
  refine ⟨G1, h1, δ, r1, s.mono e1, (okR.bind (rel := fun _ a b => a = b) o1).mono ?_⟩
  rintro k H2 ⟨G2, k', h2, e2, r2, rfl, o2⟩
  have d2 := d1.mono e2
  unfold revD at o2
  by_cases hk1 : k' = some (-1)
  · rw [if_pos hk1] at o2
    cases ex : asL h2 x with
    | none => rw [ex] at o2; exact o2.elim
    | some xs =>
      rw [ex] at o2
      obtain ⟨a, vs, rfl, q1, q2⟩ := asL_ok r2 d2 ex
      exact ⟨hk1, a, vs, rfl, .inl (.inl q1), fun p hp => newLst r2 q2.rev hp o2⟩
  · rw [if_neg hk1] at o2
    exact o2.elim
end
end L3
set_option autoImplicit false
set_option maxHeartbeats 4000000
/-! L3N: walks over values and over lists on the own heap. -/
namespace L3
open PySem PySem.Spec L2
section
variable {X : Cx} {T : Tx} {W : WX} {pos : Pos}
inductive Wk where
  | im (ds : List D)
  | hp (n : Nat)
  | zp (x y : D)
def seqS (h : Hh) : D → Option (List D)
  | .ref n => match h[n]? with
    | some (.lst ds) => some ds
    | _ => none
  | d => (immS d).map (·.2)
def look (w : Wk) (h : Hh) : Option (List D) := match w with
  | .im ds => some ds
  | .hp n => match h[n]? with
    | some (.lst ds) => some ds
    | _ => none
  | .zp x y => match seqS h x, seqS h y with
    | some xs, some ys => some (zipL xs ys)
    | _, _ => none
def Walk4 (K : PySem.W.Frag) (T : Tx) (J : It) (G : Gst) (w : Wk) : Prop := ∀ (i : Nat) G2 h2 H2 ds, Ext0 G G2 → Rel K T G2 h2 H2 → look w h2 = some ds →
  (∀ d, ds[i]? = some d → J.go i H2 ∧ ∀ x H3, J.yld i H2 x H3 → ∃ G3, Ext G2 G3 ∧ Rel K T G3 h2 H3 ∧ RD K T G3 d x) ∧ (i = ds.length → J.stop i H2)
abbrev FnW := De → Hh → R Wk
def tW4 (K : PySem.W.Frag) (T : Tx) (W : WX) (f : FnW) : TI := fun σ H Q => ∃ G h δ, Rel K T G h H ∧ RSl K T G δ σ ∧ okR K T W G σ (fun G w J => Walk4 K T J G w) (f δ h) Q
abbrev FWk (X : Cx) (T : Tx) (W : WX) (tg e : Expr) (f : FnW) : Prop := PI X tg e (tW4 X.K T W f)
def wSeq (f : FnE) : FnW := fun δ h => (f δ h).bind fun x h1 => match x with
  | .tup ds => .ok (.im ds) h1
  | .lst ds => .ok (.im ds) h1
  | .scr ds => .ok (.im ds) h1
  | .ref n => match h1[n]? with
    | some (.lst _) => .ok (.hp n) h1
    | _ => .stk
  | _ => .stk
theorem walk_tup4 {K : PySem.W.Frag} {G : Gst} {a : Addr} {ds : List D} {vs : List V} (q1 : SqT K G.fz a vs) (q2 : RDs K T G ds vs) : Walk4 K T (Itt K a) G (.im ds) := fun i G2 h2 H2 es x r e => by
  cases e
  have z : SqT K H2 a vs := SqT.sub r.sub (SqT.sub x.fz q1)
  refine ⟨fun d e => ?_, fun hl => ⟨vs, z, by rw [← q2.length]; omega⟩⟩
  obtain ⟨v, ev, dv⟩ := q2.get e
  exact ⟨⟨vs, v, z, ev⟩, fun y H3 ⟨e1, e2⟩ => by
    subst e1
    have := e2 vs z
    rw [ev] at this; cases this
    exact ⟨G2, Ext.refl G2, r, dv.mono0 x⟩⟩
theorem walk_lst4 {K : PySem.W.Frag} {G : Gst} {a : Addr} {ds : List D} {vs : List V} (q1 : SqL K G.fz a vs) (q2 : RDs K T G ds vs) : Walk4 K T (Itl K a) G (.im ds) := fun i G2 h2 H2 es x r e => by
  cases e
  have z : SqL K H2 a vs := SqL.sub r.sub (SqL.sub x.fz q1)
  refine ⟨fun d e => ?_, fun hl => ⟨vs, z, by rw [← q2.length]; omega⟩⟩
  obtain ⟨v, ev, dv⟩ := q2.get e
  exact ⟨⟨vs, v, z, ev⟩, fun y H3 ⟨e1, e2⟩ => by
    subst e1
    have := e2 vs z
    rw [ev] at this; cases this
    exact ⟨G2, Ext.refl G2, r, dv.mono0 x⟩⟩
theorem walk_ref4 {K : PySem.W.Frag} {G : Gst} {a : Addr} {n : Nat} (q : G.ι[n]? = some a) : Walk4 K T (Itl K a) G (.hp n) := fun i G2 h2 H2 es x r e => by
  have d : RD K T G2 (.ref n) (.ref a) := (RD.ref q).mono0 x
  have el : asL h2 (.ref n) = some es := by
    unfold look at e; unfold asL; dsimp only at e ⊢
    cases z : h2[n]? with
    | none => rw [z] at e; cases e
    | some o =>
      rw [z] at e
      cases o with
      | lst ds => exact e
      | _ => cases e
  obtain ⟨a', vs, e1, e2, q2⟩ := asL_ok r d el
  cases e1
  have z : SqL K H2 a vs := .inl (.inl e2)
  refine ⟨fun d e => ?_, fun hl => ⟨vs, z, by rw [← q2.length]; omega⟩⟩
  obtain ⟨v, ev, dv⟩ := q2.get e
  exact ⟨⟨vs, v, z, ev⟩, fun y H3 ⟨e1, e2⟩ => by
    subst e1
    have := e2 vs z
    rw [ev] at this; cases this
    exact ⟨G2, Ext.refl G2, r, dv⟩⟩
theorem fw_seq {tg e : Expr} {f : FnE} (he : FE X T W e f) : FWk X T W tg e (wSeq f) := by
  refine PI.imp (PI.or (pi_tup he) (pi_list he)) fun σ H Q => ?_
  rintro ⟨G, h0, δ, r, s, o⟩
  cases ef : f δ h0 with
  | stk => unfold wSeq at o; rw [ef] at o; exact o.elim
  | exc c ds h' =>
    unfold wSeq at o; rw [ef] at o
    refine .inl ⟨G, h0, δ, r, s, ?_⟩
    rw [ef]; exact o
  | ok x h' =>
    unfold wSeq at o
    rw [ef] at o
    cases x with
    | tup ds =>
      refine .inl ⟨G, h0, δ, r, s, ?_⟩
      rw [ef]
      intro G' H' v x r' d
      cases d with
      | @tup _ a vs q1 q2 => exact ⟨a, rfl, ⟨vs, SqT.sub r'.sub q1⟩, o G' H' _ x r' (walk_tup4 q1 q2)⟩
    | lst ds =>
      refine .inr ⟨G, h0, δ, r, s, ?_⟩
      rw [ef]
      intro G' H' v x r' d
      cases d with
      | @lst _ a vs q1 q2 => exact ⟨a, rfl, ⟨vs, .inl (.inl (r'.sub _ _ q1))⟩, o G' H' _ x r' (walk_lst4 (.inl (.inl q1)) q2)⟩
    | scr ds =>
      refine .inr ⟨G, h0, δ, r, s, ?_⟩
      rw [ef]
      intro G' H' v x r' d
      cases d with
      | @scr _ a vs q1 q2 => exact ⟨a, rfl, ⟨vs, SqL.sub r'.sub q1⟩, o G' H' _ x r' (walk_lst4 q1 q2)⟩
    | ref n =>
      refine .inr ⟨G, h0, δ, r, s, ?_⟩
      rw [ef]
      intro G' H' v x r' d
      cases z : h'[n]? with
      | none =>
        have o' : okR X.K T W G σ (fun G w J => Walk4 X.K T J G w) (match h'[n]? with | some (.lst _) => R.ok (Wk.hp n) h' | _ => .stk) Q := o
        rw [z] at o'; exact o'.elim
      | some ob =>
        have o' : okR X.K T W G σ (fun G w J => Walk4 X.K T J G w) (match h'[n]? with | some (.lst _) => R.ok (Wk.hp n) h' | _ => .stk) Q := o
        rw [z] at o'
        cases ob with
        | lst ds =>
          have el : asL h' (.ref n) = some ds := by unfold asL; dsimp only; rw [z]
          obtain ⟨a', vs, e1, e2, q2⟩ := asL_ok r' d el
          subst e1
          cases d with
          | @ref _ _ q => exact ⟨_, rfl, ⟨vs, .inl (.inl e2)⟩, o' G' H' _ x r' (walk_ref4 q)⟩
        | _ => exact o'.elim
    | _ => exact o.elim
/-! ### for over a list on the own heap -/
def loopR (g : FnG) (u : FnS) (wk : Wk) : Nat → Nat → De → Hh → RS
  | 0, _, _, _ => .stk
  | k + 1, i, δ, h => match look wk h with
    | none => .stk
    | some ds => match ds[i]? with
      | none => if i = ds.length then .nx δ h else .stk
      | some d => match g d δ with
        | none => .stk
        | some δ1 => match u δ1 h with
          | .nx δ2 h2 => loopR g u wk k (i + 1) δ2 h2
          | .ct δ2 h2 => loopR g u wk k (i + 1) δ2 h2
          | .bk δ2 h2 => .nx δ2 h2
          | r => r
def loopW (g : FnG) (u : FnS) : Wk → De → Hh → RS
  | .im ds, δ, h => loop3 g u ds δ h
  | .hp n, δ, h => loopR g u (.hp n) 4611686018427387904 0 δ h
  | .zp x y, δ, h => loopR g u (.zp x y) 4611686018427387904 0 δ h
def sForW (f : FnW) (g : FnG) (u : FnS) : FnS := fun δ h => (f δ h).toS δ fun w h1 => loopW g u w δ h1
theorem fs_forW {tg iter : Expr} {body : List Stmt} {f : FnW} {is : List Nat} {g : FnG} {u : FnS} (hp : PassesOwn (model X.prog X.w) X.A X.env X.xe) (hc : X.calm = true) (hi : FWk X T W tg iter f) (hg : FG X T tg is g) (hb : FSs X T W body u)
    (hs : ∀ x, foldedSetIterable iter X.env x = pure x := by intro _; rfl) : FS X T W (.For tg iter body [] pos) (sForW f g u) := by
  refine PS.imp (ps_for hp hc hi hg hb hs) fun D σ H => ?_
  rintro ⟨G, h0, δ, r, s, o⟩
  refine ⟨G, h0, δ, r, s, (okS.toS (rel := fun G w J => Walk4 X.K T J G w) s o).mono ?_⟩
  rintro J H1 ⟨G1, wk, h1, e1, r1, w, o1⟩
  cases wk with
  | im items =>
    change okS X.K T W G1 (loop3 g u items δ h1) D at o1
    refine ⟨fun i m σ' H' => i ≤ items.length ∧ m = items.length - i ∧ ∃ G2 h2 δ2, Ext G1 G2 ∧ Rel X.K T G2 h2 H' ∧ RSl X.K T G2 δ2 σ' ∧ okS X.K T W G2 (loop3 g u (items.drop i) δ2 h2) D,
      ⟨_, Nat.zero_le _, rfl, G1, h1, δ, Ext.refl G1, r1, s.mono e1, o1⟩, ?_⟩
    rintro i m σ' H' ⟨hi', rfl, G2, h2, δ2, e2, r2, s2, o2⟩
    by_cases hlt : i < items.length
    · refine .inr ?_
      have ed : items[i]? = some items[i] := by simp [hlt]
      obtain ⟨go, yl⟩ := (w i G2 h2 H' items e2.e0 r2 rfl).1 _ ed
      rw [List.drop_eq_getElem_cons hlt] at o2
      unfold loop3 at o2
      refine ⟨go, fun σ3 H3 => ∃ m', m' < items.length - i ∧ i + 1 ≤ items.length ∧ m' = items.length - (i + 1) ∧ ∃ G2 h2 δ2, Ext G1 G2 ∧ Rel X.K T G2 h2 H3 ∧ RSl X.K T G2 δ2 σ3 ∧ okS X.K T W G2 (loop3 g u (items.drop (i + 1)) δ2 h2) D,
        fun σ3 H3 ⟨m', a, b, c, d⟩ => ⟨m', a, b, c, d⟩, fun x H3 y => ?_⟩
      obtain ⟨G3, e3, r3, d3⟩ := yl x H3 y
      cases eg : g items[i] δ2 with
      | none => rw [eg] at o2; exact o2.elim
      | some δ3 =>
        rw [eg] at o2
        dsimp only at o2
        refine ⟨G3, h2, δ2, items[i], δ3, r3, s2.mono e3, d3, eg, fun σ4 s4 _ => ⟨G3, h2, δ3, r3, s4, ?_⟩⟩
        have again : ∀ {δ5 : De} {h5 : Hh}, okS X.K T W G2 (loop3 g u (items.drop (i + 1)) δ5 h5) D → ∀ G' H' σ', Ext G3 G' → Rel X.K T G' h5 H' → RSl X.K T G' δ5 σ' →
            ∃ m', m' < items.length - i ∧ i + 1 ≤ items.length ∧ m' = items.length - (i + 1) ∧ ∃ G2 h2 δ2, Ext G1 G2 ∧ Rel X.K T G2 h2 H' ∧ RSl X.K T G2 δ2 σ' ∧ okS X.K T W G2 (loop3 g u (items.drop (i + 1)) δ2 h2) D :=
          fun {δ5 h5} o5 G' H' σ' e r' s' => ⟨_, by omega, hlt, rfl, G', h5, δ5, e2.trans (e3.trans e), r', s', okS.ext (e3.trans e) o5⟩
        cases eu : u δ3 h2 with
        | nx δ5 h5 => rw [eu] at o2; exact again o2
        | ct δ5 h5 => rw [eu] at o2; exact again o2
        | bk δ5 h5 => rw [eu] at o2; exact okS.ext e3 o2
        | rt d h5 => rw [eu] at o2; exact okS.ext e3 o2
        | exc c ds δ5 h5 => rw [eu] at o2; exact okS.ext e3 o2
        | stk => rw [eu] at o2; exact o2
    · refine .inl ⟨(w i G2 h2 H' items e2.e0 r2 rfl).2 (by omega), ?_⟩
      rw [List.drop_eq_nil_of_le (by omega)] at o2
      exact o2 G2 H' σ' (Ext.refl G2) r2 s2
  | hp n =>
    change okS X.K T W G1 (loopR g u (.hp n) 4611686018427387904 0 δ h1) D at o1
    refine ⟨fun i m σ' H' => ∃ G2 h2 δ2, Ext G1 G2 ∧ Rel X.K T G2 h2 H' ∧ RSl X.K T G2 δ2 σ' ∧ okS X.K T W G2 (loopR g u (.hp n) m i δ2 h2) D,
      ⟨4611686018427387904, G1, h1, δ, Ext.refl G1, r1, s.mono e1, o1⟩, ?_⟩
    rintro i m σ' H' ⟨G2, h2, δ2, e2, r2, s2, o2⟩
    cases m with
    | zero => exact o2.elim
    | succ k =>
      unfold loopR at o2
      cases el : look (.hp n) h2 with
      | none => rw [el] at o2; exact o2.elim
      | some items =>
        rw [el] at o2
        dsimp only at o2
        cases ed : items[i]? with
        | none =>
          rw [ed] at o2
          dsimp only at o2
          by_cases hend : i = items.length
          · rw [if_pos hend] at o2
            refine .inl ⟨(w i G2 h2 H' items e2.e0 r2 el).2 hend, ?_⟩
            exact o2 G2 H' σ' (Ext.refl G2) r2 s2
          · rw [if_neg hend] at o2
            exact o2.elim
        | some d0 =>
          rw [ed] at o2
          dsimp only at o2
          refine .inr ?_
          obtain ⟨go, yl⟩ := (w i G2 h2 H' items e2.e0 r2 el).1 _ ed
          refine ⟨go, fun σ3 H3 => ∃ m', m' < k + 1 ∧ ∃ G2 h2 δ2, Ext G1 G2 ∧ Rel X.K T G2 h2 H3 ∧ RSl X.K T G2 δ2 σ3 ∧ okS X.K T W G2 (loopR g u (.hp n) m' (i + 1) δ2 h2) D,
            fun σ3 H3 ⟨m', a, b⟩ => ⟨m', a, b⟩, fun x H3 y => ?_⟩
          obtain ⟨G3, e3, r3, d3⟩ := yl x H3 y
          cases eg : g d0 δ2 with
          | none => rw [eg] at o2; exact o2.elim
          | some δ3 =>
            rw [eg] at o2
            dsimp only at o2
            refine ⟨G3, h2, δ2, d0, δ3, r3, s2.mono e3, d3, eg, fun σ4 s4 _ => ⟨G3, h2, δ3, r3, s4, ?_⟩⟩
            have again : ∀ {δ5 : De} {h5 : Hh}, okS X.K T W G2 (loopR g u (.hp n) k (i + 1) δ5 h5) D → ∀ G' H' σ', Ext G3 G' → Rel X.K T G' h5 H' → RSl X.K T G' δ5 σ' →
                ∃ m', m' < k + 1 ∧ ∃ G2 h2 δ2, Ext G1 G2 ∧ Rel X.K T G2 h2 H' ∧ RSl X.K T G2 δ2 σ' ∧ okS X.K T W G2 (loopR g u (.hp n) m' (i + 1) δ2 h2) D :=
              fun {δ5 h5} o5 G' H' σ' e r' s' => ⟨k, by omega, G', h5, δ5, e2.trans (e3.trans e), r', s', okS.ext (e3.trans e) o5⟩
            cases eu : u δ3 h2 with
            | nx δ5 h5 => rw [eu] at o2; exact again o2
            | ct δ5 h5 => rw [eu] at o2; exact again o2
            | bk δ5 h5 => rw [eu] at o2; exact okS.ext e3 o2
            | rt d h5 => rw [eu] at o2; exact okS.ext e3 o2
            | exc c ds δ5 h5 => rw [eu] at o2; exact okS.ext e3 o2
            | stk => rw [eu] at o2; exact o2
  | zp x0 y0 =>
    change okS X.K T W G1 (loopR g u (.zp x0 y0) 4611686018427387904 0 δ h1) D at o1
    refine ⟨fun i m σ' H' => ∃ G2 h2 δ2, Ext G1 G2 ∧ Rel X.K T G2 h2 H' ∧ RSl X.K T G2 δ2 σ' ∧ okS X.K T W G2 (loopR g u (.zp x0 y0) m i δ2 h2) D,
      ⟨4611686018427387904, G1, h1, δ, Ext.refl G1, r1, s.mono e1, o1⟩, ?_⟩
    rintro i m σ' H' ⟨G2, h2, δ2, e2, r2, s2, o2⟩
    cases m with
    | zero => exact o2.elim
    | succ k =>
      unfold loopR at o2
      cases el : look (.zp x0 y0) h2 with
      | none => rw [el] at o2; exact o2.elim
      | some items =>
        rw [el] at o2
        dsimp only at o2
        cases ed : items[i]? with
        | none =>
          rw [ed] at o2
          dsimp only at o2
          by_cases hend : i = items.length
          · rw [if_pos hend] at o2
            refine .inl ⟨(w i G2 h2 H' items e2.e0 r2 el).2 hend, ?_⟩
            exact o2 G2 H' σ' (Ext.refl G2) r2 s2
          · rw [if_neg hend] at o2
            exact o2.elim
        | some d0 =>
          rw [ed] at o2
          dsimp only at o2
          refine .inr ?_
          obtain ⟨go, yl⟩ := (w i G2 h2 H' items e2.e0 r2 el).1 _ ed
          refine ⟨go, fun σ3 H3 => ∃ m', m' < k + 1 ∧ ∃ G2 h2 δ2, Ext G1 G2 ∧ Rel X.K T G2 h2 H3 ∧ RSl X.K T G2 δ2 σ3 ∧ okS X.K T W G2 (loopR g u (.zp x0 y0) m' (i + 1) δ2 h2) D,
            fun σ3 H3 ⟨m', a, b⟩ => ⟨m', a, b⟩, fun x H3 y => ?_⟩
          obtain ⟨G3, e3, r3, d3⟩ := yl x H3 y
          cases eg : g d0 δ2 with
          | none => rw [eg] at o2; exact o2.elim
          | some δ3 =>
            rw [eg] at o2
            dsimp only at o2
            refine ⟨G3, h2, δ2, d0, δ3, r3, s2.mono e3, d3, eg, fun σ4 s4 _ => ⟨G3, h2, δ3, r3, s4, ?_⟩⟩
            have again : ∀ {δ5 : De} {h5 : Hh}, okS X.K T W G2 (loopR g u (.zp x0 y0) k (i + 1) δ5 h5) D → ∀ G' H' σ', Ext G3 G' → Rel X.K T G' h5 H' → RSl X.K T G' δ5 σ' →
                ∃ m', m' < k + 1 ∧ ∃ G2 h2 δ2, Ext G1 G2 ∧ Rel X.K T G2 h2 H' ∧ RSl X.K T G2 δ2 σ' ∧ okS X.K T W G2 (loopR g u (.zp x0 y0) m' (i + 1) δ2 h2) D :=
              fun {δ5 h5} o5 G' H' σ' e r' s' => ⟨k, by omega, G', h5, δ5, e2.trans (e3.trans e), r', s', okS.ext (e3.trans e) o5⟩
            cases eu : u δ3 h2 with
            | nx δ5 h5 => rw [eu] at o2; exact again o2
            | ct δ5 h5 => rw [eu] at o2; exact again o2
            | bk δ5 h5 => rw [eu] at o2; exact okS.ext e3 o2
            | rt d h5 => rw [eu] at o2; exact okS.ext e3 o2
            | exc c ds δ5 h5 => rw [eu] at o2; exact okS.ext e3 o2
            | stk => rw [eu] at o2; exact o2
/-! ### zip, also of lists on the own heap -/
theorem seqS_ok {K : PySem.W.Frag} {G : Gst} {h : Hh} {H : Hp} {d : D} {v : V} {ds : List D} (r : Rel K T G h H) (d1 : RD K T G d v) (e : seqS h d = some ds) : ∃ b a vs, v = .ref a ∧ SqX K b H a vs ∧ RDs K T G ds vs ∧ ∀ G2 h2 H2 es, Ext0 G G2 → Rel K T G2 h2 H2 → seqS h2 d = some es → ∃ ws, SqX K b H2 a ws ∧ RDs K T G2 es ws := by
  cases d1 with
  | @ref n a q =>
    have el : ∀ {h : Hh} {es : List D}, seqS h (.ref n) = some es → asL h (.ref n) = some es := fun {h es} e => by
      unfold seqS at e; unfold asL; dsimp only at e ⊢
      cases z : h[n]? with
      | none => rw [z] at e; cases e
      | some o =>
        rw [z] at e
        cases o with
        | lst ds => exact e
        | _ => cases e
    obtain ⟨a', vs, e1, e2, q2⟩ := asL_ok r (RD.ref q) (el e)
    cases e1
    refine ⟨false, a, vs, rfl, .inl (.inl e2), q2, fun G2 h2 H2 es x r2 e' => ?_⟩
    obtain ⟨a', ws, e1, e2, q2⟩ := asL_ok r2 ((RD.ref q).mono0 x) (el e')
    cases e1
    exact ⟨ws, .inl (.inl e2), q2⟩
  | tup z1 z2 => cases e; exact ⟨true, _, _, rfl, SqX.sub (b := true) r.sub z1, z2, fun G2 h2 H2 es x r2 e' => by cases e'; exact ⟨_, SqX.sub (b := true) r2.sub (SqX.sub (b := true) x.fz z1), z2.mono0 x⟩⟩
  | lst z1 z2 => cases e; exact ⟨false, _, _, rfl, SqX.sub (b := false) r.sub (.inl (.inl z1)), z2, fun G2 h2 H2 es x r2 e' => by cases e'; exact ⟨_, SqX.sub (b := false) r2.sub (SqX.sub (b := false) x.fz (.inl (.inl z1))), z2.mono0 x⟩⟩
  | scr z1 z2 => cases e; exact ⟨false, _, _, rfl, SqX.sub (b := false) r.sub z1, z2, fun G2 h2 H2 es x r2 e' => by cases e'; exact ⟨_, SqX.sub (b := false) r2.sub (SqX.sub (b := false) x.fz z1), z2.mono0 x⟩⟩
  | _ => cases e
def kZipW (ds : List D) (h : Hh) : R Wk := match ds with
  | [x, y] => match immS x, immS y with
    | some (_, xs), some (_, ys) => .ok (.im (zipL xs ys)) h
    | _, _ => match seqS h x, seqS h y with
      | some _, some _ => .ok (.zp x y) h
      | _, _ => .stk
  | _ => .stk
def wZip (fa : FnA) : FnW := fun δ h => (fa δ h).bind kZipW
theorem walk_zipW {K : PySem.W.Frag} {G : Gst} {b1 b2 : Bool} {a b : Addr} {x0 y0 : D} (f1 : ∀ G2 h2 H2 es, Ext0 G G2 → Rel K T G2 h2 H2 → seqS h2 x0 = some es → ∃ ws, SqX K b1 H2 a ws ∧ RDs K T G2 es ws) (f2 : ∀ G2 h2 H2 es, Ext0 G G2 → Rel K T G2 h2 H2 → seqS h2 y0 = some es → ∃ ws, SqX K b2 H2 b ws ∧ RDs K T G2 es ws) : Walk4 K T (ItzX K b1 b2 a b) G (.zp x0 y0) := fun i G2 h2 H2 zs x r el => by
  unfold look at el
  dsimp only at el
  cases ex : seqS h2 x0 with
  | none => rw [ex] at el; cases el
  | some ds =>
    cases ey : seqS h2 y0 with
    | none => rw [ex, ey] at el; cases el
    | some es =>
      rw [ex, ey] at el
      cases el
      obtain ⟨vs, z1, q2⟩ := f1 G2 h2 H2 ds x r ex
      obtain ⟨ws, z2, q4⟩ := f2 G2 h2 H2 es x r ey
      have l1 := q2.length
      have l2 := q4.length
      refine ⟨fun d e => ?_, fun hl => ⟨vs, ws, z1, z2, ?_⟩⟩
      · obtain ⟨d1, d2, e1, e2, rfl⟩ := zipL_get ds es i d e
        obtain ⟨v, ev, dv⟩ := q2.get e1
        obtain ⟨w, ew, dw⟩ := q4.get e2
        refine ⟨⟨vs, ws, v, w, z1, z2, ev, ew⟩, ?_⟩
        rintro y H3 ⟨p, v', w', rfl, hp, rfl, f1, f2⟩
        have g1 := f1 vs z1
        have g2 := f2 ws z2
        rw [ev] at g1; cases g1
        rw [ew] at g2; cases g2
        obtain ⟨x', r'⟩ := r.newF (o := .tup [v, w]) hp
        exact ⟨_, x', r', .tup (.inl (.inl upd_same)) (.cons (dv.mono x') (.cons (dw.mono x') .nil))⟩
      · rw [zipL_len] at hl
        omega
theorem walk_im {K : PySem.W.Frag} {J : It} {G : Gst} {ds : List D} (w : Walk3 K T J G ds) : Walk4 K T J G (.im ds) := fun i G2 h2 H2 es x r e => by
  cases e
  exact w i G2 h2 H2 x r
theorem fw_zip {e e2 : Expr} {fa : FnA} {p tpos : Pos} {elts : List Expr} {kk : Nat} (hg : Gl X "zip") (hm : X.mg "zip" = none) (ha : FA X T W [e, e2] fa)
    (hs : starEach [e, e2] X.env = (false, eval e X.env) :: starEach [e2] X.env := by rfl) (hpl : (backTo pos (starEach [e2] X.env)).any (·.1) = false := by rfl) :
    FWk X T W (.Tuple elts kk tpos) (.Call (.Name "zip" p) [e, e2] [] pos) (wZip fa) := by
  refine PI.imp (pi_zipX hg hm ha hs hpl) fun σ H Q => ?_
  rintro ⟨G, h0, δ, r, s, o⟩
  refine ⟨G, h0, δ, r, s, (okR.bind (rel := RDs X.K T) o).mono ?_⟩
  rintro vs H1 ⟨G1, ds, h1, e1, r1, d1, o1⟩
  match ds, vs, d1 with
  | [], _, _ => exact o1.elim
  | [_], _, _ => exact o1.elim
  | _ :: _ :: _ :: _, _, _ => exact o1.elim
  | [x, y], [v, w], .cons d1 (.cons d2 .nil) =>
    unfold kZipW at o1
    dsimp only at o1
    have slow : okR X.K T W G1 σ (fun G w J => Walk4 X.K T J G w) (match seqS h1 x, seqS h1 y with
      | some _, some _ => R.ok (Wk.zp x y) h1
      | _, _ => .stk) Q → ∃ b1 b2 a b xs ys, [v, w] = [V.ref a, V.ref b] ∧ SqX X.K b1 H1 a xs ∧ SqX X.K b2 H1 b ys ∧ Q (ItzX X.K b1 b2 a b) H1 := fun o2 => by
      cases ex : seqS h1 x with
      | none => rw [ex] at o2; exact o2.elim
      | some xs =>
        cases ey : seqS h1 y with
        | none => rw [ex, ey] at o2; exact o2.elim
        | some ys =>
          rw [ex, ey] at o2
          obtain ⟨b1, a, us, rfl, z1, _, f1⟩ := seqS_ok r1 d1 ex
          obtain ⟨b2, b, ws, rfl, z3, _, f2⟩ := seqS_ok r1 d2 ey
          exact ⟨b1, b2, a, b, us, ws, rfl, z1, z3, o2 G1 H1 _ (Ext.refl G1) r1 (walk_zipW f1 f2)⟩
    cases ex : immS x with
    | none => rw [ex] at o1; exact slow o1
    | some p =>
      cases ey : immS y with
      | none => rw [ex, ey] at o1; exact slow o1
      | some q =>
        rw [ex, ey] at o1
        obtain ⟨b1, xs⟩ := p
        obtain ⟨b2, ys⟩ := q
        obtain ⟨a, us, rfl, z1, z2⟩ := immS_ok d1 ex
        obtain ⟨b, ws, rfl, z3, z4⟩ := immS_ok d2 ey
        exact ⟨b1, b2, a, b, us, ws, rfl, SqX.sub r1.sub z1, SqX.sub r1.sub z3, o1 G1 H1 _ (Ext.refl G1) r1 (walk_im (walk_zip z1 z2 z3 z4))⟩
end
end L3
set_option autoImplicit false
set_option maxHeartbeats 4000000
/-! L3O: comprehensions over values and over lists on the own heap. -/
namespace L3
open PySem PySem.Spec L2
section
variable {X : Cx} {T : Tx} {W : WX} {pos : Pos}
def lcsN (g : FnG) (t : FnT) (e : FnE) (δ : De) (w : Wk) : Nat → Nat → Hh → R (List D)
  | 0, _, _ => .stk
  | k + 1, i, h => match look w h with
    | none => .stk
    | some ds => match ds[i]? with
      | none => if i = ds.length then .ok [] h else .stk
      | some d => match g d δ with
        | none => .stk
        | some δ1 => match t δ1 h with
          | .ok b h1 => if b = true then
              match e δ1 h1 with
              | .ok y h2 => (lcsN g t e δ w k (i + 1) h2).bind fun ys h3 => .ok (y :: ys) h3
              | _ => .stk
            else lcsN g t e δ w k (i + 1) h1
          | _ => .stk
theorem lcsN_exc (g : FnG) (t : FnT) (e : FnE) (δ : De) (w : Wk) : ∀ (k i : Nat) (h : Hh) c es h', lcsN g t e δ w k i h ≠ .exc c es h'
  | 0, _, _, _, _, _ => fun z => by cases z
  | k + 1, i, h, c, es, h' => fun z => by
    unfold lcsN at z
    split at z
    · cases z
    · split at z
      · split at z <;> cases z
      · split at z
        · cases z
        · split at z
          · split at z
            · split at z
              · rename_i yy hh _
                cases zz : lcsN g t e δ w k (i + 1) hh with
                | ok a b => rw [zz] at z; cases z
                | exc a b cc => exact lcsN_exc g t e δ w k (i + 1) _ _ _ _ zz
                | stk => rw [zz] at z; cases z
              · cases z
            · exact lcsN_exc g t e δ w k (i + 1) _ _ _ _ z
          · cases z
theorem lcs_is (g : FnG) (t : FnT) (e : FnE) (δ : De) (ds : List D) : ∀ (k i : Nat) (h : Hh), i ≤ ds.length → ds.length < k + i → lcs g t e δ (ds.drop i) h = lcsN g t e δ (.im ds) k i h
  | 0, i, h, hi, hk => by omega
  | k + 1, i, h, hi, hk => by
    unfold lcsN
    have el : look (.im ds) h = some ds := rfl
    rw [el]
    dsimp only
    cases ed : ds[i]? with
    | none =>
      have hl := List.getElem?_eq_none_iff.mp ed
      rw [List.drop_eq_nil_of_le hl]
      dsimp only
      rw [if_pos (by omega)]
      rfl
    | some d =>
      obtain ⟨hl, e2⟩ := List.getElem?_eq_some_iff.mp ed
      subst e2
      rw [List.drop_eq_getElem_cons hl]
      have ih := fun h => lcs_is g t e δ ds k (i + 1) h (by omega) (by omega)
      unfold lcs
      simp only [ih]
      all_goals rfl
def lcW (g : FnG) (t : FnT) (e : FnE) (δ : De) : Wk → Hh → R (List D)
  | .im ds, h => lcs g t e δ ds h
  | .hp n, h => lcsN g t e δ (.hp n) 4611686018427387904 0 h
  | .zp x y, h => lcsN g t e δ (.zp x y) 4611686018427387904 0 h
theorem lcW_is (g : FnG) (t : FnT) (e : FnE) (δ : De) (w : Wk) (h : Hh) : ∃ k, lcW g t e δ w h = lcsN g t e δ w k 0 h := by
  cases w with
  | im ds => exact ⟨ds.length + 1, lcs_is g t e δ ds (ds.length + 1) 0 h (by omega) (by omega)⟩
  | hp n => exact ⟨_, rfl⟩
  | zp x y => exact ⟨_, rfl⟩
def eLcW (mu : Bool) (f : FnW) (g : FnG) (t : FnT) (e : FnE) (own : List Nat) : FnE := fun δ h => (f δ h).bind fun w h1 => (lcW g t e (wipeD δ own) w h1).bind (kLst mu)
theorem tE_lcW {mu : Bool} {f : FnW} {is : List Nat} {g : FnG} {t : FnT} {e : FnE} {own : List (Str × Nat)} (hin : ∀ i ∈ is, i ∈ own.map (·.2)) {σ : L2.St} {H : Hp} {Q : VK} (hh : tE X.K T W (eLcW mu f g t e (own.map (·.2))) σ H Q) :
    tLc (tW4 X.K T W f) (tG X.K T is g) (tT X.K T W0 t) (tE X.K T W0 e) (own.map (·.2)) σ H Q := by
  revert hh
  rintro ⟨G, h0, δ, r, s, o⟩
  refine ⟨G, h0, δ, r, s, (okR.bind (rel := fun G w J => Walk4 X.K T J G w) o).mono ?_⟩
  rintro J H1 ⟨G1, wk, h1, e1, r1, w, o1⟩
  obtain ⟨k0, ek0⟩ := lcW_is g t e (wipeD δ (own.map (·.2))) wk h1
  rw [ek0] at o1
  intro Dn hD
  have s1 := (s.mono e1).wipe (own.map (·.2))
  refine ⟨fun i m H' => ∃ G2 h2 acc, LcAt X.K T G1 Dn G2 acc h2 H' ∧ okR X.K T W G1 σ (RD X.K T) ((lcsN g t e (wipeD δ (own.map (·.2))) wk m i h2).bind fun ys h3 => kLst mu (acc ++ ys) h3) Q,
    ⟨k0, G1.guard Dn (.lst []), h1, [], ⟨⟨[], by simp [Gst.guard]⟩, fun _ _ q => q, ⟨[], rfl, .nil⟩, r1.guard hD⟩, o1⟩, ?_⟩
  rintro i m H' ⟨G2, h2, acc, l, o2⟩
  have x02 : Ext0 G1 G2 := ⟨l.ι, l.fz⟩
  cases m with
  | zero => exact o2.elim
  | succ k =>
  unfold lcsN at o2
  cases ek : look wk h2 with
  | none => rw [ek] at o2; exact o2.elim
  | some items =>
  rw [ek] at o2
  dsimp only at o2
  cases ed : items[i]? with
  | some d0 =>
    rw [ed] at o2
    dsimp only at o2
    refine .inr ?_
    obtain ⟨go, yl⟩ := (w i G2 h2 H' items x02 l.rel ek).1 _ ed
    refine ⟨go, fun H3 => ∃ m', m' < k + 1 ∧ ∃ G2 h2 acc, LcAt X.K T G1 Dn G2 acc h2 H3 ∧ okR X.K T W G1 σ (RD X.K T) ((lcsN g t e (wipeD δ (own.map (·.2))) wk m' (i + 1) h2).bind fun ys h3 => kLst mu (acc ++ ys) h3) Q,
      fun H3 ⟨m', a, b⟩ => ⟨m', a, b⟩, fun x H3 y => ?_⟩
    obtain ⟨G3, e3, r3, d3⟩ := yl x H3 y
    have l3 := l.step e3 r3
    have s3 : RSl X.K T G3 (wipeD δ (own.map (·.2))) (L2.wipe σ (own.map (·.2))) := ⟨s1.len, fun j d q => let ⟨v, a, b⟩ := s1.at_ j d q; ⟨v, a, b.mono0 ⟨l3.ι, l3.fz⟩⟩⟩
    cases eg : g d0 (wipeD δ (own.map (·.2))) with
    | none => rw [eg] at o2; exact o2.elim
    | some δ3 =>
      rw [eg] at o2
      dsimp only at o2
      refine ⟨G3, h2, _, d0, δ3, r3, s3, d3, eg, fun σ4 s4 so => ⟨wipe_same so hin, G3, h2, δ3, r3, s4, ?_⟩⟩
      cases et : t δ3 h2 with
      | stk => rw [et] at o2; exact o2.elim
      | exc c ds h' => rw [et] at o2; exact o2.elim
      | ok b h3 =>
        rw [et] at o2
        dsimp only at o2
        intro G4 H4 b' x4 r4 eb
        have eb' : b = b' := eb
        subst eb'
        have l4 := l3.step x4 r4
        cases b with
        | false =>
          rw [if_neg Bool.false_ne_true] at o2 ⊢
          exact ⟨k, by omega, G4, h3, acc, l4, o2⟩
        | true =>
          rw [if_pos rfl] at o2 ⊢
          refine ⟨G4, h3, δ3, r4, s4.mono x4, ?_⟩
          cases ee : e δ3 h3 with
          | stk => rw [ee] at o2; exact o2.elim
          | exc c ds h' => rw [ee] at o2; exact o2.elim
          | ok y h4 =>
            rw [ee] at o2
            dsimp only at o2
            intro G5 H5 v x5 r5 d5
            have l5 := l4.step x5 r5
            obtain ⟨avs, ep, dacc⟩ := l5.pr
            have hpr : G5.pr Dn = some (.lst avs) := by rw [ep, upd_same]
            obtain ⟨q1, q2, q3⟩ := r5.pr Dn _ hpr
            refine ⟨avs, q1, ?_, k, by omega, { G5 with pr := upd G5.pr Dn (.lst (avs ++ [v])) }, h4, acc ++ [y], ⟨l5.ι, l5.fz, ⟨avs ++ [v], ?_, ?_⟩, r5.reguard hpr⟩, ?_⟩
            · -- the size
              have sz : avs.length < 16777216 := by
                rw [← dacc.length]
                cases el : lcsN g t e (wipeD δ (own.map (·.2))) wk k (i + 1) h4 with
                | stk => rw [el] at o2; exact o2.elim
                | exc c ds h' => rw [el] at o2; exact absurd el (lcsN_exc _ _ _ _ _ _ _ _ _ _ _)
                | ok ys h5 =>
                  rw [el] at o2
                  have o3 : okR X.K T W G1 σ (RD X.K T) (kLst mu (acc ++ y :: ys) h5) Q := o2
                  unfold kLst at o3
                  by_cases hl : lineOk (acc ++ y :: ys).length = true
                  · have := of_decide_eq_true hl
                    rw [List.length_append, List.length_cons] at this
                    omega
                  · rw [if_neg hl] at o3; exact o3.elim
              rw [sizeLine_eq]; exact sz
            · show upd G5.pr Dn (.lst (avs ++ [v])) = upd G1.pr Dn (.lst (avs ++ [v]))
              rw [ep, upd_upd]
            · exact RDs.mono0 (G := G5) (G' := { G5 with pr := upd G5.pr Dn (.lst (avs ++ [v])) }) ⟨⟨[], (List.append_nil _).symm⟩, fun _ _ z => z⟩ (dacc.append (.cons d5 .nil))
            · have ea : ∀ (rr : R (List D)), ((rr.bind fun ys h3 => R.ok (y :: ys) h3).bind fun ys h3 => kLst mu (acc ++ ys) h3) = rr.bind fun ys h3 => kLst mu (acc ++ [y] ++ ys) h3 := fun rr => by
                cases rr with
                | ok a b => show kLst mu (acc ++ y :: a) b = kLst mu (acc ++ [y] ++ a) b; rw [List.append_assoc]; rfl
                | exc _ _ _ => rfl
                | stk => rfl
              rw [ea] at o2
              exact o2
  | none =>
    rw [ed] at o2
    dsimp only at o2
    by_cases hend : i = items.length
    case neg => rw [if_neg hend] at o2; exact o2.elim
    rw [if_pos hend] at o2
    refine .inl ⟨(w i G2 h2 H' items x02 l.rel ek).2 hend, ?_⟩
    have o3 : okR X.K T W G1 σ (RD X.K T) (kLst mu (acc ++ []) h2) Q := o2
    rw [List.append_nil] at o3
    unfold kLst at o3
    by_cases hl : lineOk acc.length = true
    · rw [if_pos hl] at o3
      obtain ⟨avs, ep, dacc⟩ := l.pr
      have hpr : G2.pr Dn = some (.lst avs) := by rw [ep, upd_same]
      have pn : G1.pr Dn = none := by
        cases z : G1.pr Dn with
        | none => rfl
        | some u => have := (r1.pr Dn u z).1; rw [hD] at this; cases this
      obtain ⟨q1, q2, q3⟩ := l.rel.pr Dn _ hpr
      have fzm : ∀ a u, G2.fz a = some u → upd G2.fz Dn (.lst avs) a = some u := fun a u z => by
        have na : a ≠ Dn := fun y => by rw [y, q2] at z; cases z
        rw [upd_ne na]; exact z
      have hpr0 : ∀ a u, G1.pr a = some u → a ≠ Dn ∧ G2.pr a = some u := fun a u z => by
        have na : a ≠ Dn := fun y => by rw [y, pn] at z; cases z
        exact ⟨na, by rw [ep, upd_ne na]; exact z⟩
      cases mu with
      | false =>
        rw [if_neg Bool.false_ne_true] at o3
        exact o3 { G2 with pr := G1.pr, fz := upd G2.fz Dn (.lst avs) } H' (.ref Dn) ⟨l.ι, fun a u z => fzm a u (l.fz a u z), rfl⟩ (l.rel.unguard hpr hpr0) (.lst upd_same (RDs.mono0 (G := G2) (G' := { G2 with pr := G1.pr, fz := upd G2.fz Dn (.lst avs) }) ⟨⟨[], (List.append_nil _).symm⟩, fzm⟩ dacc))
      | true =>
        rw [if_pos rfl] at o3
        obtain ⟨x5, r5⟩ := l.rel.unguardO (u := .lst acc) hpr hpr0 fun G' x hi ho _ => ⟨Dn, avs, hi, ho, q1, dacc.mono0 x⟩
        obtain ⟨tt, et⟩ := l.ι
        refine o3 (G2.give Dn G1.pr) H' (.ref Dn) ⟨⟨tt ++ [Dn], ?_⟩, fun a u z => l.fz a u z, rfl⟩ r5 (.ref ?_)
        · show G2.ι ++ [Dn] = G1.ι ++ (tt ++ [Dn])
          rw [et, List.append_assoc]
        · show (G2.ι ++ [Dn])[h2.length]? = some Dn
          rw [← l.rel.len]; simp
    · rw [if_neg hl] at o3; exact o3.elim
theorem fe_lcW {mu : Bool} {elt tg iter : Expr} {ifs : List Expr} {scope : Scope} {own : List (Str × Nat)} {f : FnW} {is : List Nat} {g : FnG} {t : FnT} {e : FnE} (hc : X.calm = true) (hN : X.N.Nodup) (hi : FWk X T W tg iter f) (ok : BlkOk X.N X.env.scope scope own)
    (hg : ∀ (s : Shared) (H : Hp) (C : Addr) (cl : List (Str × Addr)) (fp : List Addr), FG (X.blk s H scope (compEnvC scope cl C X.env) fp) T tg is g) (ht : ∀ (s : Shared) (H : Hp) (C : Addr) (cl : List (Str × Addr)) (fp : List Addr), FTs (X.blk s H scope (compEnvC scope cl C X.env) fp) T W0 ifs t)
    (he : ∀ (s : Shared) (H : Hp) (C : Addr) (cl : List (Str × Addr)) (fp : List Addr), FE (X.blk s H scope (compEnvC scope cl C X.env) fp) T W0 elt e) (hin : ∀ i ∈ is, i ∈ own.map (·.2)) (hs : ∀ x, foldedSetIterable iter X.env x = pure x := by intro _; rfl) :
    FE X T W (.ListComp elt [⟨tg, iter, ifs, 0⟩] scope pos) (eLcW mu f g t e (own.map (·.2))) :=
  PE.imp (pe_lc (wi := tW4 X.K T W f) (g := tG X.K T is g) (tt := tT X.K T W0 t) (te := tE X.K T W0 e) hc hN hi ok hg ht he hs) fun _ _ _ hh => tE_lcW hin hh
/-- name = [..] on one line, a local -/
theorem fs_setLcW {mu : Bool} {i : Nat} {y : Str} {py spos : Pos} {elt tg iter : Expr} {ifs : List Expr} {scope : Scope} {own : List (Str × Nat)} {f : FnW} {is : List Nat} {g : FnG} {t : FnT} {e : FnE} (hc : X.calm = true) (hN : X.N.Nodup) (hy : X.N[i]? = some y) (hyl : X.env.scope.names.lookup y = some .local)
    (hsw : swapsWith (.ListComp elt [⟨tg, iter, ifs, 0⟩] scope pos) (some (.Name y py)) spos.line X.env = pure true) (hi : FWk X T W tg iter f) (ok : BlkOk X.N X.env.scope scope own)
    (hg : ∀ (s : Shared) (H : Hp) (C : Addr) (cl : List (Str × Addr)) (fp : List Addr), FG (X.blk s H scope (compEnvC scope cl C X.env) fp) T tg is g) (ht : ∀ (s : Shared) (H : Hp) (C : Addr) (cl : List (Str × Addr)) (fp : List Addr), FTs (X.blk s H scope (compEnvC scope cl C X.env) fp) T W0 ifs t)
    (he : ∀ (s : Shared) (H : Hp) (C : Addr) (cl : List (Str × Addr)) (fp : List Addr), FE (X.blk s H scope (compEnvC scope cl C X.env) fp) T W0 elt e) (hin : ∀ i ∈ is, i ∈ own.map (·.2)) (hs : ∀ x, foldedSetIterable iter X.env x = pure x := by intro _; rfl) :
    FS X T W (.Assign [.Name y py] (.ListComp elt [⟨tg, iter, ifs, 0⟩] scope pos) spos) (sSet i (eLcW mu f g t e (own.map (·.2)))) := by
  refine PS.imp (ps_setLc (wi := tW4 X.K T W f) (g := tG X.K T is g) (tt := tT X.K T W0 t) (te := tE X.K T W0 e) hc hN hy hyl hsw hi ok hg ht he hs) fun D σ H h => ?_
  refine tE_lcW (mu := mu) hin ?_
  exact tS.bind (k := fun δ x h1 => .nx (δ.set i (some x)) h1) h fun G δ x w h1 H1 r1 s1 d1 o1 => o1 G H1 _ (Ext.refl G) r1 (s1.set d1 i)
end
end L3
set_option autoImplicit false
set_option maxHeartbeats 4000000
/-! L3P: max and min of one list or tuple of whole numbers, and of three or four numbers. -/
namespace PySem
open Sem (wp)
theorem F.l3_args_max4 (a b c d : Value) : argsOk "max" ⟨[a, b, c, d], []⟩ := by unfold argsOk; kernel_rfl
section
variable {prog : Program} {w : World} {A : Around} {E : Value → Shared → Prop} {s : Shared}
theorem l3_max_four {a b c d : Value} {Q : Value → Shared → Prop}
    (h : wpAny (model prog w) A.in1 (pyIter (.ref s.heap.objs.size)) (fun it s₂ => ∃ I fp wr n P St bt, it = .ref I ∧ Walks prog w A.in1 I fp wr n P St ∧ St 0 s₂.heap ∧ (∀ b ∈ fp, b < s₂.heap.objs.size) ∧ 0 < n ∧ CmpOf prog w A.in1 .Gt P bt ∧
      ∀ v h' tk, P (argBest bt (n - 1)) v → (∀ b o, b ∉ wr → s₂.heap.get? b = some o → h'.get? b = some o) → Q v { s₂ with heap := h', toks := tk }) E
      { s with heap := s.heap.push { cls := .type "tuple", data := .seq #[a, b, c, d] } }) :
    wpAny (model prog w) A (call (.builtin "max") [a, b, c, d]) Q E s := by
  have hname : (toString "max" ++ toString ".loop" : String) = "max.loop" := by decide
  refine call_function_tree F.kind_max F.plain_max F.entry_max (F.l3_args_max4 _ _ _ _) ?_
  show wpAny _ A.in1 (Builtin.Builtins.bindParams "max" ["key", "default"] 0 ⟨[], []⟩ >>= _) _ _ s
  refine wpAny_bind (wpAny_of_eq (show Builtin.Builtins.bindParams "max" ["key", "default"] 0 ⟨[], []⟩ = pure [none, none] from rfl) ?_)
  show wpAny _ A.in1 (newTuple [a, b, c, d] >>= _) _ _ s
  refine wpAny_bind (wpAny_newObj_type ?_)
  refine wpAny_bind (wpAny_mono h (fun it s₂ h₂ => ?_) fun _ _ e => e)
  obtain ⟨I, fp, wr, n, P, St, bt, rfl, W, hst, hfp, hn, hcmp, hQ⟩ := h₂
  refine wpAny_bind (wpAny_newObj_type ?_)
  have hSf : s₂.heap.objs.size ∉ fp := fun hm => Nat.lt_irrefl _ (hfp _ hm)
  rw [hname]
  refine wpAny_pure ⟨plainId_quiet F.plain_max_loop _, codeAny_max_loop_first W bt hcmp s₂.heap.objs.size hSf hn (W.frame _ _ _ hst fun b _ o e => Heap.get?_push_of_some _ e) (Heap.get?_push_size _ rfl) fun v h' tk hP hk => ?_⟩
  exact hQ v h' tk hP fun b o hbw e => hk b o hbw (Nat.ne_of_lt (Heap.lt_size e)) (Heap.get?_push_of_some _ e)
theorem l3_max_tup {xs : Array (Int × Tok)} {l : Addr} {Q : Value → Shared → Prop} (hh : A.handled = none) (hl : s.heap.IsTuple l (intItems xs)) (hne : 0 < xs.size)
    (h : ∀ v h' tk, (intItems xs)[argBest (fun i j => decide (numAt xs i > numAt xs j)) (xs.size - 1)]? = some v → (∀ b o, s.heap.get? b = some o → h'.get? b = some o) → Q v { s with heap := h', toks := tk }) :
    wpAny (model prog w) A (call (.builtin "max") [.ref l]) Q E s := by
  have hlt : l < s.heap.objs.size := by obtain ⟨_, e, _⟩ := hl; exact Heap.lt_size e
  refine call_max_walk (wpAny_pyIter_tuple hl ?_)
  refine ⟨_, [_, l], [_], _, _, _, _, rfl, Walks.tuple (A := A.in1) hh _ l (Nat.ne_of_lt hlt) (intItems xs), ⟨⟨_, Heap.get?_push_size _ rfl, rfl, rfl⟩, hl.push _⟩, fun d hd => ?_, by simpa [intItems] using hne, CmpOf.ints_gt (numAt xs) (fun _ _ => intItems_at), fun v h' tk hP hk => ?_⟩
  · show d < (s.heap.push _).objs.size
    rw [Heap.size_push]
    rcases List.mem_cons.mp hd with rfl | hd
    · exact Nat.lt_succ_self _
    · rcases List.mem_cons.mp hd with rfl | hd
      · exact Nat.lt_succ_of_lt hlt
      · cases hd
  · refine h v h' tk (by simpa [intItems] using hP) fun d o e => hk d o (fun hm => ?_) (Heap.get?_push_of_some _ e)
    rcases List.mem_cons.mp hm with e1 | hm
    · have := Heap.lt_size e; rw [e1] at this; exact Nat.lt_irrefl _ this
    · cases hm
theorem l3_max_4 {xs : Array (Int × Tok)} {a b c d : Value} {Q : Value → Shared → Prop} (hh : A.handled = none) (e4 : intItems xs = #[a, b, c, d]) (hne : 0 < xs.size)
    (h : ∀ v h' tk, (intItems xs)[argBest (fun i j => decide (numAt xs i > numAt xs j)) (xs.size - 1)]? = some v → (∀ b o, s.heap.get? b = some o → h'.get? b = some o) → Q v { s with heap := h', toks := tk }) :
    wpAny (model prog w) A (call (.builtin "max") [a, b, c, d]) Q E s := by
  have hT : (s.heap.push { cls := .type "tuple", data := .seq #[a, b, c, d] }).IsTuple s.heap.objs.size (intItems xs) := ⟨_, Heap.get?_push_size _ rfl, rfl, 0, by rw [e4]⟩
  have hsz : (s.heap.push { cls := .type "tuple", data := .seq #[a, b, c, d] }).objs.size = s.heap.objs.size + 1 := Heap.size_push ..
  refine l3_max_four (wpAny_pyIter_tuple hT ?_)
  refine ⟨_, [_, s.heap.objs.size], [_], _, _, _, _, rfl, Walks.tuple (A := A.in1) hh _ s.heap.objs.size (by rw [hsz]; exact Nat.ne_of_lt (Nat.lt_succ_self _)) (intItems xs), ⟨⟨_, Heap.get?_push_size _ rfl, rfl, rfl⟩, hT.push _⟩, fun d hd => ?_, by simpa [intItems] using hne, CmpOf.ints_gt (numAt xs) (fun _ _ => intItems_at), fun v h' tk hP hk => ?_⟩
  · show d < ((s.heap.push _).push _).objs.size
    rw [Heap.size_push, hsz]
    rcases List.mem_cons.mp hd with rfl | hd
    · rw [hsz]; exact Nat.lt_succ_self _
    · rcases List.mem_cons.mp hd with rfl | hd
      · exact Nat.lt_succ_of_lt (Nat.lt_succ_self _)
      · cases hd
  · refine h v h' tk (by simpa [intItems] using hP) fun d o e => hk d o (fun hm => ?_) (Heap.get?_push_of_some _ (Heap.get?_push_of_some _ e))
    rcases List.mem_cons.mp hm with e1 | hm
    · have := Heap.lt_size e; rw [e1, hsz] at this; exact Nat.lt_irrefl _ (Nat.lt_of_succ_lt this)
    · cases hm
end
theorem F.l3_args_min4 (a b c d : Value) : argsOk "min" ⟨[a, b, c, d], []⟩ := by unfold argsOk; kernel_rfl
section
variable {prog : Program} {w : World} {A : Around} {E : Value → Shared → Prop} {s : Shared}
theorem l3_min_four {a b c d : Value} {Q : Value → Shared → Prop}
    (h : wpAny (model prog w) A.in1 (pyIter (.ref s.heap.objs.size)) (fun it s₂ => ∃ I fp wr n P St bt, it = .ref I ∧ Walks prog w A.in1 I fp wr n P St ∧ St 0 s₂.heap ∧ (∀ b ∈ fp, b < s₂.heap.objs.size) ∧ 0 < n ∧ CmpOf prog w A.in1 .Lt P bt ∧
      ∀ v h' tk, P (argBest bt (n - 1)) v → (∀ b o, b ∉ wr → s₂.heap.get? b = some o → h'.get? b = some o) → Q v { s₂ with heap := h', toks := tk }) E
      { s with heap := s.heap.push { cls := .type "tuple", data := .seq #[a, b, c, d] } }) :
    wpAny (model prog w) A (call (.builtin "min") [a, b, c, d]) Q E s := by
  have hname : (toString "min" ++ toString ".loop" : String) = "min.loop" := by decide
  refine call_function_tree F.kind_min F.plain_min F.entry_min (F.l3_args_min4 _ _ _ _) ?_
  show wpAny _ A.in1 (Builtin.Builtins.bindParams "min" ["key", "default"] 0 ⟨[], []⟩ >>= _) _ _ s
  refine wpAny_bind (wpAny_of_eq (show Builtin.Builtins.bindParams "min" ["key", "default"] 0 ⟨[], []⟩ = pure [none, none] from rfl) ?_)
  show wpAny _ A.in1 (newTuple [a, b, c, d] >>= _) _ _ s
  refine wpAny_bind (wpAny_newObj_type ?_)
  refine wpAny_bind (wpAny_mono h (fun it s₂ h₂ => ?_) fun _ _ e => e)
  obtain ⟨I, fp, wr, n, P, St, bt, rfl, W, hst, hfp, hn, hcmp, hQ⟩ := h₂
  refine wpAny_bind (wpAny_newObj_type ?_)
  have hSf : s₂.heap.objs.size ∉ fp := fun hm => Nat.lt_irrefl _ (hfp _ hm)
  rw [hname]
  refine wpAny_pure ⟨plainId_quiet F.plain_min_loop _, codeAny_min_loop_first W bt hcmp s₂.heap.objs.size hSf hn (W.frame _ _ _ hst fun b _ o e => Heap.get?_push_of_some _ e) (Heap.get?_push_size _ rfl) fun v h' tk hP hk => ?_⟩
  exact hQ v h' tk hP fun b o hbw e => hk b o hbw (Nat.ne_of_lt (Heap.lt_size e)) (Heap.get?_push_of_some _ e)
theorem l3_min_tup {xs : Array (Int × Tok)} {l : Addr} {Q : Value → Shared → Prop} (hh : A.handled = none) (hl : s.heap.IsTuple l (intItems xs)) (hne : 0 < xs.size)
    (h : ∀ v h' tk, (intItems xs)[argBest (fun i j => decide (numAt xs i < numAt xs j)) (xs.size - 1)]? = some v → (∀ b o, s.heap.get? b = some o → h'.get? b = some o) → Q v { s with heap := h', toks := tk }) :
    wpAny (model prog w) A (call (.builtin "min") [.ref l]) Q E s := by
  have hlt : l < s.heap.objs.size := by obtain ⟨_, e, _⟩ := hl; exact Heap.lt_size e
  refine call_min_walk (wpAny_pyIter_tuple hl ?_)
  refine ⟨_, [_, l], [_], _, _, _, _, rfl, Walks.tuple (A := A.in1) hh _ l (Nat.ne_of_lt hlt) (intItems xs), ⟨⟨_, Heap.get?_push_size _ rfl, rfl, rfl⟩, hl.push _⟩, fun d hd => ?_, by simpa [intItems] using hne, CmpOf.ints_lt (numAt xs) (fun _ _ => intItems_at), fun v h' tk hP hk => ?_⟩
  · show d < (s.heap.push _).objs.size
    rw [Heap.size_push]
    rcases List.mem_cons.mp hd with rfl | hd
    · exact Nat.lt_succ_self _
    · rcases List.mem_cons.mp hd with rfl | hd
      · exact Nat.lt_succ_of_lt hlt
      · cases hd
  · refine h v h' tk (by simpa [intItems] using hP) fun d o e => hk d o (fun hm => ?_) (Heap.get?_push_of_some _ e)
    rcases List.mem_cons.mp hm with e1 | hm
    · have := Heap.lt_size e; rw [e1] at this; exact Nat.lt_irrefl _ this
    · cases hm
theorem l3_min_4 {xs : Array (Int × Tok)} {a b c d : Value} {Q : Value → Shared → Prop} (hh : A.handled = none) (e4 : intItems xs = #[a, b, c, d]) (hne : 0 < xs.size)
    (h : ∀ v h' tk, (intItems xs)[argBest (fun i j => decide (numAt xs i < numAt xs j)) (xs.size - 1)]? = some v → (∀ b o, s.heap.get? b = some o → h'.get? b = some o) → Q v { s with heap := h', toks := tk }) :
    wpAny (model prog w) A (call (.builtin "min") [a, b, c, d]) Q E s := by
  have hT : (s.heap.push { cls := .type "tuple", data := .seq #[a, b, c, d] }).IsTuple s.heap.objs.size (intItems xs) := ⟨_, Heap.get?_push_size _ rfl, rfl, 0, by rw [e4]⟩
  have hsz : (s.heap.push { cls := .type "tuple", data := .seq #[a, b, c, d] }).objs.size = s.heap.objs.size + 1 := Heap.size_push ..
  refine l3_min_four (wpAny_pyIter_tuple hT ?_)
  refine ⟨_, [_, s.heap.objs.size], [_], _, _, _, _, rfl, Walks.tuple (A := A.in1) hh _ s.heap.objs.size (by rw [hsz]; exact Nat.ne_of_lt (Nat.lt_succ_self _)) (intItems xs), ⟨⟨_, Heap.get?_push_size _ rfl, rfl, rfl⟩, hT.push _⟩, fun d hd => ?_, by simpa [intItems] using hne, CmpOf.ints_lt (numAt xs) (fun _ _ => intItems_at), fun v h' tk hP hk => ?_⟩
  · show d < ((s.heap.push _).push _).objs.size
    rw [Heap.size_push, hsz]
    rcases List.mem_cons.mp hd with rfl | hd
    · rw [hsz]; exact Nat.lt_succ_self _
    · rcases List.mem_cons.mp hd with rfl | hd
      · exact Nat.lt_succ_of_lt (Nat.lt_succ_self _)
      · cases hd
  · refine h v h' tk (by simpa [intItems] using hP) fun d o e => hk d o (fun hm => ?_) (Heap.get?_push_of_some _ (Heap.get?_push_of_some _ e))
    rcases List.mem_cons.mp hm with e1 | hm
    · have := Heap.lt_size e; rw [e1, hsz] at this; exact Nat.lt_irrefl _ (Nat.lt_of_succ_lt this)
    · cases hm
end
end PySem
namespace L3
open PySem PySem.Spec L2 PyProof.Rows
def mxF (a y : Int) : Int := if y > a then y else a
def mnF (a y : Int) : Int := if y < a then y else a
def mxI : List Int → Int
  | [] => 0
  | x :: xs => xs.foldl mxF x
def mnI : List Int → Int
  | [] => 0
  | x :: xs => xs.foldl mnF x
theorem mxL : ∀ (xs : List Int) (x : Int), (xs.foldl mxF x = x ∨ xs.foldl mxF x ∈ xs) ∧ (x ≤ xs.foldl mxF x) ∧ ∀ a, a ∈ xs → a ≤ xs.foldl mxF x
  | [], x => ⟨.inl rfl, Int.le_refl _, fun a h => by cases h⟩
  | y :: xs, x => by
    obtain ⟨h1, h2, h3⟩ := mxL xs (mxF x y)
    have g : (mxF x y = x ∨ mxF x y = y) ∧ (x ≤ mxF x y) ∧ (y ≤ mxF x y) := by unfold mxF; split <;> omega
    obtain ⟨g1, g2, g3⟩ := g
    rw [List.foldl_cons]
    refine ⟨?_, by omega, fun a ha => ?_⟩
    · rcases h1 with h1 | h1
      · rcases g1 with g1 | g1
        · exact .inl (h1.trans g1)
        · refine .inr ?_
          rw [h1.trans g1]
          exact List.mem_cons_self
      · exact .inr (List.mem_cons_of_mem _ h1)
    · rcases List.mem_cons.mp ha with rfl | ha
      · omega
      · exact h3 a ha
theorem mxU {ns : List Int} {M : Int} (h1 : M ∈ ns) (h2 : ∀ a, a ∈ ns → a ≤ M) : M = mxI ns := by
  cases ns with
  | nil => cases h1
  | cons x xs =>
    obtain ⟨k1, k2, k3⟩ := mxL xs x
    have a : M ≤ xs.foldl mxF x := by
      rcases List.mem_cons.mp h1 with rfl | h1
      · exact k2
      · exact k3 _ h1
    have b : xs.foldl mxF x ≤ M := by
      rcases k1 with e | e
      · rw [e]; exact h2 _ List.mem_cons_self
      · exact h2 _ (List.mem_cons_of_mem _ e)
    show M = xs.foldl mxF x
    omega
theorem mnL : ∀ (xs : List Int) (x : Int), (xs.foldl mnF x = x ∨ xs.foldl mnF x ∈ xs) ∧ (xs.foldl mnF x ≤ x) ∧ ∀ a, a ∈ xs → xs.foldl mnF x ≤ a
  | [], x => ⟨.inl rfl, Int.le_refl _, fun a h => by cases h⟩
  | y :: xs, x => by
    obtain ⟨h1, h2, h3⟩ := mnL xs (mnF x y)
    have g : (mnF x y = x ∨ mnF x y = y) ∧ (mnF x y ≤ x) ∧ (mnF x y ≤ y) := by unfold mnF; split <;> omega
    obtain ⟨g1, g2, g3⟩ := g
    rw [List.foldl_cons]
    refine ⟨?_, by omega, fun a ha => ?_⟩
    · rcases h1 with h1 | h1
      · rcases g1 with g1 | g1
        · exact .inl (h1.trans g1)
        · refine .inr ?_
          rw [h1.trans g1]
          exact List.mem_cons_self
      · exact .inr (List.mem_cons_of_mem _ h1)
    · rcases List.mem_cons.mp ha with rfl | ha
      · omega
      · exact h3 a ha
theorem mnU {ns : List Int} {M : Int} (h1 : M ∈ ns) (h2 : ∀ a, a ∈ ns → M ≤ a) : M = mnI ns := by
  cases ns with
  | nil => cases h1
  | cons x xs =>
    obtain ⟨k1, k2, k3⟩ := mnL xs x
    have a : xs.foldl mnF x ≤ M := by
      rcases List.mem_cons.mp h1 with rfl | h1
      · exact k2
      · exact k3 _ h1
    have b : M ≤ xs.foldl mnF x := by
      rcases k1 with e | e
      · rw [e]; exact h2 _ List.mem_cons_self
      · exact h2 _ (List.mem_cons_of_mem _ e)
    show M = xs.foldl mnF x
    omega
section
variable {X : Cx} {T : Tx}
def rMaxS (K : PySem.W.Frag) : List V → Hp → VK → Prop := fun vs H Q => ∃ (a : Addr) (ns : List Int), vs = [V.ref a] ∧ (SqL K H a (ns.map V.int) ∨ SqT K H a (ns.map V.int)) ∧ 0 < ns.length ∧ Q (.int (mxI ns)) H
theorem cr_maxS (hc : X.calm = true) : CallR X (.builtin "max") (rMaxS X.K) := by
  intro pins s σ H vs us Q I r h
  obtain ⟨a, ns, rfl, hs | hs, hne, q⟩ := h
  · obtain ⟨its, rv, hl, _⟩ := I.list hs
    rw [Vals.ref1 r]
    exact max_raw (I.ok.hd hc) hl.isList rv.ints hne fun h' tk m t' hk h1 h2 => ⟨.int (mxI ns), H, I.kept hk, ⟨t', congrArg (fun z => Value.int z t') (mxU h1 h2)⟩, q⟩
  · obtain ⟨its, rv, hl, _⟩ := I.tuple hs
    rw [Vals.ref1 r]
    have hi := rv.ints
    obtain ⟨xs, e⟩ := hi.allInts.items
    have hn : numsOf (intItems xs).toList = ns := by rw [← e]; exact hi.numsOf
    rw [nums_intItems] at hn
    subst hn
    rw [e] at hl
    have hsz : 0 < xs.size := by simpa using hne
    refine l3_max_tup (I.ok.hd hc) hl hsz fun v h' tk hv hk => ?_
    obtain ⟨t, rfl⟩ := intItems_at hv
    obtain ⟨h1, h2⟩ := argBest_gt (numAt xs) (xs.size - 1)
    refine ⟨.int _, H, I.kept hk, ⟨t, congrArg (fun z => Value.int z t) (mxU (ns := xs.toList.map (·.1)) ?_ fun a ha => ?_)⟩, q⟩
    · rw [numAt_eq]; exact PySem.getD_mem (by rw [List.length_map, Array.length_toList]; omega)
    · obtain ⟨j, hj, rfl⟩ := mem_getD ha
      rw [List.length_map, Array.length_toList] at hj
      rw [← numAt_eq]; exact h2 j (by omega)
def rMax4 : List V → Hp → VK → Prop := fun vs H Q => ∃ (a b c d : Int), vs = [.int a, .int b, .int c, .int d] ∧ Q (.int (mxI [a, b, c, d])) H
theorem cr_max4 (hc : X.calm = true) : CallR X (.builtin "max") rMax4 := by
  intro pins s σ H vs us Q I r h
  obtain ⟨a, b, c, d, rfl, q⟩ := h
  obtain ⟨u1, us2, rfl, ⟨t1, rfl⟩, r9⟩ : ∃ u us', us = u :: us' ∧ RelV (.int a) u ∧ Vals [.int b, .int c, .int d] us' := by cases r with | cons r1 r2 => exact ⟨_, _, rfl, r1, r2⟩
  obtain ⟨u2, u3, u4, rfl, ⟨t2, rfl⟩, ⟨t3, rfl⟩, ⟨t4, rfl⟩⟩ := vals3 r9
  refine l3_max_4 (xs := #[(a, t1), (b, t2), (c, t3), (d, t4)]) (I.ok.hd hc) (by simp [intItems]) (by simp) fun v h' tk hv hk => ?_
  obtain ⟨t, rfl⟩ := intItems_at hv
  obtain ⟨h1, h2⟩ := argBest_gt (numAt #[(a, t1), (b, t2), (c, t3), (d, t4)]) 3
  have e : ∀ j, numAt #[(a, t1), (b, t2), (c, t3), (d, t4)] j = [a, b, c, d].getD j 0 := fun j => by rw [numAt_eq]; rfl
  refine ⟨.int _, H, I.kept hk, ⟨t, congrArg (fun z => Value.int z t) (mxU (ns := [a, b, c, d]) ?_ fun x hx => ?_)⟩, q⟩
  · rw [e]; exact PySem.getD_mem (by show _ < 4; show argBest _ 3 < 4; omega)
  · obtain ⟨j, hj, rfl⟩ := mem_getD hx
    rw [← e]; exact h2 j (by simp at hj; omega)
def maxSB : FB := fun ds h => match ds with
  | [x] => match (asSeq h x).bind intsOf with
    | some (n :: ns) => .ok (.int (mxI (n :: ns))) h
    | _ => .stk
  | _ => .stk
theorem cs_maxS : CallS X T (rMaxS X.K) maxSB := by
  intro W G h H σ ds vs Q r d o
  match ds, vs, d with
  | [], _, _ => exact o.elim
  | _ :: _ :: _, _, _ => exact o.elim
  | [x], [v], .cons d1 .nil =>
    unfold maxSB at o
    dsimp only at o
    cases e : (asSeq h x).bind intsOf with
    | none => rw [e] at o; exact o.elim
    | some ns =>
      rw [e] at o
      obtain ⟨es, e1, e2⟩ := Option.bind_eq_some_iff.mp e
      obtain ⟨a, ws, ev, h1, q⟩ := asSeq_ok r d1 e1
      have := intsOf_ok q e2
      subst this
      cases ns with
      | nil => exact o.elim
      | cons n ns => exact ⟨a, n :: ns, by rw [ev], h1, by simp, o.at r .int⟩
def max4B : FB := fun ds h => match ds with
  | [.int a, .int b, .int c, .int d] => .ok (.int (mxI [a, b, c, d])) h
  | _ => .stk
theorem cs_max4 : CallS X T rMax4 max4B := by
  intro W G h H σ ds vs Q r d o
  match ds, vs, d with
  | [.int a, .int b, .int c, .int e], [_, _, _, _], .cons .int (.cons .int (.cons .int (.cons .int .nil))) => exact ⟨a, b, c, e, rfl, o.at r .int⟩
  | ds, vs, d =>
    unfold max4B at o
    split at o
    · cases d with | cons a d => cases d with | cons b d => cases d with | cons c d => cases d with | cons e d => cases d; cases a; cases b; cases c; cases e; exact ⟨_, _, _, _, rfl, o.at r .int⟩
    · exact o.elim
def rMinS (K : PySem.W.Frag) : List V → Hp → VK → Prop := fun vs H Q => ∃ (a : Addr) (ns : List Int), vs = [V.ref a] ∧ (SqL K H a (ns.map V.int) ∨ SqT K H a (ns.map V.int)) ∧ 0 < ns.length ∧ Q (.int (mnI ns)) H
theorem cr_minS (hc : X.calm = true) : CallR X (.builtin "min") (rMinS X.K) := by
  intro pins s σ H vs us Q I r h
  obtain ⟨a, ns, rfl, hs | hs, hne, q⟩ := h
  · obtain ⟨its, rv, hl, _⟩ := I.list hs
    rw [Vals.ref1 r]
    exact min_raw (I.ok.hd hc) hl.isList rv.ints hne fun h' tk m t' hk h1 h2 => ⟨.int (mnI ns), H, I.kept hk, ⟨t', congrArg (fun z => Value.int z t') (mnU h1 h2)⟩, q⟩
  · obtain ⟨its, rv, hl, _⟩ := I.tuple hs
    rw [Vals.ref1 r]
    have hi := rv.ints
    obtain ⟨xs, e⟩ := hi.allInts.items
    have hn : numsOf (intItems xs).toList = ns := by rw [← e]; exact hi.numsOf
    rw [nums_intItems] at hn
    subst hn
    rw [e] at hl
    have hsz : 0 < xs.size := by simpa using hne
    refine l3_min_tup (I.ok.hd hc) hl hsz fun v h' tk hv hk => ?_
    obtain ⟨t, rfl⟩ := intItems_at hv
    obtain ⟨h1, h2⟩ := argBest_lt (numAt xs) (xs.size - 1)
    refine ⟨.int _, H, I.kept hk, ⟨t, congrArg (fun z => Value.int z t) (mnU (ns := xs.toList.map (·.1)) ?_ fun a ha => ?_)⟩, q⟩
    · rw [numAt_eq]; exact PySem.getD_mem (by rw [List.length_map, Array.length_toList]; omega)
    · obtain ⟨j, hj, rfl⟩ := mem_getD ha
      rw [List.length_map, Array.length_toList] at hj
      rw [← numAt_eq]; exact h2 j (by omega)
def rMin4 : List V → Hp → VK → Prop := fun vs H Q => ∃ (a b c d : Int), vs = [.int a, .int b, .int c, .int d] ∧ Q (.int (mnI [a, b, c, d])) H
theorem cr_min4 (hc : X.calm = true) : CallR X (.builtin "min") rMin4 := by
  intro pins s σ H vs us Q I r h
  obtain ⟨a, b, c, d, rfl, q⟩ := h
  obtain ⟨u1, us2, rfl, ⟨t1, rfl⟩, r9⟩ : ∃ u us', us = u :: us' ∧ RelV (.int a) u ∧ Vals [.int b, .int c, .int d] us' := by cases r with | cons r1 r2 => exact ⟨_, _, rfl, r1, r2⟩
  obtain ⟨u2, u3, u4, rfl, ⟨t2, rfl⟩, ⟨t3, rfl⟩, ⟨t4, rfl⟩⟩ := vals3 r9
  refine l3_min_4 (xs := #[(a, t1), (b, t2), (c, t3), (d, t4)]) (I.ok.hd hc) (by simp [intItems]) (by simp) fun v h' tk hv hk => ?_
  obtain ⟨t, rfl⟩ := intItems_at hv
  obtain ⟨h1, h2⟩ := argBest_lt (numAt #[(a, t1), (b, t2), (c, t3), (d, t4)]) 3
  have e : ∀ j, numAt #[(a, t1), (b, t2), (c, t3), (d, t4)] j = [a, b, c, d].getD j 0 := fun j => by rw [numAt_eq]; rfl
  refine ⟨.int _, H, I.kept hk, ⟨t, congrArg (fun z => Value.int z t) (mnU (ns := [a, b, c, d]) ?_ fun x hx => ?_)⟩, q⟩
  · rw [e]; exact PySem.getD_mem (by show _ < 4; show argBest _ 3 < 4; omega)
  · obtain ⟨j, hj, rfl⟩ := mem_getD hx
    rw [← e]; exact h2 j (by simp at hj; omega)
def minSB : FB := fun ds h => match ds with
  | [x] => match (asSeq h x).bind intsOf with
    | some (n :: ns) => .ok (.int (mnI (n :: ns))) h
    | _ => .stk
  | _ => .stk
theorem cs_minS : CallS X T (rMinS X.K) minSB := by
  intro W G h H σ ds vs Q r d o
  match ds, vs, d with
  | [], _, _ => exact o.elim
  | _ :: _ :: _, _, _ => exact o.elim
  | [x], [v], .cons d1 .nil =>
    unfold minSB at o
    dsimp only at o
    cases e : (asSeq h x).bind intsOf with
    | none => rw [e] at o; exact o.elim
    | some ns =>
      rw [e] at o
      obtain ⟨es, e1, e2⟩ := Option.bind_eq_some_iff.mp e
      obtain ⟨a, ws, ev, h1, q⟩ := asSeq_ok r d1 e1
      have := intsOf_ok q e2
      subst this
      cases ns with
      | nil => exact o.elim
      | cons n ns => exact ⟨a, n :: ns, by rw [ev], h1, by simp, o.at r .int⟩
def min4B : FB := fun ds h => match ds with
  | [.int a, .int b, .int c, .int d] => .ok (.int (mnI [a, b, c, d])) h
  | _ => .stk
theorem cs_min4 : CallS X T rMin4 min4B := by
  intro W G h H σ ds vs Q r d o
  match ds, vs, d with
  | [.int a, .int b, .int c, .int e], [_, _, _, _], .cons .int (.cons .int (.cons .int (.cons .int .nil))) => exact ⟨a, b, c, e, rfl, o.at r .int⟩
  | ds, vs, d =>
    unfold min4B at o
    split at o
    · cases d with | cons a d => cases d with | cons b d => cases d with | cons c d => cases d with | cons e d => cases d; cases a; cases b; cases c; cases e; exact ⟨_, _, _, _, rfl, o.at r .int⟩
    · exact o.elim
end
end L3
set_option autoImplicit false
set_option maxHeartbeats 4000000
/-! L3Q: == by an own __eq__, isinstance of an own class. -/
namespace L3
open PySem PySem.Spec L2
section
variable {X : Cx} {T : Tx} {W : WX} {pos : Pos}
def isoD (c : Nat) (x : D) (h : Hh) : R D := match clsOf h x with
  | some c' => if c' = c then .ok (.bl true) h else .stk
  | none => match kdOf h x with
    | some _ => .ok (.bl false) h
    | none => .stk
def eIso (c : Nat) (fa : FnE) : FnE := fun δ h => (fa δ h).bind (isoD c)
theorem iso_no {K : PySem.W.Frag} {C : Addr} (I : IsiC K C) (k : Kd) : PySem.W.kitOne K (.type k.nm) (.ref C) = some false := by
  cases k
  · exact I.n0
  · exact I.n1
  · exact I.n2
  · exact I.n3
  · exact I.n4
  · exact I.n5
  · exact I.n6
theorem fe_iso {c : Nat} {C : Addr} {x : Str} {p p2 : Pos} {e : Expr} {fa : FnE} (hcl : ∃ nm, T.cls c = some (C, nm)) (cl : Cls X.K C) (J : IsiC X.K C) (he : FE X T W e fa) (hg : Gl X "isinstance") (hm : X.mg "isinstance" = none) (hgt : Gl X x) (hmt : X.mg x = some (.ref C)) (hv0 : bootBuiltins "isinstance" = some (.builtin "isinstance")) (hdb : (x == ("__debug__" : Str)) = false := by decide)
    (hs : starEach [e, .Name x p2] X.env = (false, eval e X.env) :: starEach [.Name x p2] X.env := by rfl) (hs2 : starEach [.Name x p2] X.env = (false, eval (.Name x p2) X.env) :: starEach [] X.env := by rfl) (hpl : (backTo pos (starEach [.Name x p2] X.env)).any (·.1) = false := by rfl) :
    FE X T W (.Call (.Name "isinstance" p) [e, .Name x p2] [] pos) (eIso c fa) := by
  have hty : PE X (.Name x p2) (tC (.ref C)) := pe_glob hgt hmt rfl hdb
  refine PE.imp (pe_callB call_isi hg hm hv0 (pa_cons he (pa_cons hty pa_nil hs2) hs) (by decide) (by decide) hs hpl) fun σ H Q h => ?_
  refine tF.bind (k := fun _ => isoD c) h fun G δ x v h1 H1 r1 s1 d1 o1 => ?_
  unfold isoD at o1
  cases ec : clsOf h1 x with
  | some c' =>
    rw [ec] at o1
    dsimp only at o1
    by_cases hc : c' = c
    · subst hc
      rw [if_pos rfl] at o1
      obtain ⟨a, C', dx, nm, fs, rfl, q1, q2, _⟩ := clsOf_ok r1 d1 ec
      obtain ⟨nm2, hcl⟩ := hcl
      rw [hcl] at q2; cases q2
      exact ⟨_, .ref C, .ref C, .ref C, true, rfl, .own C, .base (.ins q1 cl J.ha J.hn J.ht J.hm), J.me, o1.at r1 .bl⟩
    · rw [if_neg hc] at o1; exact o1.elim
  | none =>
    rw [ec] at o1
    dsimp only at o1
    cases ek : kdOf h1 x with
    | none => rw [ek] at o1; exact o1.elim
    | some k =>
      rw [ek] at o1
      exact ⟨v, .ref C, .type k.nm, .ref C, false, rfl, .own C, kd_ok r1 d1 ek, iso_no J k, o1.at r1 .bl⟩
/-! == of two instances -/
def rEqO (K : PySem.W.Frag) (T : Tx) (C : Addr) (sem : Sem3) : R2 := fun x y H Q => ∃ a b dx dy fs gs, x = .ref a ∧ y = .ref b ∧ H a = some (.ins C dx fs) ∧ H b = some (.ins C dy gs) ∧ sp3 K T 2 sem [x, y] H Q E0
theorem op_eqO {C f : Addr} {k : Nat} {fd : FuncData} {ps : List Str} {sem : Sem3} (M : Meth X.K C "__eq__" f) (F : FnL X.prog X.w X.K X.mg X.base T k f fd ps sem) (hr : RoomG k X.A) (hb : Binds X.K fd ps []) (h2 : ps.length = 2 := by rfl) : OpR X (compareOp .Eq) (rEqO X.K T C sem) := by
  intro pins s σ H x y v u Q I rx ry hq
  obtain ⟨a, b, dx, dy, fs, gs, rfl, rfl, ha, hb', hsp⟩ := hq
  cases rx
  cases ry
  obtain ⟨mA, J, _⟩ := ins_get I.hok ha
  obtain ⟨mB, J', _⟩ := ins_get I.hok hb'
  obtain ⟨od, J, _⟩ := J.look
  obtain ⟨od', J', _⟩ := J'.look
  obtain ⟨m, hF⟩ := I.fr
  show wpAny (model X.prog X.w) X.A (richCompare .Eq (.ref a) (.ref b)) (EP X pins σ Q) X.xe s
  refine PySem.W.cmp_K (op := .Eq) (tb := .ref C) hr.r.units0 hF I.ok.mod.kin J J'.type (by simp [PySem.W.notFirst]) M.at_ M.fn ?_
  have hsp' : sp3 X.K T ps.length sem [.ref a, .ref b] H Q E0 := by rw [h2]; exact hsp
  have hl : [Value.ref a, Value.ref b].length = ps.length := by rw [h2]; rfl
  refine wpAny_call (codeAny_mono (F.go X.A X.stack s H ⟨[.ref a, .ref b], []⟩ [.ref a, .ref b] [.ref a, .ref b] Q E0 hr I.env0 (by
    have := hb s [.ref a, .ref b] I.kIn (by simpa using hl)
    simpa using this) (.cons rfl (.cons rfl .nil)) hsp') fun r s' e => ?_)
  match r, e with
  | .error er, e => exact False.elim ((passL : Passes (L2.CX X.prog X.w) X.nox E0) pins σ H _ er s' (I.wish _) e)
  | .ok (.ret w), e =>
    obtain ⟨z, H', I', rz, q3⟩ := I.after e
    cases w with
    | notImplemented => cases z <;> first | (cases rz; done) | exact (show False from by simp [RelV] at rz)
    | _ => exact ⟨z, H', I', rz, q3⟩
  | .ok .next, e => exact e.elim
  | .ok .brk, e => exact e.elim
  | .ok .cont, e => exact e.elim
def eqO (c : Nat) (sem : Sem3) : F2 := fun x y h => if clsOf h x = some c ∧ clsOf h y = some c then noX (sem [x, y] h) else .stk
theorem os_eqO {c : Nat} {C : Addr} {sem : Sem3} (hcl : ∃ nm, T.cls c = some (C, nm)) : OpS X T (rEqO X.K T C sem) (eqO c sem) := by
  intro W G h H σ x y v w Q r d1 d2 o
  obtain ⟨nm, hcl⟩ := hcl
  unfold eqO at o
  by_cases hc : clsOf h x = some c ∧ clsOf h y = some c
  · rw [if_pos hc] at o
    obtain ⟨a, C', dx, nm', fs, rfl, q1, q2, _⟩ := clsOf_ok r d1 hc.1
    rw [hcl] at q2; cases q2
    obtain ⟨b, C', dy, nm', gs, rfl, p1, p2, _⟩ := clsOf_ok r d2 hc.2
    rw [hcl] at p2; cases p2
    refine ⟨a, b, dx, dy, fs, gs, rfl, rfl, q1, p1, rfl, G, h, [x, y], r, .cons d1 (.cons d2 .nil), ?_⟩
    cases es : sem [x, y] h with
    | ok z hh => rw [es] at o; exact o
    | exc c es' hh => rw [es] at o; exact o.elim
    | stk => rw [es] at o; exact o.elim
  · rw [if_neg hc] at o; exact o.elim
end
end L3
set_option autoImplicit false
set_option maxHeartbeats 4000000
/-! L3R: two lists made one of the def's own; comprehensions of two clauses. -/
namespace L3
open PySem PySem.Spec L2
section
variable {X : Cx} {T : Tx} {W : WX} {pos : Pos}
def catM : F2 := fun x y h => match asL h x, asL h y with
  | some xs, some ys => if lineOk (xs.length + ys.length) = true then .ok (.ref h.length) (h ++ [.lst (xs ++ ys)]) else .stk
  | _, _ => .stk
theorem os_catM : OpS X T (rdAdd X.K) catM := by
  intro W G h H σ x y v w Q r d1 d2 o
  unfold catM at o
  cases ex : asL h x with
  | none => rw [ex] at o; exact o.elim
  | some xs =>
    cases ey : asL h y with
    | none => rw [ex, ey] at o; exact o.elim
    | some ys =>
      rw [ex, ey] at o
      dsimp only at o
      by_cases hl : lineOk (xs.length + ys.length) = true
      · rw [if_pos hl] at o
        obtain ⟨a, vs, rfl, h1, q1⟩ := asL_ok r d1 ex
        obtain ⟨b, ws, rfl, h2, q2⟩ := asL_ok r d2 ey
        exact .inr (.inr (.inr ⟨a, b, vs, ws, rfl, rfl, h1, h2, by rw [← q1.length, ← q2.length]; exact lineOk_le hl, fun p hp => newLstM r (q1.append q2) hp o⟩))
      · rw [if_neg hl] at o; exact o.elim
/-! ### two clauses -/
def lcs2 (g : FnG) (f1 : FnI) (g1 : FnG) (e : FnE) (vs1 : List Nat) (δ : De) : List D → Hh → R (List D)
  | [], h => .ok [] h
  | d :: ds, h => match g d δ with
    | none => .stk
    | some δ1 => match f1 δ1 h with
      | .ok items h1 => match lcs g1 tYes3 e (wipeD δ1 vs1) items h1 with
        | .ok ys h2 => (lcs2 g f1 g1 e vs1 δ ds h2).bind fun zs h3 => .ok (ys ++ zs) h3
        | _ => .stk
      | _ => .stk
def eLc2 (mu : Bool) (f : FnI) (g : FnG) (f1 : FnI) (g1 : FnG) (e : FnE) (vs vs1 : List Nat) : FnE := fun δ h => (f δ h).bind fun items h1 => (lcs2 g f1 g1 e vs1 (wipeD δ vs) items h1).bind (kLst mu)
theorem lcs_exc (g : FnG) (t : FnT) (e : FnE) (δ : De) : ∀ (ds : List D) (h : Hh) c es h', lcs g t e δ ds h ≠ .exc c es h' := by
  intro ds
  induction ds with
  | nil => intro h c es h' z; cases z
  | cons a as ih =>
    intro h c es h' z
    unfold lcs at z
    split at z
    · cases z
    · split at z
      · split at z
        · split at z
          · rename_i yy hh _
            cases zz : lcs g t e δ as hh with
            | ok a b => rw [zz] at z; cases z
            | exc a b cc => exact ih _ _ _ _ zz
            | stk => rw [zz] at z; cases z
          · cases z
        · exact ih _ _ _ _ z
      · cases z
theorem lcs2_exc (g : FnG) (f1 : FnI) (g1 : FnG) (e : FnE) (vs1 : List Nat) (δ : De) : ∀ (ds : List D) (h : Hh) c es h', lcs2 g f1 g1 e vs1 δ ds h ≠ .exc c es h' := by
  intro ds
  induction ds with
  | nil => intro h c es h' z; cases z
  | cons a as ih =>
    intro h c es h' z
    unfold lcs2 at z
    split at z
    · cases z
    · split at z
      · split at z
        · rename_i yy hh _
          cases zz : lcs2 g f1 g1 e vs1 δ as hh with
          | ok a b => rw [zz] at z; cases z
          | exc a b cc => exact ih _ _ _ _ zz
          | stk => rw [zz] at z; cases z
        · cases z
      · cases z
/-- what is left to be told, by the inner items left and the outer ones -/
def rest2 (mu : Bool) (g : FnG) (f1 : FnI) (g1 : FnG) (e : FnE) (vs1 : List Nat) (δ δ1 : De) (ins outs : List D) (acc : List D) (h : Hh) : R D :=
  (lcs g1 tYes3 e (wipeD δ1 vs1) ins h).bind fun ys h2 => (lcs2 g f1 g1 e vs1 δ outs h2).bind fun zs h3 => kLst mu (acc ++ (ys ++ zs)) h3
theorem kLst_size {mu : Bool} {K : PySem.W.Frag} {G : Gst} {σ : L2.St} {ds : List D} {h : Hh} {Q : VK} (o : okR K T W G σ (RD K T) (kLst mu ds h) Q) : lineOk ds.length = true := by
  unfold kLst at o
  by_cases hl : lineOk ds.length = true
  · exact hl
  · rw [if_neg hl] at o; exact o.elim
theorem tE_lc2 {mu : Bool} {f f1 : FnI} {is is1 : List Nat} {g g1 : FnG} {e : FnE} {own : List (Str × Nat)} {vs1 : List Nat} (hin : ∀ i ∈ is, i ∈ own.map (·.2)) (hin1 : ∀ i ∈ is1, i ∈ vs1) {σ : L2.St} {H : Hp} {Q : VK} (hh : tE X.K T W (eLc2 mu f g f1 g1 e (own.map (·.2)) vs1) σ H Q) :
    tLc2 (tI X.K T W f) (tG X.K T is g) (tT X.K T W0 tYes3) (tI X.K T W0 f1) (tG X.K T is1 g1) (tT X.K T W0 tYes3) (tE X.K T W0 e) (own.map (·.2)) vs1 σ H Q := by
  revert hh
  rintro ⟨G, h0, δ, r, s, o⟩
  refine ⟨G, h0, δ, r, s, (okR.bind (rel := fun G ds J => Walk3 X.K T J G ds) o).mono ?_⟩
  rintro J H1 ⟨G1, items, h1, e1, r1, w, o1⟩
  intro Dn hD
  have s1 := (s.mono e1).wipe (own.map (·.2))
  have o1' : okR X.K T W G1 σ (RD X.K T) ((lcs2 g f1 g1 e vs1 (wipeD δ (own.map (·.2))) (items.drop 0) h1).bind fun ys h3 => kLst mu ([] ++ ys) h3) Q := o1
  refine ⟨fun i m H' => i ≤ items.length ∧ m = items.length - i ∧ ∃ G2 h2 acc, LcAt X.K T G1 Dn G2 acc h2 H' ∧ okR X.K T W G1 σ (RD X.K T) ((lcs2 g f1 g1 e vs1 (wipeD δ (own.map (·.2))) (items.drop i) h2).bind fun ys h3 => kLst mu (acc ++ ys) h3) Q,
    ⟨_, Nat.zero_le _, rfl, G1.guard Dn (.lst []), h1, [], ⟨⟨[], by simp [Gst.guard]⟩, fun _ _ q => q, ⟨[], rfl, .nil⟩, r1.guard hD⟩, o1'⟩, ?_⟩
  rintro i m H' ⟨hi', rfl, G2, h2, acc, l, o2⟩
  have x02 : Ext0 G1 G2 := ⟨l.ι, l.fz⟩
  by_cases hlt : i < items.length
  · refine .inr ?_
    have ed : items[i]? = some items[i] := by simp [hlt]
    obtain ⟨go, yl⟩ := (w i G2 h2 H' x02 l.rel).1 _ ed
    refine ⟨go, fun H3 => ∃ m', m' < items.length - i ∧ i + 1 ≤ items.length ∧ m' = items.length - (i + 1) ∧ ∃ G2 h2 acc, LcAt X.K T G1 Dn G2 acc h2 H3 ∧ okR X.K T W G1 σ (RD X.K T) ((lcs2 g f1 g1 e vs1 (wipeD δ (own.map (·.2))) (items.drop (i + 1)) h2).bind fun ys h3 => kLst mu (acc ++ ys) h3) Q,
      fun H3 ⟨m', a, b, c, d⟩ => ⟨m', a, b, c, d⟩, fun x H3 y => ?_⟩
    obtain ⟨G3, e3, r3, d3⟩ := yl x H3 y
    have l3 := l.step e3 r3
    have s3 : RSl X.K T G3 (wipeD δ (own.map (·.2))) (L2.wipe σ (own.map (·.2))) := ⟨s1.len, fun j d q => let ⟨v, a, b⟩ := s1.at_ j d q; ⟨v, a, b.mono0 ⟨l3.ι, l3.fz⟩⟩⟩
    rw [List.drop_eq_getElem_cons hlt] at o2
    unfold lcs2 at o2
    cases eg : g items[i] (wipeD δ (own.map (·.2))) with
    | none => rw [eg] at o2; exact o2.elim
    | some δ3 =>
      rw [eg] at o2
      dsimp only at o2
      refine ⟨G3, h2, _, items[i], δ3, r3, s3, d3, eg, fun σ4 s4 so => ⟨wipe_same so hin, G3, h2, δ3, r3, s4, ?_⟩⟩
      intro G4 H4 b' x4 r4 eb
      have eb' : true = b' := eb
      subst eb'
      have l4 := l3.step x4 r4
      have s5 := s4.mono x4
      rw [if_pos rfl]
      refine ⟨G4, h2, δ3, r4, s5, ?_⟩
      cases ef : f1 δ3 h2 with
      | stk => rw [ef] at o2; exact o2.elim
      | exc c ds h' => rw [ef] at o2; exact o2.elim
      | ok ins h3 =>
        rw [ef] at o2
        dsimp only at o2
        intro G5 H5 J1 x5 r5 w5
        have l5 := l4.step x5 r5
        have first : okR X.K T W G1 σ (RD X.K T) (rest2 mu g f1 g1 e vs1 (wipeD δ (own.map (·.2))) δ3 (ins.drop 0) (items.drop (i + 1)) acc h3) Q := by
          unfold rest2
          rw [List.drop_zero]
          cases el : lcs g1 tYes3 e (wipeD δ3 vs1) ins h3 with
          | stk => rw [el] at o2; exact o2.elim
          | exc c ds h' => exact absurd el (lcs_exc _ _ _ _ _ _ _ _ _)
          | ok ys h4 =>
            rw [el] at o2
            show okR X.K T W G1 σ (RD X.K T) ((lcs2 g f1 g1 e vs1 (wipeD δ (own.map (·.2))) (items.drop (i + 1)) h4).bind fun zs h3 => kLst mu (acc ++ (ys ++ zs)) h3) Q
            cases e2 : lcs2 g f1 g1 e vs1 (wipeD δ (own.map (·.2))) (items.drop (i + 1)) h4 with
            | stk => dsimp only at o2; rw [e2] at o2; exact o2.elim
            | exc c ds h' => exact absurd e2 (lcs2_exc _ _ _ _ _ _ _ _ _ _ _)
            | ok zs h5 => dsimp only at o2; rw [e2] at o2; exact o2
        refine ⟨fun j k H6 => j ≤ ins.length ∧ k = ins.length - j ∧ ∃ G6 h6 acc6, LcAt X.K T G1 Dn G6 acc6 h6 H6 ∧ Ext0 G5 G6 ∧ okR X.K T W G1 σ (RD X.K T) (rest2 mu g f1 g1 e vs1 (wipeD δ (own.map (·.2))) δ3 (ins.drop j) (items.drop (i + 1)) acc6 h6) Q,
          ⟨_, Nat.zero_le _, rfl, G5, h3, acc, l5, ⟨⟨[], (List.append_nil _).symm⟩, fun _ _ z => z⟩, first⟩, ?_⟩
        rintro j k H6 ⟨hj, rfl, G6, h6, acc6, l6, x06, o6⟩
        by_cases hjt : j < ins.length
        · refine .inr ?_
          have ed1 : ins[j]? = some ins[j] := by simp [hjt]
          obtain ⟨go1, yl1⟩ := (w5 j G6 h6 H6 x06 l6.rel).1 _ ed1
          refine ⟨go1, fun H7 => ∃ k', k' < ins.length - j ∧ j + 1 ≤ ins.length ∧ k' = ins.length - (j + 1) ∧ ∃ G6 h6 acc6, LcAt X.K T G1 Dn G6 acc6 h6 H7 ∧ Ext0 G5 G6 ∧ okR X.K T W G1 σ (RD X.K T) (rest2 mu g f1 g1 e vs1 (wipeD δ (own.map (·.2))) δ3 (ins.drop (j + 1)) (items.drop (i + 1)) acc6 h6) Q,
            fun H7 ⟨k', a, b, c, d⟩ => ⟨k', a, b, c, d⟩, fun x7 H7 y7 => ?_⟩
          obtain ⟨G7, e7, r7, d7⟩ := yl1 x7 H7 y7
          have l7 := l6.step e7 r7
          have x47 : Ext0 G4 G7 := by
            obtain ⟨a1, b1⟩ := x5.ι
            obtain ⟨a2, b2⟩ := x06.ι
            obtain ⟨a3, b3⟩ := e7.ι
            exact ⟨⟨a1 ++ (a2 ++ a3), by rw [b3, b2, b1]; simp⟩, fun a o z => e7.fz a o (x06.fz a o (x5.fz a o z))⟩
          have x57 : Ext0 G5 G7 := by
            obtain ⟨a2, b2⟩ := x06.ι
            obtain ⟨a3, b3⟩ := e7.ι
            exact ⟨⟨a2 ++ a3, by rw [b3, b2]; simp⟩, fun a o z => e7.fz a o (x06.fz a o z)⟩
          have sw := s5.wipe vs1
          have s7 : RSl X.K T G7 (wipeD δ3 vs1) (L2.wipe σ4 vs1) := ⟨sw.len, fun j d q => let ⟨v, a, b⟩ := sw.at_ j d q; ⟨v, a, b.mono0 x47⟩⟩
          unfold rest2 at o6
          rw [List.drop_eq_getElem_cons hjt] at o6
          unfold lcs at o6
          cases eg1 : g1 ins[j] (wipeD δ3 vs1) with
          | none => rw [eg1] at o6; exact o6.elim
          | some δ5 =>
            rw [eg1] at o6
            refine ⟨G7, h6, _, ins[j], δ5, r7, s7, d7, eg1, fun σ5 s8 so5 => ⟨wipe_same so5 hin1, G7, h6, δ5, r7, s8, ?_⟩⟩
            intro G8 H8 b8 x8 r8 eb8
            have eb9 : true = b8 := eb8
            subst eb9
            have l8 := l7.step x8 r8
            rw [if_pos rfl]
            refine ⟨G8, h6, δ5, r8, s8.mono x8, ?_⟩
            have o7 : okR X.K T W G1 σ (RD X.K T) (((match e δ5 h6 with
              | .ok y h2 => (lcs g1 tYes3 e (wipeD δ3 vs1) (ins.drop (j + 1)) h2).bind fun ys h3 => .ok (y :: ys) h3
              | _ => .stk) : R (List D)).bind fun ys h2 => (lcs2 g f1 g1 e vs1 (wipeD δ (own.map (·.2))) (items.drop (i + 1)) h2).bind fun zs h3 => kLst mu (acc6 ++ (ys ++ zs)) h3) Q := o6
            cases ee : e δ5 h6 with
            | stk => rw [ee] at o7; exact o7.elim
            | exc c ds h' => rw [ee] at o7; exact o7.elim
            | ok y h7 =>
              rw [ee] at o7
              dsimp only at o7
              cases el : lcs g1 tYes3 e (wipeD δ3 vs1) (ins.drop (j + 1)) h7 with
              | stk => rw [el] at o7; exact o7.elim
              | exc c ds h' => exact absurd el (lcs_exc _ _ _ _ _ _ _ _ _)
              | ok ys h8 =>
                rw [el] at o7
                have o8 : okR X.K T W G1 σ (RD X.K T) ((lcs2 g f1 g1 e vs1 (wipeD δ (own.map (·.2))) (items.drop (i + 1)) h8).bind fun zs h3 => kLst mu (acc6 ++ (y :: ys ++ zs)) h3) Q := o7
                cases e2 : lcs2 g f1 g1 e vs1 (wipeD δ (own.map (·.2))) (items.drop (i + 1)) h8 with
                | stk => rw [e2] at o8; exact o8.elim
                | exc c ds h' => exact absurd e2 (lcs2_exc _ _ _ _ _ _ _ _ _ _ _)
                | ok zs h9 =>
                  rw [e2] at o8
                  have o9 : okR X.K T W G1 σ (RD X.K T) (kLst mu (acc6 ++ (y :: ys ++ zs)) h9) Q := o8
                  have sz0 := of_decide_eq_true (show decide ((acc6 ++ (y :: ys ++ zs)).length ≤ 16777216) = true from kLst_size o9)
                  intro G9 H9 v x9 r9 d9
                  have l9 := l8.step x9 r9
                  obtain ⟨avs, ep, dacc⟩ := l9.pr
                  have hpr : G9.pr Dn = some (.lst avs) := by rw [ep, upd_same]
                  obtain ⟨q1, q2, q3⟩ := r9.pr Dn _ hpr
                  have x59 : Ext0 G5 G9 := by
                    obtain ⟨a2, b2⟩ := x57.ι
                    obtain ⟨a3, b3⟩ := x8.ι
                    obtain ⟨a4, b4⟩ := x9.ι
                    exact ⟨⟨a2 ++ (a3 ++ a4), by rw [b4, b3, b2]; simp⟩, fun a o z => x9.fz a o (x8.fz a o (x57.fz a o z))⟩
                  refine ⟨avs, q1, ?_, _, by omega, hjt, rfl, { G9 with pr := upd G9.pr Dn (.lst (avs ++ [v])) }, h7, acc6 ++ [y], ⟨l9.ι, l9.fz, ⟨avs ++ [v], ?_, ?_⟩, r9.reguard hpr⟩, ⟨x59.ι, x59.fz⟩, ?_⟩
                  · have : avs.length < 16777216 := by
                      rw [← dacc.length]
                      rw [List.length_append, List.length_append, List.length_cons] at sz0
                      omega
                    rw [sizeLine_eq]; exact this
                  · show upd G9.pr Dn (.lst (avs ++ [v])) = upd G1.pr Dn (.lst (avs ++ [v]))
                    rw [ep, upd_upd]
                  · exact RDs.mono0 (G := G9) (G' := { G9 with pr := upd G9.pr Dn (.lst (avs ++ [v])) }) ⟨⟨[], (List.append_nil _).symm⟩, fun _ _ z => z⟩ (dacc.append (.cons d9 .nil))
                  · unfold rest2
                    rw [el]
                    show okR X.K T W G1 σ (RD X.K T) ((lcs2 g f1 g1 e vs1 (wipeD δ (own.map (·.2))) (items.drop (i + 1)) h8).bind fun zs h3 => kLst mu (acc6 ++ [y] ++ (ys ++ zs)) h3) Q
                    rw [e2]
                    show okR X.K T W G1 σ (RD X.K T) (kLst mu (acc6 ++ [y] ++ (ys ++ zs)) h9) Q
                    rw [List.append_assoc]
                    exact o9
        · refine .inl ⟨(w5 j G6 h6 H6 x06 l6.rel).2 (by omega), _, by omega, hlt, rfl, G6, h6, acc6, l6, ?_⟩
          rw [List.drop_eq_nil_of_le (by omega)] at o6
          exact o6
  · refine .inl ⟨(w i G2 h2 H' x02 l.rel).2 (by omega), ?_⟩
    rw [List.drop_eq_nil_of_le (by omega)] at o2
    have o3 : okR X.K T W G1 σ (RD X.K T) (kLst mu (acc ++ []) h2) Q := o2
    rw [List.append_nil] at o3
    unfold kLst at o3
    by_cases hl : lineOk acc.length = true
    · rw [if_pos hl] at o3
      obtain ⟨avs, ep, dacc⟩ := l.pr
      have hpr : G2.pr Dn = some (.lst avs) := by rw [ep, upd_same]
      have pn : G1.pr Dn = none := by
        cases z : G1.pr Dn with
        | none => rfl
        | some u => have := (r1.pr Dn u z).1; rw [hD] at this; cases this
      obtain ⟨q1, q2, q3⟩ := l.rel.pr Dn _ hpr
      have fzm : ∀ a u, G2.fz a = some u → upd G2.fz Dn (.lst avs) a = some u := fun a u z => by
        have na : a ≠ Dn := fun y => by rw [y, q2] at z; cases z
        rw [upd_ne na]; exact z
      have hpr0 : ∀ a u, G1.pr a = some u → a ≠ Dn ∧ G2.pr a = some u := fun a u z => by
        have na : a ≠ Dn := fun y => by rw [y, pn] at z; cases z
        exact ⟨na, by rw [ep, upd_ne na]; exact z⟩
      cases mu with
      | false =>
        rw [if_neg Bool.false_ne_true] at o3
        exact o3 { G2 with pr := G1.pr, fz := upd G2.fz Dn (.lst avs) } H' (.ref Dn) ⟨l.ι, fun a u z => fzm a u (l.fz a u z), rfl⟩ (l.rel.unguard hpr hpr0) (.lst upd_same (RDs.mono0 (G := G2) (G' := { G2 with pr := G1.pr, fz := upd G2.fz Dn (.lst avs) }) ⟨⟨[], (List.append_nil _).symm⟩, fzm⟩ dacc))
      | true =>
        rw [if_pos rfl] at o3
        obtain ⟨x5, r5⟩ := l.rel.unguardO (u := .lst acc) hpr hpr0 fun G' x hi ho _ => ⟨Dn, avs, hi, ho, q1, dacc.mono0 x⟩
        obtain ⟨tt, et⟩ := l.ι
        refine o3 (G2.give Dn G1.pr) H' (.ref Dn) ⟨⟨tt ++ [Dn], ?_⟩, fun a u z => l.fz a u z, rfl⟩ r5 (.ref ?_)
        · show G2.ι ++ [Dn] = G1.ι ++ (tt ++ [Dn])
          rw [et, List.append_assoc]
        · show (G2.ι ++ [Dn])[h2.length]? = some Dn
          rw [← l.rel.len]; simp
    · rw [if_neg hl] at o3; exact o3.elim
theorem fe_lc2 {mu : Bool} {elt tg iter tg1 iter1 : Expr} {scope : Scope} {own : List (Str × Nat)} {vs1 : List Nat} {f f1 : FnI} {is is1 : List Nat} {g g1 : FnG} {e : FnE} (hc : X.calm = true) (hN : X.N.Nodup) (hi : FI X T W tg iter f) (ok : BlkOk X.N X.env.scope scope own) (hv : ∀ i ∈ vs1, i ∈ own.map (·.2))
    (hg : ∀ (s : Shared) (H : Hp) (C : Addr) (cl : List (Str × Addr)) (fp : List Addr), FG (X.blk s H scope (compEnvC scope cl C X.env) fp) T tg is g)
    (hi1 : ∀ (s : Shared) (H : Hp) (C : Addr) (cl : List (Str × Addr)) (fp : List Addr), FI (X.blk s H scope (compEnvC scope cl C X.env) fp) T W0 tg1 iter1 f1)
    (hg1 : ∀ (s : Shared) (H : Hp) (C : Addr) (cl : List (Str × Addr)) (fp : List Addr), FG (X.blk s H scope (compEnvC scope cl C X.env) fp) T tg1 is1 g1)
    (he : ∀ (s : Shared) (H : Hp) (C : Addr) (cl : List (Str × Addr)) (fp : List Addr), FE (X.blk s H scope (compEnvC scope cl C X.env) fp) T W0 elt e) (hin : ∀ i ∈ is, i ∈ own.map (·.2)) (hin1 : ∀ i ∈ is1, i ∈ vs1) (hs : ∀ x, foldedSetIterable iter X.env x = pure x := by intro _; rfl) (hs1 : ∀ env x, foldedSetIterable iter1 env x = pure x := by intro _ _; rfl) :
    FE X T W (.ListComp elt [⟨tg, iter, [], 0⟩, ⟨tg1, iter1, [], 0⟩] scope pos) (eLc2 mu f g f1 g1 e (own.map (·.2)) vs1) :=
  PE.imp (pe_lc2 (wi := tI X.K T W f) (g := tG X.K T is g) (tt := tT X.K T W0 tYes3) (wi1 := tI X.K T W0 f1) (g1 := tG X.K T is1 g1) (tt1 := tT X.K T W0 tYes3) (te := tE X.K T W0 e) hc hN hi ok hv hg (fun _ _ _ _ _ => fts_nil) hi1 hg1 (fun _ _ _ _ _ => fts_nil) he hs hs1) fun _ _ _ hh => tE_lc2 hin hin1 hh
end
end L3
set_option autoImplicit false
set_option maxHeartbeats 8000000
namespace Lw
open PySem PySem.Spec L2 L3
open He (ga ma)
abbrev fuel : Nat := 4611686018427387904
def c_MAX_NUMBER : D := .int 1000
def c_MAX_WIDTH : D := .int 16
def c_MAX_HEIGHT : D := .int 12
def c_TILE : D := .int 4
def ix_corners : Nat → Option Nat := fun c => match c with
  | 0 => some 0
  | _ => none
def ix_own_size : Nat → Option Nat := fun c => match c with
  | 0 => some 1
  | _ => none
def ix_own_edges : Nat → Option Nat := fun c => match c with
  | 0 => some 2
  | _ => none
def ix_width : Nat → Option Nat := fun c => match c with
  | 1 => some 0
  | _ => none
def ix_height : Nat → Option Nat := fun c => match c with
  | 1 => some 1
  | _ => none
def ix_own_places : Nat → Option Nat := fun c => match c with
  | 1 => some 2
  | _ => none
def ix_own_tiles : Nat → Option Nat := fun c => match c with
  | 1 => some 3
  | _ => none
/-- _law_begun -/
def u__law_begun_1 : FnS := (sRet (eDic true [((eC (.str [99, 101, 108, 108, 115])), (eB listMB (aCons (eVar 0) aNil))), ((eC (.str [108, 101, 102, 116])), (eLcW true (wSeq (eVar 0)) (gSet 1) (eTest (eBin geD (eVar 1) (eBin powD (eC (.int 10)) (eC (.int 18))))) (eVar 1) [1])), ((eC (.str [97, 116])), (eC (.int 0)))]))
def u__law_begun : FnS := u__law_begun_1
def f__law_begun : Sem3 := runD 2 u__law_begun
/-- _law_next -/
def u__law_next_1_1 : FnS := (sIxS (eVar 0) (eC (.str [108, 101, 102, 116])) (eSliceM (eBin ixA (eVar 0) (eC (.str [108, 101, 102, 116]))) (oSome (eC (.int 1))) oNone))
def u__law_next_1 : FnS := (whileN (tAnd3 (eTest (eBin neD (eBin ixA (eVar 0) (eC (.str [108, 101, 102, 116]))) (eLst aNil))) (eTest (eBin eqD (eBin ixA (eBin ixA (eVar 0) (eC (.str [108, 101, 102, 116]))) (eC (.int 0))) (eC (.int 0))))) u__law_next_1_1 fuel)
def u__law_next_2_a_1 : FnS := (sSet 2 (eB intB (aCons (eBin ixA (eBin ixA (eVar 0) (eC (.str [108, 101, 102, 116]))) (eC (.int 0))) aNil)))
def u__law_next_2_a_2 : FnS := (sIxS (eBin ixA (eVar 0) (eC (.str [108, 101, 102, 116]))) (eC (.int 0)) (eBin divD (eVar 2) (eVar 1)))
def u__law_next_2_a_3 : FnS := (sRet (eBin modD (eVar 2) (eVar 1)))
def u__law_next_2 : FnS := (sIf (eTest (eBin neD (eBin ixA (eVar 0) (eC (.str [108, 101, 102, 116]))) (eLst aNil))) (sSeq u__law_next_2_a_1 (sSeq u__law_next_2_a_2 u__law_next_2_a_3)) sNil)
def u__law_next_3 : FnS := (sSet 3 (eBin addD (eBin ixA (eVar 0) (eC (.str [97, 116]))) (eC (.int 1))))
def u__law_next_4 : FnS := (sIxS (eVar 0) (eC (.str [97, 116])) (eVar 3))
def u__law_next_5 : FnS := (sSet 4 (eIf (eTest (eBin neD (eBin ixA (eVar 0) (eC (.str [99, 101, 108, 108, 115]))) (eLst aNil))) (eBin ixA (eBin ixA (eVar 0) (eC (.str [99, 101, 108, 108, 115]))) (eBin modD (eB intB (aCons (eVar 3) aNil)) (eB lenB (aCons (eBin ixA (eVar 0) (eC (.str [99, 101, 108, 108, 115]))) aNil)))) (eC (.int 5))))
def u__law_next_6 : FnS := (sSet 5 (eBin mulD (eB intB (aCons (eBin addD (eBin addD (eBin modD (eB intB (aCons (eVar 4) aNil)) (eC (.int 2147483629))) (eBin mulD (eC (.int 7919)) (eVar 3))) (eBin mulD (eBin mulD (eC (.int 17)) (eVar 3)) (eVar 3))) aNil)) (eC (.int 48271))))
def u__law_next_7 : FnS := (sSet 5 (eBin mulD (eB intB (aCons (eBin addD (eBin modD (eB intB (aCons (eVar 5) aNil)) (eC (.int 2147483647))) (eBin mulD (eC (.int 104729)) (eVar 3))) aNil)) (eC (.int 69621))))
def u__law_next_8 : FnS := (sRet (eBin modD (eB intB (aCons (eBin divD (eBin modD (eB intB (aCons (eVar 5) aNil)) (eC (.int 2147483587))) (eC (.int 13))) aNil)) (eVar 1)))
def u__law_next : FnS := (sSeq u__law_next_1 (sSeq u__law_next_2 (sSeq u__law_next_3 (sSeq u__law_next_4 (sSeq u__law_next_5 (sSeq u__law_next_6 (sSeq u__law_next_7 u__law_next_8)))))))
def f__law_next : Sem3 := runD 6 u__law_next
/-- _law_corner -/
def u__law_corner_1 : FnS := (sPar [1, 2] (aCons (eBin ixA (eLst (aCons (eC (.int 1)) (aCons (eC (.int 2)) (aCons (eC (.int 5)) (aCons (eUn negD (eC (.int 1))) (aCons (eUn negD (eC (.int 3))) (aCons (eC (.int 1)) aNil))))))) (eCall 2 f__law_next (aCons (eVar 0) (aCons (eC (.int 6)) aNil)) [])) (aCons (eBin ixA (eLst (aCons (eC (.int 8)) (aCons (eC (.int 20)) (aCons (eC (.int 120)) aNil)))) (eCall 2 f__law_next (aCons (eVar 0) (aCons (eC (.int 3)) aNil)) [])) aNil)))
def u__law_corner_2 : FnS := (sPar [3, 4] (aCons (eBin subD (eCall 2 f__law_next (aCons (eVar 0) (aCons (eBin mulD (eC (.int 2)) (eVar 2)) aNil)) []) (eBin divD (eVar 2) (eC (.int 2)))) (aCons (eBin subD (eCall 2 f__law_next (aCons (eVar 0) (aCons (eBin mulD (eC (.int 2)) (eVar 2)) aNil)) []) (eBin divD (eVar 2) (eC (.int 2)))) aNil)))
def u__law_corner_3 : FnS := (sRet (eTup (aCons (eBin mulD (eVar 1) (eVar 3)) (aCons (eBin mulD (eVar 1) (eVar 4)) (aCons (eCall 2 f__law_next (aCons (eVar 0) (aCons (eC (.int 20)) aNil)) []) (aCons (eBin mulD (eC (.int 2)) (eVar 1)) (aCons (eCall 2 f__law_next (aCons (eVar 0) (aCons (eC (.int 20)) aNil)) []) (aCons (eBin addD (eC (.int 1)) (eCall 2 f__law_next (aCons (eVar 0) (aCons (eC (.int 4)) aNil)) [])) aNil))))))))
def u__law_corner : FnS := (sSeq u__law_corner_1 (sSeq u__law_corner_2 u__law_corner_3))
def f__law_corner : Sem3 := runD 5 u__law_corner
/-- is_whole_in -/
def u_is_whole_in_1 : FnS := (sRet (eAnd (eIsi .int (eVar 0)) (eAnd (eNot (eIsi .bool (eVar 0))) (eChain leD leD (eVar 1) (eVar 0) (eVar 2)))))
def u_is_whole_in : FnS := u_is_whole_in_1
def f_is_whole_in : Sem3 := runD 3 u_is_whole_in
/-- are_whole_in -/
def u_are_whole_in_1_a_1 : FnS := (sRet (eC (.bl false)))
def u_are_whole_in_1 : FnS := (sIf (tOr3 (tNot3 (eTest (eIsi .tuple (eVar 0)))) (eTest (eBin neD (eB lenB (aCons (eVar 0) aNil)) (eVar 1)))) u_are_whole_in_1_a_1 sNil)
def u_are_whole_in_2 : FnS := (sRet (eB allB (aCons (eLcW false (wSeq (eVar 0)) (gSet 4) tYes3 (eCall 3 f_is_whole_in (aCons (eVar 4) (aCons (eVar 2) (aCons (eVar 3) aNil))) []) [4]) aNil)))
def u_are_whole_in : FnS := (sSeq u_are_whole_in_1 u_are_whole_in_2)
def f_are_whole_in : Sem3 := runD 5 u_are_whole_in
/-- is_corner -/
def u_is_corner_1 : FnS := (sRet (eAnd (eCall 4 f_are_whole_in (aCons (eVar 0) (aCons (eC (.int 6)) (aCons (eUn negD (eC c_MAX_NUMBER)) (aCons (eC c_MAX_NUMBER) aNil)))) []) (eBin geD (eBin ixA (eVar 0) (eC (.int 5))) (eC (.int 1)))))
def u_is_corner : FnS := u_is_corner_1
def f_is_corner : Sem3 := runD 1 u_is_corner
/-- eye_row -/
def u_eye_row_1 : FnS := (sRet (eTup (aCons (eBin ixA (eVar 0) (eC (.int 0))) (aCons (eBin ixA (eVar 0) (eC (.int 1))) (aCons (eBin ixA (eVar 0) (eC (.int 3))) aNil)))))
def u_eye_row : FnS := u_eye_row_1
def f_eye_row : Sem3 := runD 1 u_eye_row
/-- crossed_rows -/
def u_crossed_rows_1 : FnS := (sRet (eTup (aCons (eBin subD (eBin mulD (eBin ixA (eVar 0) (eC (.int 1))) (eBin ixA (eVar 1) (eC (.int 2)))) (eBin mulD (eBin ixA (eVar 0) (eC (.int 2))) (eBin ixA (eVar 1) (eC (.int 1))))) (aCons (eBin subD (eBin mulD (eBin ixA (eVar 0) (eC (.int 2))) (eBin ixA (eVar 1) (eC (.int 0)))) (eBin mulD (eBin ixA (eVar 0) (eC (.int 0))) (eBin ixA (eVar 1) (eC (.int 2))))) (aCons (eBin subD (eBin mulD (eBin ixA (eVar 0) (eC (.int 0))) (eBin ixA (eVar 1) (eC (.int 1)))) (eBin mulD (eBin ixA (eVar 0) (eC (.int 1))) (eBin ixA (eVar 1) (eC (.int 0))))) aNil)))))
def u_crossed_rows : FnS := u_crossed_rows_1
def f_crossed_rows : Sem3 := runD 2 u_crossed_rows
/-- linear_edge -/
def u_linear_edge_1 : FnS := (sAsg (gTupD 3 (gsCons (gSet 3) (gsCons (gSet 4) (gsCons (gSet 5) gsNil)))) (eCall 2 f_crossed_rows (aCons (eVar 0) (aCons (eVar 1) aNil)) []))
def u_linear_edge_2 : FnS := (sRet (eTup (aCons (eBin mulD (eBin mulD (eVar 2) (eC (.int 2))) (eVar 3)) (aCons (eBin mulD (eBin mulD (eVar 2) (eC (.int 2))) (eVar 4)) (aCons (eBin mulD (eVar 2) (eBin addD (eBin addD (eVar 3) (eVar 4)) (eBin mulD (eC (.int 2)) (eVar 5)))) aNil)))))
def u_linear_edge : FnS := (sSeq u_linear_edge_1 u_linear_edge_2)
def f_linear_edge : Sem3 := runD 6 u_linear_edge
/-- Triangle.__init__: never Raise -/
def u_Triangle___init___1_a_1 : FnS := sNever
def u_Triangle___init___1 : FnS := (sIf (tNot3 (eTest (eB allB (aCons (eLcW false (wSeq (eTup (aCons (eVar 1) (aCons (eVar 2) (aCons (eVar 3) aNil))))) (gSet 7) tYes3 (eCall 1 f_is_corner (aCons (eVar 7) aNil) []) [7]) aNil)))) u_Triangle___init___1_a_1 sNil)
def u_Triangle___init___2 : FnS := (sFld ix_corners (eVar 0) (eTup (aCons (eVar 1) (aCons (eVar 2) (aCons (eVar 3) aNil)))))
def u_Triangle___init___3 : FnS := (sSet 4 (eLcW false (wSeq (eFld ix_corners (eVar 0))) (gSet 7) tYes3 (eCall 1 f_eye_row (aCons (eVar 7) aNil) []) [7]))
def u_Triangle___init___4 : FnS := (sSet 5 (eCall 2 f_crossed_rows (aCons (eBin ixA (eVar 4) (eC (.int 1))) (aCons (eBin ixA (eVar 4) (eC (.int 2))) aNil)) []))
def u_Triangle___init___5 : FnS := (sFld ix_own_size (eVar 0) (eBin addD (eBin addD (eBin mulD (eBin ixA (eBin ixA (eVar 4) (eC (.int 0))) (eC (.int 0))) (eBin ixA (eVar 5) (eC (.int 0)))) (eBin mulD (eBin ixA (eBin ixA (eVar 4) (eC (.int 0))) (eC (.int 1))) (eBin ixA (eVar 5) (eC (.int 1))))) (eBin mulD (eBin ixA (eBin ixA (eVar 4) (eC (.int 0))) (eC (.int 2))) (eBin ixA (eVar 5) (eC (.int 2))))))
def u_Triangle___init___6 : FnS := (sSet 6 (eIf (eTest (eBin ltD (eFld ix_own_size (eVar 0)) (eC (.int 0)))) (eUn negD (eC (.int 1))) (eC (.int 1))))
def u_Triangle___init___7 : FnS := (sFld ix_own_edges (eVar 0) (eTup (aCons (eCall 3 f_linear_edge (aCons (eBin ixA (eVar 4) (eC (.int 1))) (aCons (eBin ixA (eVar 4) (eC (.int 2))) (aCons (eVar 6) aNil))) []) (aCons (eCall 3 f_linear_edge (aCons (eBin ixA (eVar 4) (eC (.int 2))) (aCons (eBin ixA (eVar 4) (eC (.int 0))) (aCons (eVar 6) aNil))) []) (aCons (eCall 3 f_linear_edge (aCons (eBin ixA (eVar 4) (eC (.int 0))) (aCons (eBin ixA (eVar 4) (eC (.int 1))) (aCons (eVar 6) aNil))) []) aNil)))))
def u_Triangle___init__ : FnS := (sSeq u_Triangle___init___1 (sSeq u_Triangle___init___2 (sSeq u_Triangle___init___3 (sSeq u_Triangle___init___4 (sSeq u_Triangle___init___5 (sSeq u_Triangle___init___6 u_Triangle___init___7))))))
def f_Triangle___init__ : Sem3 := runD 8 u_Triangle___init__
/-- need_whole_place: never Raise -/
def u_need_whole_place_1_a_1 : FnS := sNever
def u_need_whole_place_1 : FnS := (sIf (tNot3 (eTest (eCall 4 f_are_whole_in (aCons (eVar 0) (aCons (eC (.int 2)) (aCons (eUn negD (eC c_MAX_NUMBER)) (aCons (eC c_MAX_NUMBER) aNil)))) []))) u_need_whole_place_1_a_1 sNil)
def u_need_whole_place : FnS := u_need_whole_place_1
def f_need_whole_place : Sem3 := runD 1 u_need_whole_place
/-- Triangle.values_at -/
def u_Triangle_values_at_1 : FnS := (sAsg (gTupD 2 (gsCons (gSet 2) (gsCons (gSet 3) gsNil))) (eVar 1))
def u_Triangle_values_at_2 : FnS := (sRet (eLcW false (wSeq (eFld ix_own_edges (eVar 0))) (gTupD 3 (gsCons (gSet 4) (gsCons (gSet 5) (gsCons (gSet 6) gsNil)))) tYes3 (eBin addD (eBin addD (eBin mulD (eVar 4) (eVar 2)) (eBin mulD (eVar 5) (eVar 3))) (eVar 6)) [4, 5, 6]))
def u_Triangle_values_at : FnS := (sSeq u_Triangle_values_at_1 u_Triangle_values_at_2)
def f_Triangle_values_at : Sem3 := runD 7 u_Triangle_values_at
/-- is_let_in -/
def u_is_let_in_1 : FnS := (sRet (eOr (eBin gtD (eVar 1) (eC (.int 0))) (eAnd (eBin eqD (eVar 1) (eC (.int 0))) (eOr (eBin gtD (eBin ixA (eVar 0) (eC (.int 0))) (eC (.int 0))) (eAnd (eBin eqD (eBin ixA (eVar 0) (eC (.int 0))) (eC (.int 0))) (eBin gtD (eBin ixA (eVar 0) (eC (.int 1))) (eC (.int 0))))))))
def u_is_let_in : FnS := u_is_let_in_1
def f_is_let_in : Sem3 := runD 2 u_is_let_in
/-- Triangle.is_over -/
def u_Triangle_is_over_1 : FnS := (sRet (eAnd (eBin neD (eFld ix_own_size (eVar 0)) (eC (.int 0))) (eB allB (aCons (eLcW false (wZip (aCons (eFld ix_own_edges (eVar 0)) (aCons (eVar 1) aNil))) (gTupD 2 (gsCons (gSet 2) (gsCons (gSet 3) gsNil))) tYes3 (eCall 2 f_is_let_in (aCons (eVar 2) (aCons (eVar 3) aNil)) []) [2, 3]) aNil))))
def u_Triangle_is_over : FnS := u_Triangle_is_over_1
def f_Triangle_is_over : Sem3 := runD 4 u_Triangle_is_over
/-- Triangle.covers -/
def u_Triangle_covers_1 : FnS := (sExpr (eCall 1 f_need_whole_place (aCons (eVar 1) aNil) []))
def u_Triangle_covers_2 : FnS := (sRet (eMeth 0 2 f_Triangle_is_over (eVar 0) (aCons (eMeth 0 2 f_Triangle_values_at (eVar 0) (aCons (eVar 1) aNil) []) aNil) []))
def u_Triangle_covers : FnS := (sSeq u_Triangle_covers_1 u_Triangle_covers_2)
def f_Triangle_covers : Sem3 := runD 2 u_Triangle_covers
/-- Triangle.lets_in: never Raise -/
def u_Triangle_lets_in_1_a_1 : FnS := sNever
def u_Triangle_lets_in_1 : FnS := (sIf (tNot3 (eTest (eCall 3 f_is_whole_in (aCons (eVar 1) (aCons (eC (.int 0)) (aCons (eC (.int 2)) aNil))) []))) u_Triangle_lets_in_1_a_1 sNil)
def u_Triangle_lets_in_2 : FnS := (sExpr (eCall 1 f_need_whole_place (aCons (eVar 2) aNil) []))
def u_Triangle_lets_in_3 : FnS := (sRet (eCall 2 f_is_let_in (aCons (eBin ixA (eFld ix_own_edges (eVar 0)) (eVar 1)) (aCons (eBin ixA (eMeth 0 2 f_Triangle_values_at (eVar 0) (aCons (eVar 2) aNil) []) (eVar 1)) aNil)) []))
def u_Triangle_lets_in : FnS := (sSeq u_Triangle_lets_in_1 (sSeq u_Triangle_lets_in_2 u_Triangle_lets_in_3))
def f_Triangle_lets_in : Sem3 := runD 3 u_Triangle_lets_in
/-- _law_turns -/
def u__law_turns_1 : FnS := (sRet (eB lenB (aCons (eLc false (iRg1 (eBin subD (eB lenB (aCons (eVar 0) aNil)) (eC (.int 1)))) (gSet 1) (eTest (eBin neD (eBin ixA (eVar 0) (eVar 1)) (eBin ixA (eVar 0) (eBin addD (eVar 1) (eC (.int 1)))))) (eVar 1) [1]) aNil)))
def u__law_turns : FnS := u__law_turns_1
def f__law_turns : Sem3 := runD 2 u__law_turns
/-- _law_lane_right -/
def u__law_lane_right_1 : FnS := (sSet 2 (eLcW false (wSeq (eVar 1)) (gSet 4) tYes3 (eMeth 0 2 f_Triangle_covers (eVar 0) (aCons (eVar 4) aNil) []) [4]))
def u__law_lane_right_2_1_a_1 : FnS := (sRet (eC (.bl false)))
def u__law_lane_right_2_1 : FnS := (sIf (eTest (eBin gtD (eCall 1 f__law_turns (aCons (eLcW false (wSeq (eVar 1)) (gSet 4) tYes3 (eMeth 0 3 f_Triangle_lets_in (eVar 0) (aCons (eVar 3) (aCons (eVar 4) aNil)) []) [4]) aNil) []) (eC (.int 1)))) u__law_lane_right_2_1_a_1 sNil)
def u__law_lane_right_2 : FnS := (sFor (iRg1 (eC (.int 3))) (gSet 3) u__law_lane_right_2_1)
def u__law_lane_right_3 : FnS := (sRet (eBin inD (eCall 1 f__law_turns (aCons (eBin addD (eBin addD (eLst (aCons (eC (.bl false)) aNil)) (eVar 2)) (eLst (aCons (eC (.bl false)) aNil))) aNil) []) (eTup (aCons (eC (.int 0)) (aCons (eC (.int 2)) aNil)))))
def u__law_lane_right : FnS := (sSeq u__law_lane_right_1 (sSeq u__law_lane_right_2 u__law_lane_right_3))
def f__law_lane_right : Sem3 := runD 5 u__law_lane_right
/-- number_across -/
def u_number_across_1 : FnS := (sRet (eBin divD (eBin subD (eBin addD (eVar 0) (eC c_TILE)) (eC (.int 1))) (eC c_TILE)))
def u_number_across : FnS := u_number_across_1
def f_number_across : Sem3 := runD 1 u_number_across
/-- number_at -/
def u_number_at_1 : FnS := (sRet (eBin addD (eBin mulD (eBin divD (eBin ixA (eVar 1) (eC (.int 1))) (eC c_TILE)) (eCall 1 f_number_across (aCons (eVar 0) aNil) [])) (eBin divD (eBin ixA (eVar 1) (eC (.int 0))) (eC c_TILE))))
def u_number_at : FnS := u_number_at_1
def f_number_at : Sem3 := runD 2 u_number_at
/-- Canvas.__init__: never Raise -/
def u_Canvas___init___1_a_1 : FnS := sNever
def u_Canvas___init___1 : FnS := (sIf (tOr3 (tNot3 (eTest (eCall 3 f_is_whole_in (aCons (eVar 1) (aCons (eC (.int 1)) (aCons (eC c_MAX_WIDTH) aNil))) []))) (tNot3 (eTest (eCall 3 f_is_whole_in (aCons (eVar 2) (aCons (eC (.int 1)) (aCons (eC c_MAX_HEIGHT) aNil))) [])))) u_Canvas___init___1_a_1 sNil)
def u_Canvas___init___2 : FnS := (sFld ix_width (eVar 0) (eVar 1))
def u_Canvas___init___3 : FnS := (sFld ix_height (eVar 0) (eVar 2))
def u_Canvas___init___4 : FnS := (sFld ix_own_places (eVar 0) (eB tupleB (aCons (eLc2 false (iRg1 (eVar 2)) (gSet 5) (iRg1 (eVar 1)) (gSet 6) (eTup (aCons (eVar 6) (aCons (eVar 5) aNil))) [5, 6] [6]) aNil)))
def u_Canvas___init___5 : FnS := (sSet 3 (eLc false (iRg1 (eBin mulD (eCall 1 f_number_across (aCons (eVar 1) aNil) []) (eCall 1 f_number_across (aCons (eVar 2) aNil) []))) (gSet 7) tYes3 (eLstM aNil) [7]))
def u_Canvas___init___6_1 : FnS := (sExpr (eM appendM (eBin ixA (eVar 3) (eCall 2 f_number_at (aCons (eVar 1) (aCons (eVar 4) aNil)) [])) (aCons (eVar 4) aNil)))
def u_Canvas___init___6 : FnS := (sForW (wSeq (eFld ix_own_places (eVar 0))) (gSet 4) u_Canvas___init___6_1)
def u_Canvas___init___7 : FnS := (sFld ix_own_tiles (eVar 0) (eLcW false (wSeq (eVar 3)) (gSet 8) tYes3 (eB tupleB (aCons (eVar 8) aNil)) [8]))
def u_Canvas___init__ : FnS := (sSeq u_Canvas___init___1 (sSeq u_Canvas___init___2 (sSeq u_Canvas___init___3 (sSeq u_Canvas___init___4 (sSeq u_Canvas___init___5 (sSeq u_Canvas___init___6 u_Canvas___init___7))))))
def f_Canvas___init__ : Sem3 := runD 9 u_Canvas___init__
/-- Canvas.tiles -/
def u_Canvas_tiles_1 : FnS := (sRet (eB lenB (aCons (eFld ix_own_tiles (eVar 0)) aNil)))
def u_Canvas_tiles : FnS := u_Canvas_tiles_1
def f_Canvas_tiles : Sem3 := runD 1 u_Canvas_tiles
/-- need_tile_on: never Raise -/
def u_need_tile_on_1_a_1 : FnS := sNever
def u_need_tile_on_1 : FnS := (sIf (tNot3 (eTest (eCall 3 f_is_whole_in (aCons (eVar 1) (aCons (eC (.int 0)) (aCons (eBin subD (eB lenB (aCons (eFld ix_own_tiles (eVar 0)) aNil)) (eC (.int 1))) aNil))) []))) u_need_tile_on_1_a_1 sNil)
def u_need_tile_on : FnS := u_need_tile_on_1
def f_need_tile_on : Sem3 := runD 2 u_need_tile_on
/-- Canvas.places_of -/
def u_Canvas_places_of_1 : FnS := (sExpr (eCall 2 f_need_tile_on (aCons (eVar 0) (aCons (eVar 1) aNil)) []))
def u_Canvas_places_of_2 : FnS := (sRet (eBin ixA (eFld ix_own_tiles (eVar 0)) (eVar 1)))
def u_Canvas_places_of : FnS := (sSeq u_Canvas_places_of_1 u_Canvas_places_of_2)
def f_Canvas_places_of : Sem3 := runD 2 u_Canvas_places_of
/-- _law_tiles_right -/
def u__law_tiles_right_1_1 : FnS := (sSet 3 (eMeth 1 2 f_Canvas_places_of (eVar 1) (aCons (eVar 2) aNil) []))
def u__law_tiles_right_1_2 : FnS := (sPar [4, 5] (aCons (eB minSB (aCons (eLcW false (wSeq (eVar 3)) (gTupD 2 (gsCons (gSet 11) (gsCons (gSet 12) gsNil))) tYes3 (eVar 11) [11, 12]) aNil)) (aCons (eB maxSB (aCons (eLcW false (wSeq (eVar 3)) (gTupD 2 (gsCons (gSet 11) (gsCons (gSet 12) gsNil))) tYes3 (eVar 11) [11, 12]) aNil)) aNil)))
def u__law_tiles_right_1_3 : FnS := (sPar [6, 7] (aCons (eB minSB (aCons (eLcW false (wSeq (eVar 3)) (gTupD 2 (gsCons (gSet 11) (gsCons (gSet 12) gsNil))) tYes3 (eVar 12) [11, 12]) aNil)) (aCons (eB maxSB (aCons (eLcW false (wSeq (eVar 3)) (gTupD 2 (gsCons (gSet 11) (gsCons (gSet 12) gsNil))) tYes3 (eVar 12) [11, 12]) aNil)) aNil)))
def u__law_tiles_right_1_4_1 : FnS := (sSet 9 (eLcW false (wSeq (eTup (aCons (eTup (aCons (eVar 4) (aCons (eVar 6) aNil))) (aCons (eTup (aCons (eVar 5) (aCons (eVar 6) aNil))) (aCons (eTup (aCons (eVar 4) (aCons (eVar 7) aNil))) (aCons (eTup (aCons (eVar 5) (aCons (eVar 7) aNil))) aNil)))))) (gSet 13) tYes3 (eMeth 0 3 f_Triangle_lets_in (eVar 0) (aCons (eVar 8) (aCons (eVar 13) aNil)) []) [13]))
def u__law_tiles_right_1_4_2 : FnS := (sSet 10 (eLcW false (wSeq (eVar 3)) (gSet 13) tYes3 (eMeth 0 3 f_Triangle_lets_in (eVar 0) (aCons (eVar 8) (aCons (eVar 13) aNil)) []) [13]))
def u__law_tiles_right_1_4_3_a_1 : FnS := (sRet (eC (.bl false)))
def u__law_tiles_right_1_4_3 : FnS := (sIf (tAnd3 (eTest (eBin eqD (eVar 9) (eBin mulD (eLst (aCons (eC (.bl true)) aNil)) (eC (.int 4))))) (eTest (eBin neD (eVar 10) (eBin mulD (eLst (aCons (eC (.bl true)) aNil)) (eB lenB (aCons (eVar 3) aNil)))))) u__law_tiles_right_1_4_3_a_1 sNil)
def u__law_tiles_right_1_4_4_a_1 : FnS := (sRet (eC (.bl false)))
def u__law_tiles_right_1_4_4 : FnS := (sIf (tAnd3 (eTest (eBin eqD (eVar 9) (eBin mulD (eLst (aCons (eC (.bl false)) aNil)) (eC (.int 4))))) (eTest (eBin neD (eVar 10) (eBin mulD (eLst (aCons (eC (.bl false)) aNil)) (eB lenB (aCons (eVar 3) aNil)))))) u__law_tiles_right_1_4_4_a_1 sNil)
def u__law_tiles_right_1_4 : FnS := (sFor (iRg1 (eC (.int 3))) (gSet 8) (sSeq u__law_tiles_right_1_4_1 (sSeq u__law_tiles_right_1_4_2 (sSeq u__law_tiles_right_1_4_3 u__law_tiles_right_1_4_4))))
def u__law_tiles_right_1 : FnS := (sFor (iRg1 (eMeth 1 1 f_Canvas_tiles (eVar 1) aNil [])) (gSet 2) (sSeq u__law_tiles_right_1_1 (sSeq u__law_tiles_right_1_2 (sSeq u__law_tiles_right_1_3 u__law_tiles_right_1_4))))
def u__law_tiles_right_2 : FnS := (sRet (eC (.bl true)))
def u__law_tiles_right : FnS := (sSeq u__law_tiles_right_1 u__law_tiles_right_2)
def f__law_tiles_right : Sem3 := runD 14 u__law_tiles_right
/-- law -/
def u_law_1 : FnS := (sSet 1 (eCall 1 f__law_begun (aCons (eVar 0) aNil) []))
def u_law_2_1 : FnS := (sSet 3 (eMake 0 3 4 f_Triangle___init__ (aCons (eCall 1 f__law_corner (aCons (eVar 1) aNil) []) (aCons (eCall 1 f__law_corner (aCons (eVar 1) aNil) []) (aCons (eCall 1 f__law_corner (aCons (eVar 1) aNil) []) aNil))) []))
def u_law_2_2 : FnS := (sSet 4 (eLstM aNil))
def u_law_2_3_1 : FnS := (sSet 4 (eBin catM (eVar 4) (eLst (aCons (eLc false (iRg2 (eUn negD (eC (.int 1))) (eC (.int 9))) (gSet 7) tYes3 (eTup (aCons (eVar 7) (aCons (eVar 5) aNil))) [7]) (aCons (eLc false (iRg2 (eUn negD (eC (.int 1))) (eC (.int 8))) (gSet 8) tYes3 (eTup (aCons (eVar 5) (aCons (eVar 8) aNil))) [8]) aNil)))))
def u_law_2_3 : FnS := (sFor (iRg1 (eC (.int 7))) (gSet 5) u_law_2_3_1)
def u_law_2_4 : FnS := (sSet 4 (eBin catM (eVar 4) (eLst (aCons (eLc false (iRg1 (eC (.int 9))) (gSet 7) tYes3 (eTup (aCons (eVar 7) (aCons (eBin subD (eVar 7) (eC (.int 1))) aNil))) [7]) (aCons (eLc false (iRg1 (eC (.int 9))) (gSet 7) tYes3 (eTup (aCons (eVar 7) (aCons (eBin subD (eC (.int 7)) (eVar 7)) aNil))) [7]) aNil)))))
def u_law_2_5 : FnS := (sSet 6 (eBin subD (eCall 2 f__law_next (aCons (eVar 1) (aCons (eC (.int 2001)) aNil)) []) (eC (.int 1000))))
def u_law_2_6 : FnS := (sExpr (eM appendM (eVar 4) (aCons (eLc false (iRg2 (eUn negD (eC (.int 3))) (eC (.int 6))) (gSet 8) tYes3 (eTup (aCons (eVar 6) (aCons (eVar 8) aNil))) [8]) aNil)))
def u_law_2_7_a_1 : FnS := (sRet (eC (.bl false)))
def u_law_2_7 : FnS := (sIf (eTest (eBin neD (eLcW false (wSeq (eVar 4)) (gSet 9) (tNot3 (eTest (eCall 2 f__law_lane_right (aCons (eVar 3) (aCons (eVar 9) aNil)) []))) (eC (.int 1)) [9]) (eLst aNil))) u_law_2_7_a_1 sNil)
def u_law_2_8_a_1 : FnS := (sRet (eC (.bl false)))
def u_law_2_8 : FnS := (sIf (tNot3 (eTest (eCall 2 f__law_tiles_right (aCons (eVar 3) (aCons (eMake 1 4 3 f_Canvas___init__ (aCons (eBin addD (eC (.int 5)) (eCall 2 f__law_next (aCons (eVar 1) (aCons (eC (.int 4)) aNil)) [])) (aCons (eBin addD (eC (.int 4)) (eCall 2 f__law_next (aCons (eVar 1) (aCons (eC (.int 4)) aNil)) [])) aNil)) []) aNil)) []))) u_law_2_8_a_1 sNil)
def u_law_2 : FnS := (sFor (iRg1 (eBin addD (eC (.int 2)) (eB min2B (aCons (eB lenB (aCons (eVar 0) aNil)) (aCons (eC (.int 2)) aNil))))) (gSet 2) (sSeq u_law_2_1 (sSeq u_law_2_2 (sSeq u_law_2_3 (sSeq u_law_2_4 (sSeq u_law_2_5 (sSeq u_law_2_6 (sSeq u_law_2_7 u_law_2_8))))))))
def u_law_3 : FnS := (sRet (eC (.bl true)))
def u_law : FnS := (sSeq u_law_1 (sSeq u_law_2 u_law_3))
def f_law : Sem3 := runD 10 u_law
end Lw
set_option autoImplicit false
set_option maxHeartbeats 8000000
set_option autoImplicit true
namespace Lw
open PySem PySem.Spec L2 L3
/-! the source of draws: cells, left, at -/
abbrev ck : D := .str [99, 101, 108, 108, 115]
abbrev lk : D := .str [108, 101, 102, 116]
abbrev ak : D := .str [97, 116]
structure Src (h : Hh) (b : Nat) (cells left : List Int) (t : Int) : Prop where
  c : h[0]? = some (.lst (cells.map .int))
  d : h[2]? = some (.dic [ck, lk, ak] [.ref 0, .ref b, .int t])
  l : h[b]? = some (.lst (left.map .int))
  b0 : b ≠ 0
  b2 : b ≠ 2
  pos : ∀ x ∈ left, 0 ≤ x
  t0 : 0 ≤ t
  t1 : t < 1073741824
theorem geti {xs : List Int} {x : Int} {r : List Int} (e : xs = x :: r) : (xs.map D.int)[(0 : Int).toNat]? = some (.int x) := by
  subst e; rfl
theorem Src.left_ (s : Src h b cells left t) : ixA (.ref 2) lk h = .ok (.ref b) h := by
  rw [ixDic s.d rfl]; rfl
theorem Src.at_ (s : Src h b cells left t) : ixA (.ref 2) ak h = .ok (.int t) h := by
  rw [ixDic s.d rfl]; rfl
theorem Src.cells_ (s : Src h b cells left t) : ixA (.ref 2) ck h = .ok (.ref 0) h := by
  rw [ixDic s.d rfl]; rfl
/-- what one draw leaves -/
structure Fr (h : Hh) (b : Nat) (h' : Hh) (b' : Nat) : Prop where
  len : h.length ≤ h'.length
  bb : b' = b ∨ h.length ≤ b'
  old : ∀ j, j < h.length → j ≠ 2 → j ≠ b → h'[j]? = h[j]?
theorem Fr.refl (h : Hh) (b : Nat) : Fr h b h b := ⟨Nat.le_refl _, .inl rfl, fun _ _ _ _ => rfl⟩
theorem Fr.trans {h h1 h2 : Hh} {b b1 b2 : Nat} (x : Fr h b h1 b1) (y : Fr h1 b1 h2 b2) : Fr h b h2 b2 := by
  refine ⟨Nat.le_trans x.len y.len, ?_, fun j hj h2 hb => ?_⟩
  · rcases y.bb with e | e
    · rw [e]; exact x.bb
    · exact .inr (Nat.le_trans x.len e)
  · have hb1 : j ≠ b1 := by
      rcases x.bb with e | e
      · rw [e]; exact hb
      · omega
    rw [y.old j (Nat.lt_of_lt_of_le hj x.len) h2 hb1]
    exact x.old j hj h2 hb
def tW : FnT := (tAnd3 (eTest (eBin neD (eBin ixA (eVar 0) (eC (.str [108, 101, 102, 116]))) (eLst aNil))) (eTest (eBin eqD (eBin ixA (eBin ixA (eVar 0) (eC (.str [108, 101, 102, 116]))) (eC (.int 0))) (eC (.int 0)))))
def uW : FnS := (sIxS (eVar 0) (eC (.str [108, 101, 102, 116])) (eSliceM (eBin ixA (eVar 0) (eC (.str [108, 101, 102, 116]))) (oSome (eC (.int 1))) oNone))
theorem tW_ok (s : Src h b cells left t) (x : Option D) (r : De) : tW (some (.ref 2) :: r) h = .ok (match left with | [] => false | y :: _ => decide (y = 0)) h := by
  cases left with
  | nil => simp [tW, tAnd3, eTest, eBin, eVar, eC, eLst, aNil, R.bind, s.left_, lineOk, neNil s.l]
  | cons y ys =>
    have i0 : ixA (.ref b) (.int 0) h = .ok (.int y) h := ixRefAt s.l (by omega) (geti rfl)
    simp [tW, tAnd3, eTest, eBin, eVar, eC, eLst, aNil, R.bind, s.left_, lineOk, neNil s.l, i0, eqI]
theorem cutTail (ds : List D) (d : D) : cutL (d :: ds) (some 1) none = ds := by
  have e : HT.sIx (d :: ds).length 0 (some 1) = 1 := by
    show HT.sIx (d :: ds).length 0 (some ((1 : Nat) : Int)) = 1
    rw [HT.sIx_nat]; simp
  have e2 : HT.sIx (d :: ds).length (d :: ds).length none = ds.length + 1 := rfl
  unfold cutL
  rw [e, e2]
  simp
theorem Src.lt (s : Src h b cells left t) : b < h.length := (List.getElem?_eq_some_iff.mp s.l).1
theorem Src.lt2 (s : Src h b cells left t) : 2 < h.length := (List.getElem?_eq_some_iff.mp s.d).1
/-- another list stands for left -/
theorem Src.relist (s : Src h b cells left t) (ys : List Int) (hp : ∀ x ∈ ys, 0 ≤ x) : Src ((h ++ [O.lst (ys.map D.int)]).set 2 (O.dic [ck, lk, ak] [.ref 0, .ref h.length, .int t])) h.length cells ys t ∧
    Fr h b ((h ++ [O.lst (ys.map D.int)]).set 2 (O.dic [ck, lk, ak] [.ref 0, .ref h.length, .int t])) h.length := by
  have h2 := s.lt2
  refine ⟨⟨?_, ?_, ?_, by omega, by omega, hp, s.t0, s.t1⟩, ⟨by simp, .inr (Nat.le_refl _), fun j hj j2 jb => ?_⟩⟩
  · rw [List.getElem?_set_ne (by omega), List.getElem?_append_left (by omega)]; exact s.c
  · rw [List.getElem?_set_self (by simp; omega)]
  · rw [List.getElem?_set_ne (by omega)]; simp
  · rw [List.getElem?_set_ne (by omega), List.getElem?_append_left hj]
theorem wloop : ∀ (left : List Int) (h : Hh) (b : Nat) (cells : List Int) (t : Int) (r : De), Src h b cells left t → ∃ h' b' left' n, n ≤ left.length + 1 ∧ left'.length ≤ left.length ∧ whileN tW uW n (some (.ref 2) :: r) h = .nx (some (.ref 2) :: r) h' ∧ Src h' b' cells left' t ∧ Fr h b h' b' ∧ (left' = [] ∨ ∃ y ys, left' = y :: ys ∧ 0 < y)
  | [], h, b, cells, t, r, s => ⟨h, b, [], 1, by simp, by simp, by simp [whileN, tW_ok s none, R.toS], s, Fr.refl h b, .inl rfl⟩
  | y :: ys, h, b, cells, t, r, s => by
    by_cases hy : y = 0
    · subst hy
      obtain ⟨s1, f1⟩ := s.relist ys fun x hx => s.pos x (List.mem_cons_of_mem _ hx)
      obtain ⟨h', b', left', n, hn, hl, e, s', f', k⟩ := wloop ys _ _ cells t r s1
      refine ⟨h', b', left', n + 1, by simpa using hn, by simp; omega, ?_, s', f1.trans f', k⟩
      have el : asL h (.ref b) = some (((0 : Int) :: ys).map .int) := by unfold asL; dsimp only; rw [s.l]
      have eu : uW (some (.ref 2) :: r) h = .nx (some (.ref 2) :: r) ((h ++ [O.lst (ys.map D.int)]).set 2 (O.dic [ck, lk, ak] [.ref 0, .ref h.length, .int t])) := by
        have hd : (h ++ [O.lst (ys.map D.int)])[2]? = some (O.dic [ck, lk, ak] [.ref 0, .ref b, .int t]) := by rw [List.getElem?_append_left s.lt2]; exact s.d
        have so := setDic (i := lk) (y := .ref h.length) hd rfl (by simp)
        have e1 : putKs [ck, lk, ak] lk = [ck, lk, ak] := rfl
        have e2 : putVs [ck, lk, ak] [.ref 0, .ref b, .int t] lk (.ref h.length) = [.ref 0, .ref h.length, .int t] := rfl
        rw [e1, e2] at so
        simp [uW, sIxS, eSliceM, eBin, eVar, eC, R.toS, R.bind, s.left_, oSome, oNone, sliceM, el, cutTail, kSet, so]
      unfold whileN
      simp only [tW_ok s none, R.toS, decide_true, if_true, eu]
      exact e
    · refine ⟨h, b, y :: ys, 1, by simp, by simp, by simp [whileN, tW_ok s none, R.toS, hy], s, Fr.refl h b, .inr ⟨y, ys, rfl, ?_⟩⟩
      have := s.pos y (by simp)
      omega
def restN : FnS := (sSeq (sIf (eTest (eBin neD (eBin ixA (eVar 0) (eC (.str [108, 101, 102, 116]))) (eLst aNil))) (sSeq (sSet 2 (eB intB (aCons (eBin ixA (eBin ixA (eVar 0) (eC (.str [108, 101, 102, 116]))) (eC (.int 0))) aNil))) (sSeq (sIxS (eBin ixA (eVar 0) (eC (.str [108, 101, 102, 116]))) (eC (.int 0)) (eBin divD (eVar 2) (eVar 1))) (sRet (eBin modD (eVar 2) (eVar 1))))) sNil) (sSeq (sSet 3 (eBin addD (eBin ixA (eVar 0) (eC (.str [97, 116]))) (eC (.int 1)))) (sSeq (sIxS (eVar 0) (eC (.str [97, 116])) (eVar 3)) (sSeq (sSet 4 (eIf (eTest (eBin neD (eBin ixA (eVar 0) (eC (.str [99, 101, 108, 108, 115]))) (eLst aNil))) (eBin ixA (eBin ixA (eVar 0) (eC (.str [99, 101, 108, 108, 115]))) (eBin modD (eB intB (aCons (eVar 3) aNil)) (eB lenB (aCons (eBin ixA (eVar 0) (eC (.str [99, 101, 108, 108, 115]))) aNil)))) (eC (.int 5)))) (sSeq (sSet 5 (eBin mulD (eB intB (aCons (eBin addD (eBin addD (eBin modD (eB intB (aCons (eVar 4) aNil)) (eC (.int 2147483629))) (eBin mulD (eC (.int 7919)) (eVar 3))) (eBin mulD (eBin mulD (eC (.int 17)) (eVar 3)) (eVar 3))) aNil)) (eC (.int 48271)))) (sSeq (sSet 5 (eBin mulD (eB intB (aCons (eBin addD (eBin modD (eB intB (aCons (eVar 5) aNil)) (eC (.int 2147483647))) (eBin mulD (eC (.int 104729)) (eVar 3))) aNil)) (eC (.int 69621)))) (sRet (eBin modD (eB intB (aCons (eBin divD (eBin modD (eB intB (aCons (eVar 5) aNil)) (eC (.int 2147483587))) (eC (.int 13))) aNil)) (eVar 1)))))))))
theorem next_is : u__law_next = sSeq (whileN tW uW fuel) restN := rfl
def Good (h : Hh) (b : Nat) (N : Nat) : Prop := ∃ cells left t, Src h b cells left t ∧ left.length ≤ 1000 ∧ t + (N : Int) < 1073741824
theorem next_ok (g : Good h b (N + 1)) (k : Int) (k0 : 0 < k) (k1 : k < 1073741824) : ∃ v h' b', f__law_next [.ref 2, .int k] h = .ok (.int v) h' ∧ 0 ≤ v ∧ v < k ∧ Good h' b' N ∧ Fr h b h' b' := by
  obtain ⟨cells, left, t, s, hl, ht⟩ := g
  obtain ⟨h1, b1, left1, n, hn, hl1, e, s1, f1, fin⟩ := wloop left h b cells t [some (.int k), none, none, none, none] s
  have t1 := s.t0
  have ew : whileN tW uW fuel [some (.ref 2), some (.int k), none, none, none, none] h = .nx [some (.ref 2), some (.int k), none, none, none, none] h1 := by
    have := whileN_mono (t := tW) (u := uW) n fuel [some (.ref 2), some (.int k), none, none, none, none] h (by show n ≤ 4611686018427387904; omega) (by rw [e]; simp)
    rw [this, e]
  have run : f__law_next [.ref 2, .int k] h = endD (restN [some (.ref 2), some (.int k), none, none, none, none] h1) := by
    unfold f__law_next runD startD
    rw [next_is]
    show endD (sSeq (whileN tW uW fuel) restN [some (.ref 2), some (.int k), none, none, none, none] h) = _
    unfold sSeq
    rw [ew]
  rw [run]
  rcases fin with rfl | ⟨y, ys, rfl, hy⟩
  · -- no great numbers left
    have hd := setDic (i := ak) (y := .int (t + 1)) s1.d rfl (by simp)
    have e1 : putKs [ck, lk, ak] ak = [ck, lk, ak] := rfl
    have e2 : putVs [ck, lk, ak] [.ref 0, .ref b1, .int t] ak (.int (t + 1)) = [.ref 0, .ref b1, .int (t + 1)] := rfl
    rw [e1, e2] at hd
    have h2 := s1.lt2
    have s2 : Src (h1.set 2 (.dic [ck, lk, ak] [.ref 0, .ref b1, .int (t + 1)])) b1 cells [] (t + 1) :=
      ⟨by rw [List.getElem?_set_ne (by omega)]; exact s1.c, by rw [List.getElem?_set_self h2], by rw [List.getElem?_set_ne (Ne.symm s1.b2)]; exact s1.l, s1.b0, s1.b2, s1.pos, by omega, by omega⟩
    have f2 : Fr h1 b1 (h1.set 2 (.dic [ck, lk, ak] [.ref 0, .ref b1, .int (t + 1)])) b1 := ⟨by simp, .inl rfl, fun j hj j2 jb => by rw [List.getElem?_set_ne (by omega)]⟩
    have cell : ∃ c : Int, (eIf (eTest (eBin neD (eBin ixA (eVar 0) (eC (.str [99, 101, 108, 108, 115]))) (eLst aNil))) (eBin ixA (eBin ixA (eVar 0) (eC (.str [99, 101, 108, 108, 115]))) (eBin modD (eB intB (aCons (eVar 3) aNil)) (eB lenB (aCons (eBin ixA (eVar 0) (eC (.str [99, 101, 108, 108, 115]))) aNil)))) (eC (.int 5)))
        [some (.ref 2), some (.int k), none, some (.int (t + 1)), none, none] (h1.set 2 (.dic [ck, lk, ak] [.ref 0, .ref b1, .int (t + 1)])) = .ok (.int c) (h1.set 2 (.dic [ck, lk, ak] [.ref 0, .ref b1, .int (t + 1)])) := by
      cases cells with
      | nil => exact ⟨5, by simp [eIf, eTest, eBin, eVar, eC, eLst, aNil, R.bind, s2.cells_, lineOk, neNil s2.c]⟩
      | cons c cs =>
        have hp : (0 : Int) < ((List.map D.int (c :: cs)).length : Int) := by simp
        have hm := Int.emod_nonneg (t + 1) (Int.ne_of_gt hp)
        have hm2 := Int.emod_lt_of_pos (t + 1) hp
        have hlt : ((t + 1) % ((List.map D.int (c :: cs)).length : Int)).toNat < (c :: cs).length := by
          simp only [List.length_map] at hm hm2 ⊢
          omega
        refine ⟨(c :: cs)[((t + 1) % ((List.map D.int (c :: cs)).length : Int)).toNat], ?_⟩
        have ga : ixA (.ref 0) (.int ((t + 1) % ((List.map D.int (c :: cs)).length : Int))) (h1.set 2 (.dic [ck, lk, ak] [.ref 0, .ref b1, .int (t + 1)])) = .ok (.int ((c :: cs)[((t + 1) % ((List.map D.int (c :: cs)).length : Int)).toNat])) (h1.set 2 (.dic [ck, lk, ak] [.ref 0, .ref b1, .int (t + 1)])) :=
          ixRefAt s2.c hm (by rw [List.getElem?_map, List.getElem?_eq_getElem hlt]; rfl)
        simp only [eIf, eTest, eBin, eVar, eC, eLst, aNil, aCons, eB, R.bind, s2.cells_, lineOk, neNil s2.c, List.isEmpty_cons, Bool.not_false, if_true, List.getElem?_cons_zero, List.getElem?_cons_succ, intB1, lenRef s2.c, modI _ hp, ga, List.length_nil, Nat.zero_le, decide_true]
    obtain ⟨c, hc⟩ := cell
    have hv : ∃ v, endD (restN [some (.ref 2), some (.int k), none, none, none, none] h1) = .ok (.int (v % k)) (h1.set 2 (.dic [ck, lk, ak] [.ref 0, .ref b1, .int (t + 1)])) := by
      simp (disch := omega) only [restN, sSeq, sIf, eTest, eBin, eVar, eC, eLst, aNil, aCons, eB, R.bind, R.toS, s1.left_, s1.at_, lineOk, neNil s1.l, List.isEmpty_nil, Bool.not_true, if_false, Bool.false_eq_true, List.getElem?_cons_zero, List.getElem?_cons_succ, sNil, sSet, addI, List.set_cons_zero, List.set_cons_succ, sIxS, kSet, hd, hc, intB1, modI, mulL, mulR, divI, sRet, endD, List.length_nil, Nat.zero_le, decide_true, if_true]
      exact ⟨_, rfl⟩
    obtain ⟨v, hv⟩ := hv
    exact ⟨_, _, b1, hv, Int.emod_nonneg _ (by omega), Int.emod_lt_of_pos _ k0, ⟨cells, [], t + 1, s2, by simp, by push_cast at ht; omega⟩, f1.trans f2⟩
  · -- the first of the great numbers is used up
    have i0 : ixA (.ref b1) (.int 0) h1 = .ok (.int y) h1 := ixRefAt s1.l (by omega) (geti rfl)
    have so := setRef (i := 0) (y := .int (y / k)) s1.l (by omega) (by simp)
    have es : (((y :: ys).map D.int).set (0 : Int).toNat (.int (y / k))) = ((y / k) :: ys).map D.int := rfl
    rw [es] at so
    have bl := s1.lt
    have s2 : Src (h1.set b1 (.lst (((y / k) :: ys).map D.int))) b1 cells ((y / k) :: ys) t :=
      ⟨by rw [List.getElem?_set_ne s1.b0]; exact s1.c, by rw [List.getElem?_set_ne s1.b2]; exact s1.d, by rw [List.getElem?_set_self bl], s1.b0, s1.b2, fun x hx => by
        rcases List.mem_cons.mp hx with rfl | hx
        · exact Int.ediv_nonneg (by omega) (by omega)
        · exact s1.pos x (List.mem_cons_of_mem _ hx), s1.t0, s1.t1⟩
    have f2 : Fr h1 b1 (h1.set b1 (.lst (((y / k) :: ys).map D.int))) b1 := ⟨by simp, .inl rfl, fun j hj j2 jb => by rw [List.getElem?_set_ne (Ne.symm jb)]⟩
    have hv : endD (restN [some (.ref 2), some (.int k), none, none, none, none] h1) = .ok (.int (y % k)) (h1.set b1 (.lst (((y / k) :: ys).map D.int))) := by
      simp (disch := omega) only [restN, sSeq, sIf, eTest, eBin, eVar, eC, eLst, aNil, aCons, eB, R.bind, R.toS, s1.left_, lineOk, neNil s1.l, List.isEmpty_cons, Bool.not_false, List.getElem?_cons_zero, List.getElem?_cons_succ, sSet, List.set_cons_zero, List.set_cons_succ, sIxS, kSet, i0, so, intB1, modI, divI, sRet, endD, List.length_nil, Nat.zero_le, decide_true, if_true]
    exact ⟨_, _, b1, hv, Int.emod_nonneg _ (by omega), Int.emod_lt_of_pos _ k0, ⟨cells, _, t, s2, by simp at hl1 ⊢; omega, by push_cast at ht; omega⟩, f1.trans f2⟩
theorem Good.app {h : Hh} {b N : Nat} (g : Good h b N) (t : Hh) : Good (h ++ t) b N := by
  obtain ⟨cells, left, tt, s, h1, h2⟩ := g
  have l2 := s.lt2
  have lb := s.lt
  exact ⟨cells, left, tt, ⟨by rw [List.getElem?_append_left (by omega)]; exact s.c, by rw [List.getElem?_append_left (by omega)]; exact s.d, by rw [List.getElem?_append_left (by omega)]; exact s.l, s.b0, s.b2, s.pos, s.t0, s.t1⟩, h1, h2⟩
theorem Good.weak {h : Hh} {b N M : Nat} (g : Good h b N) (hm : M ≤ N) : Good h b M := by
  obtain ⟨cells, left, t, s, h1, h2⟩ := g
  exact ⟨cells, left, t, s, h1, by omega⟩
/-! the source is made -/
theorem pow18 (h : Hh) : powD (.int 10) (.int 18) h = .ok (.int 1000000000000000000) h := by simp [powD]
theorem filt (a b : Option D) (h : Hh) : ∀ ns : List Int, lcs (gSet 1) (eTest (eBin geD (eVar 1) (eBin powD (eC (.int 10)) (eC (.int 18))))) (eVar 1) [a, b] (ns.map D.int) h = .ok ((ns.filter fun x => decide (1000000000000000000 ≤ x)).map D.int) h
  | [] => rfl
  | n :: ns => by
    have ih := filt a b h ns
    rw [List.map_cons, lcCons]
    by_cases hn : 1000000000000000000 ≤ n
    · simp [pow18, hn, ih, runD, startD, endRt, endNx, endExc, seqE, seqNx, seqRt, seqExc, sNil, sPass, sIf, sRet, sRetN, sExpr, sSet, sAsg, sPar, kPar, setAll, sIxS, kSet, L3.sFld, eVar, eC, eBin, eTest, eChain, eUn, tAnd3, tOr3, tNot3, eAnd, eOr, eNot, eIf, aNil, aCons, eTup, eLst, eLstM, eCall, kCall, eMeth, kMeth, clsObj, eB, one, eFld, fldD, fieldAt, L3.putAt, eProp, kProp, noX, eMake, eLc, kLst, iSeq, L3.iZip, kZip, zipL, immS, iRg1, lcNil, lcCons, lcAS, lcBT, lcBF, lcCO, loNil, loCons, loAS, loNx, loCt, loBk, loRt, L3.sFor, sForW, eLcW, wSeq, wZip, kZipW, loopW, lcW, optS, wipeD, gSet, gTupD, gsNil, gsCons, tYes3, eIsi, isiD, kdOf, isK, allB, anyB, sumB, L3.listOf, blsOf, intsOf, asL, bindOk, bindExc, bindStk, toSOk, toSExc, lineOk, addI, subI, negI, mulL, mulR, divI, modI, ltI, leI, gtI, geI, eqI, neI, intB1, intB2, lenTup, lenLst, lenScr, tup0, tup1, tup2, tup3, tup4, tup5, lst0, lst1, lst2, lst3, List.getElem?_cons_zero, List.getElem?_cons_succ, List.getElem?_nil, List.set_cons_zero, List.set_cons_succ, List.length_cons, List.length_nil, List.map_cons, List.map_nil, List.replicate_succ, List.replicate_zero, List.cons_append, List.nil_append, List.append_nil, if_true, if_false, ite_true, ite_false, Bool.false_eq_true, Bool.not_true, Bool.not_false, Bool.true_and, Bool.and_true, Bool.false_and, Bool.and_false, Bool.or_true, Bool.true_or, Bool.false_or, Bool.or_false, and_self, and_true, true_and, Nat.sub_zero, Nat.sub_self, Nat.reduceSub, Nat.reduceAdd, Nat.reduceLeDiff, Nat.reduceEqDiff, decide_true, decide_false, Nat.zero_le]
    · simp [pow18, hn, ih, runD, startD, endRt, endNx, endExc, seqE, seqNx, seqRt, seqExc, sNil, sPass, sIf, sRet, sRetN, sExpr, sSet, sAsg, sPar, kPar, setAll, sIxS, kSet, L3.sFld, eVar, eC, eBin, eTest, eChain, eUn, tAnd3, tOr3, tNot3, eAnd, eOr, eNot, eIf, aNil, aCons, eTup, eLst, eLstM, eCall, kCall, eMeth, kMeth, clsObj, eB, one, eFld, fldD, fieldAt, L3.putAt, eProp, kProp, noX, eMake, eLc, kLst, iSeq, L3.iZip, kZip, zipL, immS, iRg1, lcNil, lcCons, lcAS, lcBT, lcBF, lcCO, loNil, loCons, loAS, loNx, loCt, loBk, loRt, L3.sFor, sForW, eLcW, wSeq, wZip, kZipW, loopW, lcW, optS, wipeD, gSet, gTupD, gsNil, gsCons, tYes3, eIsi, isiD, kdOf, isK, allB, anyB, sumB, L3.listOf, blsOf, intsOf, asL, bindOk, bindExc, bindStk, toSOk, toSExc, lineOk, addI, subI, negI, mulL, mulR, divI, modI, ltI, leI, gtI, geI, eqI, neI, intB1, intB2, lenTup, lenLst, lenScr, tup0, tup1, tup2, tup3, tup4, tup5, lst0, lst1, lst2, lst3, List.getElem?_cons_zero, List.getElem?_cons_succ, List.getElem?_nil, List.set_cons_zero, List.set_cons_succ, List.length_cons, List.length_nil, List.map_cons, List.map_nil, List.replicate_succ, List.replicate_zero, List.cons_append, List.nil_append, List.append_nil, if_true, if_false, ite_true, ite_false, Bool.false_eq_true, Bool.not_true, Bool.not_false, Bool.true_and, Bool.and_true, Bool.false_and, Bool.and_false, Bool.or_true, Bool.true_or, Bool.false_or, Bool.or_false, and_self, and_true, true_and, Nat.sub_zero, Nat.sub_self, Nat.reduceSub, Nat.reduceAdd, Nat.reduceLeDiff, Nat.reduceEqDiff, decide_true, decide_false, Nat.zero_le]
theorem begun_ok (ns : List Int) (hl : ns.length ≤ 63) : ∃ h', f__law_begun [.scr (ns.map D.int)] [] = .ok (.ref 2) h' ∧ Good h' 1 1000000 := by
  refine ⟨[.lst (ns.map D.int), .lst ((ns.filter fun x => decide (1000000000000000000 ≤ x)).map D.int), .dic [ck, lk, ak] [.ref 0, .ref 1, .int 0]], ?_, ?_⟩
  · have hf := List.length_filter_le (fun x => decide ((1000000000000000000 : Int) ≤ x)) ns
    have h1 : (List.filter (fun x => decide ((1000000000000000000 : Int) ≤ x)) ns).length ≤ 16777216 := by omega
    simp [f__law_begun, u__law_begun_1, u__law_begun, eDic, dPairs, noXP, kDic, keysOk, isKey, hasK, keyEq, listMB, asSeq, filt, h1, runD, startD, endRt, endNx, endExc, seqE, seqNx, seqRt, seqExc, sNil, sPass, sIf, sRet, sRetN, sExpr, sSet, sAsg, sPar, kPar, setAll, sIxS, kSet, L3.sFld, eVar, eC, eBin, eTest, eChain, eUn, tAnd3, tOr3, tNot3, eAnd, eOr, eNot, eIf, aNil, aCons, eTup, eLst, eLstM, eCall, kCall, eMeth, kMeth, clsObj, eB, one, eFld, fldD, fieldAt, L3.putAt, eProp, kProp, noX, eMake, eLc, kLst, iSeq, L3.iZip, kZip, zipL, immS, iRg1, lcNil, lcCons, lcAS, lcBT, lcBF, lcCO, loNil, loCons, loAS, loNx, loCt, loBk, loRt, L3.sFor, sForW, eLcW, wSeq, wZip, kZipW, loopW, lcW, optS, wipeD, gSet, gTupD, gsNil, gsCons, tYes3, eIsi, isiD, kdOf, isK, allB, anyB, sumB, L3.listOf, blsOf, intsOf, asL, bindOk, bindExc, bindStk, toSOk, toSExc, lineOk, addI, subI, negI, mulL, mulR, divI, modI, ltI, leI, gtI, geI, eqI, neI, intB1, intB2, lenTup, lenLst, lenScr, tup0, tup1, tup2, tup3, tup4, tup5, lst0, lst1, lst2, lst3, List.getElem?_cons_zero, List.getElem?_cons_succ, List.getElem?_nil, List.set_cons_zero, List.set_cons_succ, List.length_cons, List.length_nil, List.map_cons, List.map_nil, List.replicate_succ, List.replicate_zero, List.cons_append, List.nil_append, List.append_nil, if_true, if_false, ite_true, ite_false, Bool.false_eq_true, Bool.not_true, Bool.not_false, Bool.true_and, Bool.and_true, Bool.false_and, Bool.and_false, Bool.or_true, Bool.true_or, Bool.false_or, Bool.or_false, and_self, and_true, true_and, Nat.sub_zero, Nat.sub_self, Nat.reduceSub, Nat.reduceAdd, Nat.reduceLeDiff, Nat.reduceEqDiff, decide_true, decide_false, Nat.zero_le]
  · refine ⟨ns, ns.filter fun x => decide (1000000000000000000 ≤ x), 0, ⟨rfl, rfl, rfl, by decide, by decide, fun x hx => ?_, by decide, by decide⟩, ?_, by decide⟩
    · have := List.mem_filter.mp hx
      have := of_decide_eq_true this.2
      omega
    · have hf := List.length_filter_le (fun x => decide ((1000000000000000000 : Int) ≤ x)) ns
      omega
theorem turns_ok (c k : Nat) (hc : c ≤ 100) (hk : k ≤ 100) (ns : List Int) (r : De) (h : Hh) : iRg1 (eBin addD (eC (.int (c : Int))) (eB min2B (aCons (eB lenB (aCons (eVar 0) aNil)) (aCons (eC (.int (k : Int))) aNil)))) (some (.scr (ns.map D.int)) :: r) h = .ok (rgD 0 (c + min ns.length k)) h := by
  have e : ((c : Int) + (if (k : Int) < (ns.length : Int) then (k : Int) else (ns.length : Int))) = ((c + min ns.length k : Nat) : Int) := by
    by_cases hh : k < ns.length
    · rw [if_pos (by omega), Nat.min_eq_right (by omega)]; rfl
    · rw [if_neg (by omega), Nat.min_eq_left (by omega)]; rfl
  have b : ((c + min ns.length k : Nat) : Int) ≤ 200 := by omega
  show (if -(2 ^ 62) ≤ (c : Int) + (if (k : Int) < (((ns.map D.int).length : Nat) : Int) then (k : Int) else (((ns.map D.int).length : Nat) : Int)) ∧ (c : Int) + (if (k : Int) < (((ns.map D.int).length : Nat) : Int) then (k : Int) else (((ns.map D.int).length : Nat) : Int)) < 2 ^ 62 then R.ok (rgD 0 ((c : Int) + (if (k : Int) < (((ns.map D.int).length : Nat) : Int) then (k : Int) else (((ns.map D.int).length : Nat) : Int))).toNat) h else .stk) = _
  rw [List.length_map, e, if_pos ⟨by omega, by omega⟩]
  rfl
end Lw
set_option autoImplicit false
set_option maxHeartbeats 8000000
set_option autoImplicit true
namespace Lw
open PySem PySem.Spec L2 L3
/-! triangles: what the functions answer -/
def int3 (a b c : Int) : D := .tup [.int a, .int b, .int c]
def int6 (a b c d e f : Int) : D := .tup [.int a, .int b, .int c, .int d, .int e, .int f]
def betw (lo x hi : Int) : Bool := decide (lo ≤ x) && decide (x ≤ hi)
theorem whole_ok (x lo hi : Int) (h : Hh) : f_is_whole_in [.int x, .int lo, .int hi] h = .ok (.bl (betw lo x hi)) h := by
  by_cases h1 : lo ≤ x <;> simp (disch := omega) [f_is_whole_in, u_is_whole_in_1, u_is_whole_in, betw, h1, runD, startD, endRt, endNx, endExc, seqE, seqNx, seqRt, seqExc, sNil, sPass, sIf, sRet, sRetN, sExpr, sSet, sAsg, sPar, kPar, setAll, sIxS, kSet, L3.sFld, eVar, eC, eBin, eTest, eChain, eUn, tAnd3, tOr3, tNot3, eAnd, eOr, eNot, eIf, aNil, aCons, eTup, eLst, eLstM, eCall, kCall, eMeth, kMeth, clsObj, eB, one, eFld, fldD, fieldAt, L3.putAt, eProp, kProp, noX, eMake, eLc, kLst, iSeq, L3.iZip, kZip, zipL, immS, iRg1, lcNil, lcCons, lcAS, lcBT, lcBF, lcCO, loNil, loCons, loAS, loNx, loCt, loBk, loRt, L3.sFor, sForW, eLcW, wSeq, wZip, kZipW, loopW, lcW, optS, wipeD, gSet, gTupD, gsNil, gsCons, tYes3, eIsi, isiD, kdOf, isK, allB, anyB, sumB, L3.listOf, blsOf, intsOf, asL, bindOk, bindExc, bindStk, toSOk, toSExc, lineOk, addI, subI, negI, mulL, mulR, divI, modI, ltI, leI, gtI, geI, eqI, neI, intB1, intB2, lenTup, lenLst, lenScr, tup0, tup1, tup2, tup3, tup4, tup5, lst0, lst1, lst2, lst3, List.getElem?_cons_zero, List.getElem?_cons_succ, List.getElem?_nil, List.set_cons_zero, List.set_cons_succ, List.length_cons, List.length_nil, List.map_cons, List.map_nil, List.replicate_succ, List.replicate_zero, List.cons_append, List.nil_append, List.append_nil, if_true, if_false, ite_true, ite_false, Bool.false_eq_true, Bool.not_true, Bool.not_false, Bool.true_and, Bool.and_true, Bool.false_and, Bool.and_false, Bool.or_true, Bool.true_or, Bool.false_or, Bool.or_false, and_self, and_true, true_and, Nat.sub_zero, Nat.sub_self, Nat.reduceSub, Nat.reduceAdd, Nat.reduceLeDiff, Nat.reduceEqDiff, decide_true, decide_false, Nat.zero_le]
theorem are6_ok (a b c d e f lo hi : Int) (h : Hh) : f_are_whole_in [int6 a b c d e f, .int 6, .int lo, .int hi] h = .ok (.bl (betw lo a hi && (betw lo b hi && (betw lo c hi && (betw lo d hi && (betw lo e hi && betw lo f hi)))))) h := by
  simp (disch := omega) [f_are_whole_in, u_are_whole_in_1_a_1, u_are_whole_in_1, u_are_whole_in_2, u_are_whole_in, int6, whole_ok, runD, startD, endRt, endNx, endExc, seqE, seqNx, seqRt, seqExc, sNil, sPass, sIf, sRet, sRetN, sExpr, sSet, sAsg, sPar, kPar, setAll, sIxS, kSet, L3.sFld, eVar, eC, eBin, eTest, eChain, eUn, tAnd3, tOr3, tNot3, eAnd, eOr, eNot, eIf, aNil, aCons, eTup, eLst, eLstM, eCall, kCall, eMeth, kMeth, clsObj, eB, one, eFld, fldD, fieldAt, L3.putAt, eProp, kProp, noX, eMake, eLc, kLst, iSeq, L3.iZip, kZip, zipL, immS, iRg1, lcNil, lcCons, lcAS, lcBT, lcBF, lcCO, loNil, loCons, loAS, loNx, loCt, loBk, loRt, L3.sFor, sForW, eLcW, wSeq, wZip, kZipW, loopW, lcW, optS, wipeD, gSet, gTupD, gsNil, gsCons, tYes3, eIsi, isiD, kdOf, isK, allB, anyB, sumB, L3.listOf, blsOf, intsOf, asL, bindOk, bindExc, bindStk, toSOk, toSExc, lineOk, addI, subI, negI, mulL, mulR, divI, modI, ltI, leI, gtI, geI, eqI, neI, intB1, intB2, lenTup, lenLst, lenScr, tup0, tup1, tup2, tup3, tup4, tup5, lst0, lst1, lst2, lst3, List.getElem?_cons_zero, List.getElem?_cons_succ, List.getElem?_nil, List.set_cons_zero, List.set_cons_succ, List.length_cons, List.length_nil, List.map_cons, List.map_nil, List.replicate_succ, List.replicate_zero, List.cons_append, List.nil_append, List.append_nil, if_true, if_false, ite_true, ite_false, Bool.false_eq_true, Bool.not_true, Bool.not_false, Bool.true_and, Bool.and_true, Bool.false_and, Bool.and_false, Bool.or_true, Bool.true_or, Bool.false_or, Bool.or_false, and_self, and_true, true_and, Nat.sub_zero, Nat.sub_self, Nat.reduceSub, Nat.reduceAdd, Nat.reduceLeDiff, Nat.reduceEqDiff, decide_true, decide_false, Nat.zero_le]
theorem are2_ok (a b lo hi : Int) (h : Hh) : f_are_whole_in [.tup [.int a, .int b], .int 2, .int lo, .int hi] h = .ok (.bl (betw lo a hi && betw lo b hi)) h := by
  simp (disch := omega) [f_are_whole_in, u_are_whole_in_1_a_1, u_are_whole_in_1, u_are_whole_in_2, u_are_whole_in, whole_ok, runD, startD, endRt, endNx, endExc, seqE, seqNx, seqRt, seqExc, sNil, sPass, sIf, sRet, sRetN, sExpr, sSet, sAsg, sPar, kPar, setAll, sIxS, kSet, L3.sFld, eVar, eC, eBin, eTest, eChain, eUn, tAnd3, tOr3, tNot3, eAnd, eOr, eNot, eIf, aNil, aCons, eTup, eLst, eLstM, eCall, kCall, eMeth, kMeth, clsObj, eB, one, eFld, fldD, fieldAt, L3.putAt, eProp, kProp, noX, eMake, eLc, kLst, iSeq, L3.iZip, kZip, zipL, immS, iRg1, lcNil, lcCons, lcAS, lcBT, lcBF, lcCO, loNil, loCons, loAS, loNx, loCt, loBk, loRt, L3.sFor, sForW, eLcW, wSeq, wZip, kZipW, loopW, lcW, optS, wipeD, gSet, gTupD, gsNil, gsCons, tYes3, eIsi, isiD, kdOf, isK, allB, anyB, sumB, L3.listOf, blsOf, intsOf, asL, bindOk, bindExc, bindStk, toSOk, toSExc, lineOk, addI, subI, negI, mulL, mulR, divI, modI, ltI, leI, gtI, geI, eqI, neI, intB1, intB2, lenTup, lenLst, lenScr, tup0, tup1, tup2, tup3, tup4, tup5, lst0, lst1, lst2, lst3, List.getElem?_cons_zero, List.getElem?_cons_succ, List.getElem?_nil, List.set_cons_zero, List.set_cons_succ, List.length_cons, List.length_nil, List.map_cons, List.map_nil, List.replicate_succ, List.replicate_zero, List.cons_append, List.nil_append, List.append_nil, if_true, if_false, ite_true, ite_false, Bool.false_eq_true, Bool.not_true, Bool.not_false, Bool.true_and, Bool.and_true, Bool.false_and, Bool.and_false, Bool.or_true, Bool.true_or, Bool.false_or, Bool.or_false, and_self, and_true, true_and, Nat.sub_zero, Nat.sub_self, Nat.reduceSub, Nat.reduceAdd, Nat.reduceLeDiff, Nat.reduceEqDiff, decide_true, decide_false, Nat.zero_le]
theorem corner_ok {a b c d e f : Int} {h : Hh} (ha : -1000 ≤ a ∧ a ≤ 1000) (hb : -1000 ≤ b ∧ b ≤ 1000) (hc : -1000 ≤ c ∧ c ≤ 1000) (hd : -1000 ≤ d ∧ d ≤ 1000) (he : -1000 ≤ e ∧ e ≤ 1000) (hf : 1 ≤ f ∧ f ≤ 1000) : f_is_corner [int6 a b c d e f] h = .ok (.bl true) h := by
  have h1 : f_are_whole_in [int6 a b c d e f, .int 6, .int (-1000), .int 1000] h = .ok (.bl true) h := by
    rw [are6_ok]
    simp [betw, ha, hb, hc, hd, he, hf, show -1000 ≤ f by omega]
  simp (disch := omega) [f_is_corner, u_is_corner_1, u_is_corner, c_MAX_NUMBER, h1, runD, startD, endRt, endNx, endExc, seqE, seqNx, seqRt, seqExc, sNil, sPass, sIf, sRet, sRetN, sExpr, sSet, sAsg, sPar, kPar, setAll, sIxS, kSet, L3.sFld, eVar, eC, eBin, eTest, eChain, eUn, tAnd3, tOr3, tNot3, eAnd, eOr, eNot, eIf, aNil, aCons, eTup, eLst, eLstM, eCall, kCall, eMeth, kMeth, clsObj, eB, one, eFld, fldD, fieldAt, L3.putAt, eProp, kProp, noX, eMake, eLc, kLst, iSeq, L3.iZip, kZip, zipL, immS, iRg1, lcNil, lcCons, lcAS, lcBT, lcBF, lcCO, loNil, loCons, loAS, loNx, loCt, loBk, loRt, L3.sFor, sForW, eLcW, wSeq, wZip, kZipW, loopW, lcW, optS, wipeD, gSet, gTupD, gsNil, gsCons, tYes3, eIsi, isiD, kdOf, isK, allB, anyB, sumB, L3.listOf, blsOf, intsOf, asL, bindOk, bindExc, bindStk, toSOk, toSExc, lineOk, addI, subI, negI, mulL, mulR, divI, modI, ltI, leI, gtI, geI, eqI, neI, intB1, intB2, lenTup, lenLst, lenScr, tup0, tup1, tup2, tup3, tup4, tup5, lst0, lst1, lst2, lst3, List.getElem?_cons_zero, List.getElem?_cons_succ, List.getElem?_nil, List.set_cons_zero, List.set_cons_succ, List.length_cons, List.length_nil, List.map_cons, List.map_nil, List.replicate_succ, List.replicate_zero, List.cons_append, List.nil_append, List.append_nil, if_true, if_false, ite_true, ite_false, Bool.false_eq_true, Bool.not_true, Bool.not_false, Bool.true_and, Bool.and_true, Bool.false_and, Bool.and_false, Bool.or_true, Bool.true_or, Bool.false_or, Bool.or_false, and_self, and_true, true_and, Nat.sub_zero, Nat.sub_self, Nat.reduceSub, Nat.reduceAdd, Nat.reduceLeDiff, Nat.reduceEqDiff, decide_true, decide_false, Nat.zero_le]
  simp [int6, hf, runD, startD, endRt, endNx, endExc, seqE, seqNx, seqRt, seqExc, sNil, sPass, sIf, sRet, sRetN, sExpr, sSet, sAsg, sPar, kPar, setAll, sIxS, kSet, L3.sFld, eVar, eC, eBin, eTest, eChain, eUn, tAnd3, tOr3, tNot3, eAnd, eOr, eNot, eIf, aNil, aCons, eTup, eLst, eLstM, eCall, kCall, eMeth, kMeth, clsObj, eB, one, eFld, fldD, fieldAt, L3.putAt, eProp, kProp, noX, eMake, eLc, kLst, iSeq, L3.iZip, kZip, zipL, immS, iRg1, lcNil, lcCons, lcAS, lcBT, lcBF, lcCO, loNil, loCons, loAS, loNx, loCt, loBk, loRt, L3.sFor, sForW, eLcW, wSeq, wZip, kZipW, loopW, lcW, optS, wipeD, gSet, gTupD, gsNil, gsCons, tYes3, eIsi, isiD, kdOf, isK, allB, anyB, sumB, L3.listOf, blsOf, intsOf, asL, bindOk, bindExc, bindStk, toSOk, toSExc, lineOk, addI, subI, negI, mulL, mulR, divI, modI, ltI, leI, gtI, geI, eqI, neI, intB1, intB2, lenTup, lenLst, lenScr, tup0, tup1, tup2, tup3, tup4, tup5, lst0, lst1, lst2, lst3, List.getElem?_cons_zero, List.getElem?_cons_succ, List.getElem?_nil, List.set_cons_zero, List.set_cons_succ, List.length_cons, List.length_nil, List.map_cons, List.map_nil, List.replicate_succ, List.replicate_zero, List.cons_append, List.nil_append, List.append_nil, if_true, if_false, ite_true, ite_false, Bool.false_eq_true, Bool.not_true, Bool.not_false, Bool.true_and, Bool.and_true, Bool.false_and, Bool.and_false, Bool.or_true, Bool.true_or, Bool.false_or, Bool.or_false, and_self, and_true, true_and, Nat.sub_zero, Nat.sub_self, Nat.reduceSub, Nat.reduceAdd, Nat.reduceLeDiff, Nat.reduceEqDiff, decide_true, decide_false, Nat.zero_le]
theorem row_ok (a b c d e f : Int) (h : Hh) : f_eye_row [int6 a b c d e f] h = .ok (int3 a b d) h := by
  simp (disch := omega) [f_eye_row, u_eye_row_1, u_eye_row, int6, int3, runD, startD, endRt, endNx, endExc, seqE, seqNx, seqRt, seqExc, sNil, sPass, sIf, sRet, sRetN, sExpr, sSet, sAsg, sPar, kPar, setAll, sIxS, kSet, L3.sFld, eVar, eC, eBin, eTest, eChain, eUn, tAnd3, tOr3, tNot3, eAnd, eOr, eNot, eIf, aNil, aCons, eTup, eLst, eLstM, eCall, kCall, eMeth, kMeth, clsObj, eB, one, eFld, fldD, fieldAt, L3.putAt, eProp, kProp, noX, eMake, eLc, kLst, iSeq, L3.iZip, kZip, zipL, immS, iRg1, lcNil, lcCons, lcAS, lcBT, lcBF, lcCO, loNil, loCons, loAS, loNx, loCt, loBk, loRt, L3.sFor, sForW, eLcW, wSeq, wZip, kZipW, loopW, lcW, optS, wipeD, gSet, gTupD, gsNil, gsCons, tYes3, eIsi, isiD, kdOf, isK, allB, anyB, sumB, L3.listOf, blsOf, intsOf, asL, bindOk, bindExc, bindStk, toSOk, toSExc, lineOk, addI, subI, negI, mulL, mulR, divI, modI, ltI, leI, gtI, geI, eqI, neI, intB1, intB2, lenTup, lenLst, lenScr, tup0, tup1, tup2, tup3, tup4, tup5, lst0, lst1, lst2, lst3, List.getElem?_cons_zero, List.getElem?_cons_succ, List.getElem?_nil, List.set_cons_zero, List.set_cons_succ, List.length_cons, List.length_nil, List.map_cons, List.map_nil, List.replicate_succ, List.replicate_zero, List.cons_append, List.nil_append, List.append_nil, if_true, if_false, ite_true, ite_false, Bool.false_eq_true, Bool.not_true, Bool.not_false, Bool.true_and, Bool.and_true, Bool.false_and, Bool.and_false, Bool.or_true, Bool.true_or, Bool.false_or, Bool.or_false, and_self, and_true, true_and, Nat.sub_zero, Nat.sub_self, Nat.reduceSub, Nat.reduceAdd, Nat.reduceLeDiff, Nat.reduceEqDiff, decide_true, decide_false, Nat.zero_le]
structure Sm (a b c : Int) : Prop where
  a : -1000 ≤ a ∧ a ≤ 1000
  b : -1000 ≤ b ∧ b ≤ 1000
  c : -1000 ≤ c ∧ c ≤ 1000
theorem crossed_ok {a b c x y z : Int} {h : Hh} (s : Sm a b c) : f_crossed_rows [int3 a b c, int3 x y z] h = .ok (int3 (b * z - c * y) (c * x - a * z) (a * y - b * x)) h := by
  obtain ⟨h1, h2, h3⟩ := s
  simp (disch := omega) [f_crossed_rows, u_crossed_rows_1, u_crossed_rows, int3, runD, startD, endRt, endNx, endExc, seqE, seqNx, seqRt, seqExc, sNil, sPass, sIf, sRet, sRetN, sExpr, sSet, sAsg, sPar, kPar, setAll, sIxS, kSet, L3.sFld, eVar, eC, eBin, eTest, eChain, eUn, tAnd3, tOr3, tNot3, eAnd, eOr, eNot, eIf, aNil, aCons, eTup, eLst, eLstM, eCall, kCall, eMeth, kMeth, clsObj, eB, one, eFld, fldD, fieldAt, L3.putAt, eProp, kProp, noX, eMake, eLc, kLst, iSeq, L3.iZip, kZip, zipL, immS, iRg1, lcNil, lcCons, lcAS, lcBT, lcBF, lcCO, loNil, loCons, loAS, loNx, loCt, loBk, loRt, L3.sFor, sForW, eLcW, wSeq, wZip, kZipW, loopW, lcW, optS, wipeD, gSet, gTupD, gsNil, gsCons, tYes3, eIsi, isiD, kdOf, isK, allB, anyB, sumB, L3.listOf, blsOf, intsOf, asL, bindOk, bindExc, bindStk, toSOk, toSExc, lineOk, addI, subI, negI, mulL, mulR, divI, modI, ltI, leI, gtI, geI, eqI, neI, intB1, intB2, lenTup, lenLst, lenScr, tup0, tup1, tup2, tup3, tup4, tup5, lst0, lst1, lst2, lst3, List.getElem?_cons_zero, List.getElem?_cons_succ, List.getElem?_nil, List.set_cons_zero, List.set_cons_succ, List.length_cons, List.length_nil, List.map_cons, List.map_nil, List.replicate_succ, List.replicate_zero, List.cons_append, List.nil_append, List.append_nil, if_true, if_false, ite_true, ite_false, Bool.false_eq_true, Bool.not_true, Bool.not_false, Bool.true_and, Bool.and_true, Bool.false_and, Bool.and_false, Bool.or_true, Bool.true_or, Bool.false_or, Bool.or_false, and_self, and_true, true_and, Nat.sub_zero, Nat.sub_self, Nat.reduceSub, Nat.reduceAdd, Nat.reduceLeDiff, Nat.reduceEqDiff, decide_true, decide_false, Nat.zero_le]
theorem edge_ok {a b c x y z g : Int} {h : Hh} (s : Sm a b c) (hg : g = 1 ∨ g = -1) : f_linear_edge [int3 a b c, int3 x y z, .int g] h = .ok (int3 (g * 2 * (b * z - c * y)) (g * 2 * (c * x - a * z)) (g * (b * z - c * y + (c * x - a * z) + 2 * (a * y - b * x)))) h := by
  have hg1 : -18446744073709551616 < g ∧ g < 18446744073709551616 := by omega
  simp (disch := omega) [f_linear_edge, u_linear_edge_1, u_linear_edge_2, u_linear_edge, crossed_ok s, runD, startD, endRt, endNx, endExc, seqE, seqNx, seqRt, seqExc, sNil, sPass, sIf, sRet, sRetN, sExpr, sSet, sAsg, sPar, kPar, setAll, sIxS, kSet, L3.sFld, eVar, eC, eBin, eTest, eChain, eUn, tAnd3, tOr3, tNot3, eAnd, eOr, eNot, eIf, aNil, aCons, eTup, eLst, eLstM, eCall, kCall, eMeth, kMeth, clsObj, eB, one, eFld, fldD, fieldAt, L3.putAt, eProp, kProp, noX, eMake, eLc, kLst, iSeq, L3.iZip, kZip, zipL, immS, iRg1, lcNil, lcCons, lcAS, lcBT, lcBF, lcCO, loNil, loCons, loAS, loNx, loCt, loBk, loRt, L3.sFor, sForW, eLcW, wSeq, wZip, kZipW, loopW, lcW, optS, wipeD, gSet, gTupD, gsNil, gsCons, tYes3, eIsi, isiD, kdOf, isK, allB, anyB, sumB, L3.listOf, blsOf, intsOf, asL, bindOk, bindExc, bindStk, toSOk, toSExc, lineOk, addI, subI, negI, mulL, mulR, divI, modI, ltI, leI, gtI, geI, eqI, neI, intB1, intB2, lenTup, lenLst, lenScr, tup0, tup1, tup2, tup3, tup4, tup5, lst0, lst1, lst2, lst3, List.getElem?_cons_zero, List.getElem?_cons_succ, List.getElem?_nil, List.set_cons_zero, List.set_cons_succ, List.length_cons, List.length_nil, List.map_cons, List.map_nil, List.replicate_succ, List.replicate_zero, List.cons_append, List.nil_append, List.append_nil, if_true, if_false, ite_true, ite_false, Bool.false_eq_true, Bool.not_true, Bool.not_false, Bool.true_and, Bool.and_true, Bool.false_and, Bool.and_false, Bool.or_true, Bool.true_or, Bool.false_or, Bool.or_false, and_self, and_true, true_and, Nat.sub_zero, Nat.sub_self, Nat.reduceSub, Nat.reduceAdd, Nat.reduceLeDiff, Nat.reduceEqDiff, decide_true, decide_false, Nat.zero_le]
  simp (disch := omega) [int3, gTupD, gsCons, gSet, gsNil, runD, startD, endRt, endNx, endExc, seqE, seqNx, seqRt, seqExc, sNil, sPass, sIf, sRet, sRetN, sExpr, sSet, sAsg, sPar, kPar, setAll, sIxS, kSet, L3.sFld, eVar, eC, eBin, eTest, eChain, eUn, tAnd3, tOr3, tNot3, eAnd, eOr, eNot, eIf, aNil, aCons, eTup, eLst, eLstM, eCall, kCall, eMeth, kMeth, clsObj, eB, one, eFld, fldD, fieldAt, L3.putAt, eProp, kProp, noX, eMake, eLc, kLst, iSeq, L3.iZip, kZip, zipL, immS, iRg1, lcNil, lcCons, lcAS, lcBT, lcBF, lcCO, loNil, loCons, loAS, loNx, loCt, loBk, loRt, L3.sFor, sForW, eLcW, wSeq, wZip, kZipW, loopW, lcW, optS, wipeD, gSet, gTupD, gsNil, gsCons, tYes3, eIsi, isiD, kdOf, isK, allB, anyB, sumB, L3.listOf, blsOf, intsOf, asL, bindOk, bindExc, bindStk, toSOk, toSExc, lineOk, addI, subI, negI, mulL, mulR, divI, modI, ltI, leI, gtI, geI, eqI, neI, intB1, intB2, lenTup, lenLst, lenScr, tup0, tup1, tup2, tup3, tup4, tup5, lst0, lst1, lst2, lst3, List.getElem?_cons_zero, List.getElem?_cons_succ, List.getElem?_nil, List.set_cons_zero, List.set_cons_succ, List.length_cons, List.length_nil, List.map_cons, List.map_nil, List.replicate_succ, List.replicate_zero, List.cons_append, List.nil_append, List.append_nil, if_true, if_false, ite_true, ite_false, Bool.false_eq_true, Bool.not_true, Bool.not_false, Bool.true_and, Bool.and_true, Bool.false_and, Bool.and_false, Bool.or_true, Bool.true_or, Bool.false_or, Bool.or_false, and_self, and_true, true_and, Nat.sub_zero, Nat.sub_self, Nat.reduceSub, Nat.reduceAdd, Nat.reduceLeDiff, Nat.reduceEqDiff, decide_true, decide_false, Nat.zero_le]
def size9 (a b c x y z u v w : Int) : Int := a * (y * w - z * v) + b * (z * u - x * w) + c * (x * v - y * u)
def sg (n : Int) : Int := if n < 0 then -1 else 1
theorem sg_or (n : Int) : sg n = 1 ∨ sg n = -1 := by unfold sg; split <;> simp
def edg (g a b c x y z : Int) : D := int3 (g * 2 * (b * z - c * y)) (g * 2 * (c * x - a * z)) (g * (b * z - c * y + (c * x - a * z) + 2 * (a * y - b * x)))
/-- a triangle, frozen -/
def triD (p q r : D) (a b c x y z u v w : Int) : D := .obj 0 [.tup [p, q, r], .int (size9 a b c x y z u v w), .tup [edg (sg (size9 a b c x y z u v w)) x y z u v w, edg (sg (size9 a b c x y z u v w)) u v w a b c, edg (sg (size9 a b c x y z u v w)) a b c x y z]]
theorem i30 (a b c : Int) (h : Hh) : ixA (int3 a b c) (.int 0) h = .ok (.int a) h := tup0
theorem i31 (a b c : Int) (h : Hh) : ixA (int3 a b c) (.int 1) h = .ok (.int b) h := tup1
theorem i32 (a b c : Int) (h : Hh) : ixA (int3 a b c) (.int 2) h = .ok (.int c) h := tup2
theorem make_ok {a b c x y z u v w a1 a2 a3 x1 x2 x3 u1 u2 u3 : Int} {h : Hh} (s1 : Sm a b c) (s2 : Sm x y z) (s3 : Sm u v w)
    (k1 : f_is_corner [int6 a b a1 c a2 a3] (h ++ [.obj 0 []]) = .ok (.bl true) (h ++ [.obj 0 []])) (k2 : f_is_corner [int6 x y x1 z x2 x3] (h ++ [.obj 0 []]) = .ok (.bl true) (h ++ [.obj 0 []])) (k3 : f_is_corner [int6 u v u1 w u2 u3] (h ++ [.obj 0 []]) = .ok (.bl true) (h ++ [.obj 0 []])) :
    kMake 0 3 4 f_Triangle___init__ [] [int6 a b a1 c a2 a3, int6 x y x1 z x2 x3, int6 u v u1 w u2 u3] h = .ok (triD (int6 a b a1 c a2 a3) (int6 x y x1 z x2 x3) (int6 u v u1 w u2 u3) a b c x y z u v w) (h ++ [.dead]) := by
  have q1 := s1.a
  have q2 := s1.b
  have q3 := s1.c
  have one1 : (1 : Int) = 1 ∨ (1 : Int) = -1 := .inl rfl
  have one2 : (-1 : Int) = 1 ∨ (-1 : Int) = -1 := .inr rfl
  by_cases hs : a * (y * w - z * v) + b * (z * u - x * w) + c * (x * v - y * u) < 0
  · simp (disch := omega) [kMake, endMake, f_Triangle___init__, u_Triangle___init___1_a_1, u_Triangle___init___1, u_Triangle___init___2, u_Triangle___init___3, u_Triangle___init___4, u_Triangle___init___5, u_Triangle___init___6, u_Triangle___init___7, u_Triangle___init__, k1, k2, k3, ix_corners, ix_own_size, ix_own_edges, set_last, get_last, i30, i31, i32, hs, row_ok, crossed_ok s2, edge_ok s2 one2, edge_ok s3 one2, edge_ok s1 one2, runD, startD, endRt, endNx, endExc, seqE, seqNx, seqRt, seqExc, sNil, sPass, sIf, sRet, sRetN, sExpr, sSet, sAsg, sPar, kPar, setAll, sIxS, kSet, L3.sFld, eVar, eC, eBin, eTest, eChain, eUn, tAnd3, tOr3, tNot3, eAnd, eOr, eNot, eIf, aNil, aCons, eTup, eLst, eLstM, eCall, kCall, eMeth, kMeth, clsObj, eB, one, eFld, fldD, fieldAt, L3.putAt, eProp, kProp, noX, eMake, eLc, kLst, iSeq, L3.iZip, kZip, zipL, immS, iRg1, lcNil, lcCons, lcAS, lcBT, lcBF, lcCO, loNil, loCons, loAS, loNx, loCt, loBk, loRt, L3.sFor, sForW, eLcW, wSeq, wZip, kZipW, loopW, lcW, optS, wipeD, gSet, gTupD, gsNil, gsCons, tYes3, eIsi, isiD, kdOf, isK, allB, anyB, sumB, L3.listOf, blsOf, intsOf, asL, bindOk, bindExc, bindStk, toSOk, toSExc, lineOk, addI, subI, negI, mulL, mulR, divI, modI, ltI, leI, gtI, geI, eqI, neI, intB1, intB2, lenTup, lenLst, lenScr, tup0, tup1, tup2, tup3, tup4, tup5, lst0, lst1, lst2, lst3, List.getElem?_cons_zero, List.getElem?_cons_succ, List.getElem?_nil, List.set_cons_zero, List.set_cons_succ, List.length_cons, List.length_nil, List.map_cons, List.map_nil, List.replicate_succ, List.replicate_zero, List.cons_append, List.nil_append, List.append_nil, if_true, if_false, ite_true, ite_false, Bool.false_eq_true, Bool.not_true, Bool.not_false, Bool.true_and, Bool.and_true, Bool.false_and, Bool.and_false, Bool.or_true, Bool.true_or, Bool.false_or, Bool.or_false, and_self, and_true, true_and, Nat.sub_zero, Nat.sub_self, Nat.reduceSub, Nat.reduceAdd, Nat.reduceLeDiff, Nat.reduceEqDiff, decide_true, decide_false, Nat.zero_le]
    simp [triD, edg, size9, sg, hs]
  · simp (disch := omega) [kMake, endMake, f_Triangle___init__, u_Triangle___init___1_a_1, u_Triangle___init___1, u_Triangle___init___2, u_Triangle___init___3, u_Triangle___init___4, u_Triangle___init___5, u_Triangle___init___6, u_Triangle___init___7, u_Triangle___init__, k1, k2, k3, ix_corners, ix_own_size, ix_own_edges, set_last, get_last, i30, i31, i32, hs, row_ok, crossed_ok s2, edge_ok s2 one1, edge_ok s3 one1, edge_ok s1 one1, runD, startD, endRt, endNx, endExc, seqE, seqNx, seqRt, seqExc, sNil, sPass, sIf, sRet, sRetN, sExpr, sSet, sAsg, sPar, kPar, setAll, sIxS, kSet, L3.sFld, eVar, eC, eBin, eTest, eChain, eUn, tAnd3, tOr3, tNot3, eAnd, eOr, eNot, eIf, aNil, aCons, eTup, eLst, eLstM, eCall, kCall, eMeth, kMeth, clsObj, eB, one, eFld, fldD, fieldAt, L3.putAt, eProp, kProp, noX, eMake, eLc, kLst, iSeq, L3.iZip, kZip, zipL, immS, iRg1, lcNil, lcCons, lcAS, lcBT, lcBF, lcCO, loNil, loCons, loAS, loNx, loCt, loBk, loRt, L3.sFor, sForW, eLcW, wSeq, wZip, kZipW, loopW, lcW, optS, wipeD, gSet, gTupD, gsNil, gsCons, tYes3, eIsi, isiD, kdOf, isK, allB, anyB, sumB, L3.listOf, blsOf, intsOf, asL, bindOk, bindExc, bindStk, toSOk, toSExc, lineOk, addI, subI, negI, mulL, mulR, divI, modI, ltI, leI, gtI, geI, eqI, neI, intB1, intB2, lenTup, lenLst, lenScr, tup0, tup1, tup2, tup3, tup4, tup5, lst0, lst1, lst2, lst3, List.getElem?_cons_zero, List.getElem?_cons_succ, List.getElem?_nil, List.set_cons_zero, List.set_cons_succ, List.length_cons, List.length_nil, List.map_cons, List.map_nil, List.replicate_succ, List.replicate_zero, List.cons_append, List.nil_append, List.append_nil, if_true, if_false, ite_true, ite_false, Bool.false_eq_true, Bool.not_true, Bool.not_false, Bool.true_and, Bool.and_true, Bool.false_and, Bool.and_false, Bool.or_true, Bool.true_or, Bool.false_or, Bool.or_false, and_self, and_true, true_and, Nat.sub_zero, Nat.sub_self, Nat.reduceSub, Nat.reduceAdd, Nat.reduceLeDiff, Nat.reduceEqDiff, decide_true, decide_false, Nat.zero_le]
    simp [triD, edg, size9, sg, hs]
/-! covering -/
def letB (e0 e1 v : Int) : Bool := decide (0 < v) || (decide (v = 0) && (decide (0 < e0) || (decide (e0 = 0) && decide (0 < e1))))
theorem let_ok (a b c v : Int) (h : Hh) : f_is_let_in [int3 a b c, .int v] h = .ok (.bl (letB a b v)) h := by
  by_cases h1 : 0 < v <;> by_cases h2 : v = 0 <;> by_cases h3 : 0 < a <;> by_cases h4 : a = 0 <;> first
    | (exfalso; omega)
    | (simp (disch := omega) [f_is_let_in, u_is_let_in_1, u_is_let_in, letB, i30, i31, h1, h2, h3, h4, runD, startD, endRt, endNx, endExc, seqE, seqNx, seqRt, seqExc, sNil, sPass, sIf, sRet, sRetN, sExpr, sSet, sAsg, sPar, kPar, setAll, sIxS, kSet, L3.sFld, eVar, eC, eBin, eTest, eChain, eUn, tAnd3, tOr3, tNot3, eAnd, eOr, eNot, eIf, aNil, aCons, eTup, eLst, eLstM, eCall, kCall, eMeth, kMeth, clsObj, eB, one, eFld, fldD, fieldAt, L3.putAt, eProp, kProp, noX, eMake, eLc, kLst, iSeq, L3.iZip, kZip, zipL, immS, iRg1, lcNil, lcCons, lcAS, lcBT, lcBF, lcCO, loNil, loCons, loAS, loNx, loCt, loBk, loRt, L3.sFor, sForW, eLcW, wSeq, wZip, kZipW, loopW, lcW, optS, wipeD, gSet, gTupD, gsNil, gsCons, tYes3, eIsi, isiD, kdOf, isK, allB, anyB, sumB, L3.listOf, blsOf, intsOf, asL, bindOk, bindExc, bindStk, toSOk, toSExc, lineOk, addI, subI, negI, mulL, mulR, divI, modI, ltI, leI, gtI, geI, eqI, neI, intB1, intB2, lenTup, lenLst, lenScr, tup0, tup1, tup2, tup3, tup4, tup5, lst0, lst1, lst2, lst3, List.getElem?_cons_zero, List.getElem?_cons_succ, List.getElem?_nil, List.set_cons_zero, List.set_cons_succ, List.length_cons, List.length_nil, List.map_cons, List.map_nil, List.replicate_succ, List.replicate_zero, List.cons_append, List.nil_append, List.append_nil, if_true, if_false, ite_true, ite_false, Bool.false_eq_true, Bool.not_true, Bool.not_false, Bool.true_and, Bool.and_true, Bool.false_and, Bool.and_false, Bool.or_true, Bool.true_or, Bool.false_or, Bool.or_false, and_self, and_true, true_and, Nat.sub_zero, Nat.sub_self, Nat.reduceSub, Nat.reduceAdd, Nat.reduceLeDiff, Nat.reduceEqDiff, decide_true, decide_false, Nat.zero_le]; done)
theorem place_ok {i j : Int} {h : Hh} (hi : -1000 ≤ i ∧ i ≤ 1000) (hj : -1000 ≤ j ∧ j ≤ 1000) : f_need_whole_place [.tup [.int i, .int j]] h = .ok .non h := by
  have h1 : f_are_whole_in [.tup [.int i, .int j], .int 2, .int (-1000), .int 1000] h = .ok (.bl true) h := by
    rw [are2_ok]
    simp [betw, hi, hj]
  simp (disch := omega) [f_need_whole_place, u_need_whole_place_1_a_1, u_need_whole_place_1, u_need_whole_place, c_MAX_NUMBER, h1, runD, startD, endRt, endNx, endExc, seqE, seqNx, seqRt, seqExc, sNil, sPass, sIf, sRet, sRetN, sExpr, sSet, sAsg, sPar, kPar, setAll, sIxS, kSet, L3.sFld, eVar, eC, eBin, eTest, eChain, eUn, tAnd3, tOr3, tNot3, eAnd, eOr, eNot, eIf, aNil, aCons, eTup, eLst, eLstM, eCall, kCall, eMeth, kMeth, clsObj, eB, one, eFld, fldD, fieldAt, L3.putAt, eProp, kProp, noX, eMake, eLc, kLst, iSeq, L3.iZip, kZip, zipL, immS, iRg1, lcNil, lcCons, lcAS, lcBT, lcBF, lcCO, loNil, loCons, loAS, loNx, loCt, loBk, loRt, L3.sFor, sForW, eLcW, wSeq, wZip, kZipW, loopW, lcW, optS, wipeD, gSet, gTupD, gsNil, gsCons, tYes3, eIsi, isiD, kdOf, isK, allB, anyB, sumB, L3.listOf, blsOf, intsOf, asL, bindOk, bindExc, bindStk, toSOk, toSExc, lineOk, addI, subI, negI, mulL, mulR, divI, modI, ltI, leI, gtI, geI, eqI, neI, intB1, intB2, lenTup, lenLst, lenScr, tup0, tup1, tup2, tup3, tup4, tup5, lst0, lst1, lst2, lst3, List.getElem?_cons_zero, List.getElem?_cons_succ, List.getElem?_nil, List.set_cons_zero, List.set_cons_succ, List.length_cons, List.length_nil, List.map_cons, List.map_nil, List.replicate_succ, List.replicate_zero, List.cons_append, List.nil_append, List.append_nil, if_true, if_false, ite_true, ite_false, Bool.false_eq_true, Bool.not_true, Bool.not_false, Bool.true_and, Bool.and_true, Bool.false_and, Bool.and_false, Bool.or_true, Bool.true_or, Bool.false_or, Bool.or_false, and_self, and_true, true_and, Nat.sub_zero, Nat.sub_self, Nat.reduceSub, Nat.reduceAdd, Nat.reduceLeDiff, Nat.reduceEqDiff, decide_true, decide_false, Nat.zero_le]
/-- a triangle by its edges -/
def objD (cs : D) (n : Int) (a b c x y z u v w : Int) : D := .obj 0 [cs, .int n, .tup [int3 a b c, int3 x y z, int3 u v w]]
theorem values_ok {cs : D} {n a b c x y z u v w i j : Int} {h : Hh} (hi : -1000 ≤ i ∧ i ≤ 1000) (hj : -1000 ≤ j ∧ j ≤ 1000) :
    f_Triangle_values_at [objD cs n a b c x y z u v w, .tup [.int i, .int j]] h = .ok (.lst [.int (a * i + b * j + c), .int (x * i + y * j + z), .int (u * i + v * j + w)]) h := by
  simp (disch := omega) [f_Triangle_values_at, u_Triangle_values_at_1, u_Triangle_values_at_2, u_Triangle_values_at, objD, int3, ix_own_edges, runD, startD, endRt, endNx, endExc, seqE, seqNx, seqRt, seqExc, sNil, sPass, sIf, sRet, sRetN, sExpr, sSet, sAsg, sPar, kPar, setAll, sIxS, kSet, L3.sFld, eVar, eC, eBin, eTest, eChain, eUn, tAnd3, tOr3, tNot3, eAnd, eOr, eNot, eIf, aNil, aCons, eTup, eLst, eLstM, eCall, kCall, eMeth, kMeth, clsObj, eB, one, eFld, fldD, fieldAt, L3.putAt, eProp, kProp, noX, eMake, eLc, kLst, iSeq, L3.iZip, kZip, zipL, immS, iRg1, lcNil, lcCons, lcAS, lcBT, lcBF, lcCO, loNil, loCons, loAS, loNx, loCt, loBk, loRt, L3.sFor, sForW, eLcW, wSeq, wZip, kZipW, loopW, lcW, optS, wipeD, gSet, gTupD, gsNil, gsCons, tYes3, eIsi, isiD, kdOf, isK, allB, anyB, sumB, L3.listOf, blsOf, intsOf, asL, bindOk, bindExc, bindStk, toSOk, toSExc, lineOk, addI, subI, negI, mulL, mulR, divI, modI, ltI, leI, gtI, geI, eqI, neI, intB1, intB2, lenTup, lenLst, lenScr, tup0, tup1, tup2, tup3, tup4, tup5, lst0, lst1, lst2, lst3, List.getElem?_cons_zero, List.getElem?_cons_succ, List.getElem?_nil, List.set_cons_zero, List.set_cons_succ, List.length_cons, List.length_nil, List.map_cons, List.map_nil, List.replicate_succ, List.replicate_zero, List.cons_append, List.nil_append, List.append_nil, if_true, if_false, ite_true, ite_false, Bool.false_eq_true, Bool.not_true, Bool.not_false, Bool.true_and, Bool.and_true, Bool.false_and, Bool.and_false, Bool.or_true, Bool.true_or, Bool.false_or, Bool.or_false, and_self, and_true, true_and, Nat.sub_zero, Nat.sub_self, Nat.reduceSub, Nat.reduceAdd, Nat.reduceLeDiff, Nat.reduceEqDiff, decide_true, decide_false, Nat.zero_le]
theorem over_ok (cs : D) (n a b c x y z u v w p q r : Int) (h : Hh) : f_Triangle_is_over [objD cs n a b c x y z u v w, .lst [.int p, .int q, .int r]] h = .ok (.bl (!decide (n = 0) && (letB a b p && (letB x y q && letB u v r)))) h := by
  by_cases hn : n = 0
  · simp (disch := omega) [f_Triangle_is_over, u_Triangle_is_over_1, u_Triangle_is_over, objD, ix_own_size, hn, runD, startD, endRt, endNx, endExc, seqE, seqNx, seqRt, seqExc, sNil, sPass, sIf, sRet, sRetN, sExpr, sSet, sAsg, sPar, kPar, setAll, sIxS, kSet, L3.sFld, eVar, eC, eBin, eTest, eChain, eUn, tAnd3, tOr3, tNot3, eAnd, eOr, eNot, eIf, aNil, aCons, eTup, eLst, eLstM, eCall, kCall, eMeth, kMeth, clsObj, eB, one, eFld, fldD, fieldAt, L3.putAt, eProp, kProp, noX, eMake, eLc, kLst, iSeq, L3.iZip, kZip, zipL, immS, iRg1, lcNil, lcCons, lcAS, lcBT, lcBF, lcCO, loNil, loCons, loAS, loNx, loCt, loBk, loRt, L3.sFor, sForW, eLcW, wSeq, wZip, kZipW, loopW, lcW, optS, wipeD, gSet, gTupD, gsNil, gsCons, tYes3, eIsi, isiD, kdOf, isK, allB, anyB, sumB, L3.listOf, blsOf, intsOf, asL, bindOk, bindExc, bindStk, toSOk, toSExc, lineOk, addI, subI, negI, mulL, mulR, divI, modI, ltI, leI, gtI, geI, eqI, neI, intB1, intB2, lenTup, lenLst, lenScr, tup0, tup1, tup2, tup3, tup4, tup5, lst0, lst1, lst2, lst3, List.getElem?_cons_zero, List.getElem?_cons_succ, List.getElem?_nil, List.set_cons_zero, List.set_cons_succ, List.length_cons, List.length_nil, List.map_cons, List.map_nil, List.replicate_succ, List.replicate_zero, List.cons_append, List.nil_append, List.append_nil, if_true, if_false, ite_true, ite_false, Bool.false_eq_true, Bool.not_true, Bool.not_false, Bool.true_and, Bool.and_true, Bool.false_and, Bool.and_false, Bool.or_true, Bool.true_or, Bool.false_or, Bool.or_false, and_self, and_true, true_and, Nat.sub_zero, Nat.sub_self, Nat.reduceSub, Nat.reduceAdd, Nat.reduceLeDiff, Nat.reduceEqDiff, decide_true, decide_false, Nat.zero_le]
  · simp (disch := omega) [f_Triangle_is_over, u_Triangle_is_over_1, u_Triangle_is_over, objD, ix_own_size, ix_own_edges, hn, let_ok, runD, startD, endRt, endNx, endExc, seqE, seqNx, seqRt, seqExc, sNil, sPass, sIf, sRet, sRetN, sExpr, sSet, sAsg, sPar, kPar, setAll, sIxS, kSet, L3.sFld, eVar, eC, eBin, eTest, eChain, eUn, tAnd3, tOr3, tNot3, eAnd, eOr, eNot, eIf, aNil, aCons, eTup, eLst, eLstM, eCall, kCall, eMeth, kMeth, clsObj, eB, one, eFld, fldD, fieldAt, L3.putAt, eProp, kProp, noX, eMake, eLc, kLst, iSeq, L3.iZip, kZip, zipL, immS, iRg1, lcNil, lcCons, lcAS, lcBT, lcBF, lcCO, loNil, loCons, loAS, loNx, loCt, loBk, loRt, L3.sFor, sForW, eLcW, wSeq, wZip, kZipW, loopW, lcW, optS, wipeD, gSet, gTupD, gsNil, gsCons, tYes3, eIsi, isiD, kdOf, isK, allB, anyB, sumB, L3.listOf, blsOf, intsOf, asL, bindOk, bindExc, bindStk, toSOk, toSExc, lineOk, addI, subI, negI, mulL, mulR, divI, modI, ltI, leI, gtI, geI, eqI, neI, intB1, intB2, lenTup, lenLst, lenScr, tup0, tup1, tup2, tup3, tup4, tup5, lst0, lst1, lst2, lst3, List.getElem?_cons_zero, List.getElem?_cons_succ, List.getElem?_nil, List.set_cons_zero, List.set_cons_succ, List.length_cons, List.length_nil, List.map_cons, List.map_nil, List.replicate_succ, List.replicate_zero, List.cons_append, List.nil_append, List.append_nil, if_true, if_false, ite_true, ite_false, Bool.false_eq_true, Bool.not_true, Bool.not_false, Bool.true_and, Bool.and_true, Bool.false_and, Bool.and_false, Bool.or_true, Bool.true_or, Bool.false_or, Bool.or_false, and_self, and_true, true_and, Nat.sub_zero, Nat.sub_self, Nat.reduceSub, Nat.reduceAdd, Nat.reduceLeDiff, Nat.reduceEqDiff, decide_true, decide_false, Nat.zero_le]
def covB (n a b c x y z u v w i j : Int) : Bool := !decide (n = 0) && (letB a b (a * i + b * j + c) && (letB x y (x * i + y * j + z) && letB u v (u * i + v * j + w)))
theorem covers_ok {cs : D} {n a b c x y z u v w i j : Int} {h : Hh} (hi : -1000 ≤ i ∧ i ≤ 1000) (hj : -1000 ≤ j ∧ j ≤ 1000) :
    f_Triangle_covers [objD cs n a b c x y z u v w, .tup [.int i, .int j]] h = .ok (.bl (covB n a b c x y z u v w i j)) h := by
  have e : clsOf h (objD cs n a b c x y z u v w) = some 0 := rfl
  simp (disch := omega) [f_Triangle_covers, u_Triangle_covers_1, u_Triangle_covers_2, u_Triangle_covers, place_ok hi hj, values_ok hi hj, over_ok, e, covB, runD, startD, endRt, endNx, endExc, seqE, seqNx, seqRt, seqExc, sNil, sPass, sIf, sRet, sRetN, sExpr, sSet, sAsg, sPar, kPar, setAll, sIxS, kSet, L3.sFld, eVar, eC, eBin, eTest, eChain, eUn, tAnd3, tOr3, tNot3, eAnd, eOr, eNot, eIf, aNil, aCons, eTup, eLst, eLstM, eCall, kCall, eMeth, kMeth, clsObj, eB, one, eFld, fldD, fieldAt, L3.putAt, eProp, kProp, noX, eMake, eLc, kLst, iSeq, L3.iZip, kZip, zipL, immS, iRg1, lcNil, lcCons, lcAS, lcBT, lcBF, lcCO, loNil, loCons, loAS, loNx, loCt, loBk, loRt, L3.sFor, sForW, eLcW, wSeq, wZip, kZipW, loopW, lcW, optS, wipeD, gSet, gTupD, gsNil, gsCons, tYes3, eIsi, isiD, kdOf, isK, allB, anyB, sumB, L3.listOf, blsOf, intsOf, asL, bindOk, bindExc, bindStk, toSOk, toSExc, lineOk, addI, subI, negI, mulL, mulR, divI, modI, ltI, leI, gtI, geI, eqI, neI, intB1, intB2, lenTup, lenLst, lenScr, tup0, tup1, tup2, tup3, tup4, tup5, lst0, lst1, lst2, lst3, List.getElem?_cons_zero, List.getElem?_cons_succ, List.getElem?_nil, List.set_cons_zero, List.set_cons_succ, List.length_cons, List.length_nil, List.map_cons, List.map_nil, List.replicate_succ, List.replicate_zero, List.cons_append, List.nil_append, List.append_nil, if_true, if_false, ite_true, ite_false, Bool.false_eq_true, Bool.not_true, Bool.not_false, Bool.true_and, Bool.and_true, Bool.false_and, Bool.and_false, Bool.or_true, Bool.true_or, Bool.false_or, Bool.or_false, and_self, and_true, true_and, Nat.sub_zero, Nat.sub_self, Nat.reduceSub, Nat.reduceAdd, Nat.reduceLeDiff, Nat.reduceEqDiff, decide_true, decide_false, Nat.zero_le]
end Lw
set_option autoImplicit false
set_option maxHeartbeats 8000000
set_option autoImplicit true
namespace Lw
open PySem PySem.Spec L2 L3
def pos3 (l x y : Int) : Prop := 0 < l ∨ (l = 0 ∧ (0 < x ∨ (x = 0 ∧ 0 < y)))
instance (l x y : Int) : Decidable (pos3 l x y) := by unfold pos3; infer_instance
theorem letB_pos (e0 e1 v : Int) : letB e0 e1 v = decide (pos3 v e0 e1) := by
  rw [Bool.eq_iff_iff, decide_eq_true_iff]
  simp [letB, pos3]
/-! fragments -/
def absI' (n : Int) : Int := if n < 0 then -n else n
def bnd7 (t : Int) : Int := if (if t < 7 then t else 7) > 0 then (if t < 7 then t else 7) else 0
/-- the fragment by values, where the triangle is over the place -/
def fragV (n p q r z1 z2 z3 c1 c2 c3 t1 t2 t3 : Int) : D :=
  if 0 ≤ (p * z1 + (q * z2 + r * z3)) / (2 * absI' n) ∧ (p * z1 + (q * z2 + r * z3)) / (2 * absI' n) < 8
  then .tup [.int (bnd7 ((p * c1 + (q * c2 + r * c3)) / (p * t1 + (q * t2 + r * t3)))), .int ((p * z1 + (q * z2 + r * z3)) / (2 * absI' n))] else .non
structure Wo (z c t : Int) : Prop where
  z : -1000 ≤ z ∧ z ≤ 1000
  c : -1000 ≤ c ∧ c ≤ 1000
  t : 1 ≤ t ∧ t ≤ 1000
/-! corners, triangles, coverings, fragments: plain -/
structure Cn where
  X : Int
  Y : Int
  Z : Int
  W : Int
  C : Int
  S : Int
def Cn.d (p : Cn) : D := int6 p.X p.Y p.Z p.W p.C p.S
structure Cn.Ok (p : Cn) : Prop where
  x : -1000 ≤ p.X ∧ p.X ≤ 1000
  y : -1000 ≤ p.Y ∧ p.Y ≤ 1000
  z : -1000 ≤ p.Z ∧ p.Z ≤ 1000
  w : -1000 ≤ p.W ∧ p.W ≤ 1000
  c : -1000 ≤ p.C ∧ p.C ≤ 1000
  s : 1 ≤ p.S ∧ p.S ≤ 1000
def det (p q r : Cn) : Int := size9 p.X p.Y p.W q.X q.Y q.W r.X r.Y r.W
def exx (q r : Cn) : Int := q.Y * r.W - q.W * r.Y
def exy (q r : Cn) : Int := q.W * r.X - q.X * r.W
def exw (q r : Cn) : Int := q.X * r.Y - q.Y * r.X
def ev (q r : Cn) (i j : Int) : Int := (2 * i + 1) * exx q r + (2 * j + 1) * exy q r + 2 * exw q r
def lt (g : Int) (q r : Cn) (i j : Int) : Prop := pos3 (g * ev q r i j) (g * exx q r) (g * exy q r)
instance (g : Int) (q r : Cn) (i j : Int) : Decidable (lt g q r i j) := by unfold lt; infer_instance
def cov (p q r : Cn) (i j : Int) : Bool := decide (det p q r ≠ 0 ∧ lt (sg (det p q r)) q r i j ∧ lt (sg (det p q r)) r p i j ∧ lt (sg (det p q r)) p q i j)
def frag (p q r : Cn) (i j : Int) : D := if cov p q r i j = true then fragV (det p q r) (sg (det p q r) * ev q r i j) (sg (det p q r) * ev r p i j) (sg (det p q r) * ev p q i j) p.Z q.Z r.Z p.C q.C r.C p.S q.S r.S else .non
def tri (p q r : Cn) : D := triD p.d q.d r.d p.X p.Y p.W q.X q.Y q.W r.X r.Y r.W
theorem Cn.Ok.sm {p : Cn} (o : p.Ok) : Sm p.X p.Y p.W := ⟨o.x, o.y, o.w⟩
theorem Cn.Ok.wo {p : Cn} (o : p.Ok) : Wo p.Z p.C p.S := ⟨o.z, o.c, o.s⟩
theorem Cn.Ok.cor {p : Cn} (o : p.Ok) (h : Hh) : f_is_corner [p.d] h = .ok (.bl true) h := corner_ok o.x o.y o.z o.w o.c o.s
theorem tri_ok {p q r : Cn} {h : Hh} (o1 : p.Ok) (o2 : q.Ok) (o3 : r.Ok) : kMake 0 3 4 f_Triangle___init__ [] [p.d, q.d, r.d] h = .ok (tri p q r) (h ++ [.dead]) := make_ok o1.sm o2.sm o3.sm (o1.cor _) (o2.cor _) (o3.cor _)
theorem pos3_k {k l x y : Int} (hk : 0 < k) : pos3 (k * l) (k * x) (k * y) ↔ pos3 l x y := by
  have a : ∀ n : Int, 0 < k * n ↔ 0 < n := fun n => by
    constructor
    · intro h
      rcases Int.lt_trichotomy n 0 with z | z | z
      · have := Int.mul_neg_of_pos_of_neg hk z; omega
      · subst z; simp at h
      · exact z
    · exact Int.mul_pos hk
  have b : ∀ n : Int, k * n = 0 ↔ n = 0 := fun n => by
    rw [Int.mul_eq_zero]; omega
  unfold pos3
  rw [a, a, a, b, b]
theorem edge_is (g : Int) (q r : Cn) (i j : Int) : g * 2 * (q.Y * r.W - q.W * r.Y) * i + g * 2 * (q.W * r.X - q.X * r.W) * j + g * (q.Y * r.W - q.W * r.Y + (q.W * r.X - q.X * r.W) + 2 * (q.X * r.Y - q.Y * r.X)) = g * ev q r i j := by
  unfold ev exx exy exw; grind
theorem let_is (g : Int) (q r : Cn) (i j : Int) : letB (g * 2 * (q.Y * r.W - q.W * r.Y)) (g * 2 * (q.W * r.X - q.X * r.W)) (g * 2 * (q.Y * r.W - q.W * r.Y) * i + g * 2 * (q.W * r.X - q.X * r.W) * j + g * (q.Y * r.W - q.W * r.Y + (q.W * r.X - q.X * r.W) + 2 * (q.X * r.Y - q.Y * r.X))) = decide (lt g q r i j) := by
  rw [letB_pos, edge_is, decide_eq_decide]
  unfold lt exx exy
  generalize g * ev q r i j = V
  rw [show g * 2 * (q.Y * r.W - q.W * r.Y) = 2 * (g * (q.Y * r.W - q.W * r.Y)) by grind, show g * 2 * (q.W * r.X - q.X * r.W) = 2 * (g * (q.W * r.X - q.X * r.W)) by grind]
  unfold pos3
  omega
theorem covB_is (p q r : Cn) (i j : Int) : covB (det p q r)
    (sg (det p q r) * 2 * (q.Y * r.W - q.W * r.Y)) (sg (det p q r) * 2 * (q.W * r.X - q.X * r.W)) (sg (det p q r) * (q.Y * r.W - q.W * r.Y + (q.W * r.X - q.X * r.W) + 2 * (q.X * r.Y - q.Y * r.X)))
    (sg (det p q r) * 2 * (r.Y * p.W - r.W * p.Y)) (sg (det p q r) * 2 * (r.W * p.X - r.X * p.W)) (sg (det p q r) * (r.Y * p.W - r.W * p.Y + (r.W * p.X - r.X * p.W) + 2 * (r.X * p.Y - r.Y * p.X)))
    (sg (det p q r) * 2 * (p.Y * q.W - p.W * q.Y)) (sg (det p q r) * 2 * (p.W * q.X - p.X * q.W)) (sg (det p q r) * (p.Y * q.W - p.W * q.Y + (p.W * q.X - p.X * q.W) + 2 * (p.X * q.Y - p.Y * q.X))) i j = cov p q r i j := by
  unfold covB cov
  rw [let_is, let_is, let_is, Bool.eq_iff_iff]
  simp
theorem tri_is (p q r : Cn) : tri p q r = objD (.tup [p.d, q.d, r.d]) (det p q r)
    (sg (det p q r) * 2 * (q.Y * r.W - q.W * r.Y)) (sg (det p q r) * 2 * (q.W * r.X - q.X * r.W)) (sg (det p q r) * (q.Y * r.W - q.W * r.Y + (q.W * r.X - q.X * r.W) + 2 * (q.X * r.Y - q.Y * r.X)))
    (sg (det p q r) * 2 * (r.Y * p.W - r.W * p.Y)) (sg (det p q r) * 2 * (r.W * p.X - r.X * p.W)) (sg (det p q r) * (r.Y * p.W - r.W * p.Y + (r.W * p.X - r.X * p.W) + 2 * (r.X * p.Y - r.Y * p.X)))
    (sg (det p q r) * 2 * (p.Y * q.W - p.W * q.Y)) (sg (det p q r) * 2 * (p.W * q.X - p.X * q.W)) (sg (det p q r) * (p.Y * q.W - p.W * q.Y + (p.W * q.X - p.X * q.W) + 2 * (p.X * q.Y - p.Y * q.X))) := rfl
theorem cov_ok {p q r : Cn} {i j : Int} {h : Hh} (hi : -1000 ≤ i ∧ i ≤ 1000) (hj : -1000 ≤ j ∧ j ≤ 1000) : f_Triangle_covers [tri p q r, .tup [.int i, .int j]] h = .ok (.bl (cov p q r i j)) h := by
  rw [tri_is, covers_ok hi hj, covB_is]
/-- a bound of a product -/
theorem mbd {a b A B : Int} (ha : -A ≤ a ∧ a ≤ A) (hb : -B ≤ b ∧ b ≤ B) : -(A * B) ≤ a * b ∧ a * b ≤ A * B := by
  obtain ⟨l1, l2⟩ := ha
  obtain ⟨m1, m2⟩ := hb
  have p1 : 0 ≤ (A - a) * (B + b) := Int.mul_nonneg (by omega) (by omega)
  have p2 : 0 ≤ (A + a) * (B - b) := Int.mul_nonneg (by omega) (by omega)
  have p3 : 0 ≤ (A - a) * (B - b) := Int.mul_nonneg (by omega) (by omega)
  have p4 : 0 ≤ (A + a) * (B + b) := Int.mul_nonneg (by omega) (by omega)
  rw [Int.sub_mul, Int.mul_add, Int.mul_add] at p1
  rw [Int.add_mul, Int.mul_sub, Int.mul_sub] at p2
  rw [Int.sub_mul, Int.mul_sub, Int.mul_sub] at p3
  rw [Int.add_mul, Int.mul_add, Int.mul_add] at p4
  constructor <;> omega
theorem exx_bd {q r : Cn} (o1 : q.Ok) (o2 : r.Ok) : -2000000 ≤ exx q r ∧ exx q r ≤ 2000000 := by
  have a := mbd (A := 1000) (B := 1000) o1.y o2.w
  have b := mbd (A := 1000) (B := 1000) o1.w o2.y
  unfold exx; omega
theorem exy_bd {q r : Cn} (o1 : q.Ok) (o2 : r.Ok) : -2000000 ≤ exy q r ∧ exy q r ≤ 2000000 := by
  have a := mbd (A := 1000) (B := 1000) o1.w o2.x
  have b := mbd (A := 1000) (B := 1000) o1.x o2.w
  unfold exy; omega
theorem exw_bd {q r : Cn} (o1 : q.Ok) (o2 : r.Ok) : -2000000 ≤ exw q r ∧ exw q r ≤ 2000000 := by
  have a := mbd (A := 1000) (B := 1000) o1.x o2.y
  have b := mbd (A := 1000) (B := 1000) o1.y o2.x
  unfold exw; omega
theorem ev_bd {q r : Cn} (o1 : q.Ok) (o2 : r.Ok) {i j : Int} (hi : -1000 ≤ i ∧ i ≤ 1000) (hj : -1000 ≤ j ∧ j ≤ 1000) : -9000000000 ≤ ev q r i j ∧ ev q r i j ≤ 9000000000 := by
  have a := mbd (A := 2001) (B := 2000000) (a := 2 * i + 1) (by omega) (exx_bd o1 o2)
  have b := mbd (A := 2001) (B := 2000000) (a := 2 * j + 1) (by omega) (exy_bd o1 o2)
  have c := exw_bd o1 o2
  unfold ev; omega
theorem det_is (p q r : Cn) : det p q r = p.X * exx q r + p.Y * exy q r + p.W * exw q r := by
  unfold det size9 exx exy exw; grind
theorem det_bd {p q r : Cn} (o1 : p.Ok) (o2 : q.Ok) (o3 : r.Ok) : -6000000000 ≤ det p q r ∧ det p q r ≤ 6000000000 := by
  have a := mbd (A := 1000) (B := 2000000) o1.x (exx_bd o2 o3)
  have b := mbd (A := 1000) (B := 2000000) o1.y (exy_bd o2 o3)
  have c := mbd (A := 1000) (B := 2000000) o1.w (exw_bd o2 o3)
  rw [det_is]; omega
theorem sg_mul_bd {n m A : Int} (h : -A ≤ m ∧ m ≤ A) : -A ≤ sg n * m ∧ sg n * m ≤ A := by
  rcases sg_or n with e | e <;> rw [e] <;> omega
/-- three weights times W come to the middle's -/
theorem sum_w (p q r : Cn) (i j : Int) : p.W * ev q r i j + q.W * ev r p i j + r.W * ev p q i j = 2 * det p q r := by
  unfold det size9 ev exx exy exw; grind
theorem lt_nn {g : Int} {q r : Cn} {i j : Int} (h : lt g q r i j) : 0 ≤ g * ev q r i j := by
  unfold lt pos3 at h; omega
theorem cov_t {p q r : Cn} {i j : Int} (h : cov p q r i j = true) : det p q r ≠ 0 ∧ lt (sg (det p q r)) q r i j ∧ lt (sg (det p q r)) r p i j ∧ lt (sg (det p q r)) p q i j := of_decide_eq_true h
theorem abs_sg (n : Int) : sg n * n = absI' n := by
  unfold sg absI'; split <;> omega
end Lw
set_option autoImplicit false
set_option maxHeartbeats 8000000
set_option autoImplicit true
namespace Lw
open PySem PySem.Spec L2 L3
/-! corners multiplied, turned, exchanged -/
def sc (k : Int) (p : Cn) : Cn := ⟨k * p.X, k * p.Y, k * p.Z, k * p.W, k * p.C, k * p.S⟩
theorem det_sc (k : Int) (p q r : Cn) : det (sc k p) q r = k * det p q r := by unfold det size9 sc; grind
theorem exx_l (k : Int) (q r : Cn) : exx (sc k q) r = k * exx q r := by unfold exx sc; grind
theorem exy_l (k : Int) (q r : Cn) : exy (sc k q) r = k * exy q r := by unfold exy sc; grind
theorem exw_l (k : Int) (q r : Cn) : exw (sc k q) r = k * exw q r := by unfold exw sc; grind
theorem exx_r (k : Int) (q r : Cn) : exx q (sc k r) = k * exx q r := by unfold exx sc; grind
theorem exy_r (k : Int) (q r : Cn) : exy q (sc k r) = k * exy q r := by unfold exy sc; grind
theorem exw_r (k : Int) (q r : Cn) : exw q (sc k r) = k * exw q r := by unfold exw sc; grind
theorem ev_l (k : Int) (q r : Cn) (i j : Int) : ev (sc k q) r i j = k * ev q r i j := by unfold ev; rw [exx_l, exy_l, exw_l]; grind
theorem ev_r (k : Int) (q r : Cn) (i j : Int) : ev q (sc k r) i j = k * ev q r i j := by unfold ev; rw [exx_r, exy_r, exw_r]; grind
theorem exx_sw (q r : Cn) : exx r q = - exx q r := by unfold exx; grind
theorem exy_sw (q r : Cn) : exy r q = - exy q r := by unfold exy; grind
theorem exw_sw (q r : Cn) : exw r q = - exw q r := by unfold exw; grind
theorem ev_sw (q r : Cn) (i j : Int) : ev r q i j = - ev q r i j := by unfold ev; rw [exx_sw, exy_sw, exw_sw]; grind
theorem det_rot (p q r : Cn) : det q r p = det p q r := by unfold det size9; grind
theorem det_sw (p q r : Cn) : det q p r = - det p q r := by unfold det size9; grind
theorem sg_k {k : Int} (hk : 0 < k) (n : Int) : sg (k * n) = sg n := by
  unfold sg
  by_cases h : n < 0
  · rw [if_pos h, if_pos (Int.mul_neg_of_pos_of_neg hk h)]
  · rw [if_neg h, if_neg]
    have := Int.mul_nonneg (show 0 ≤ k by omega) (show 0 ≤ n by omega)
    omega
theorem sg_neg {n : Int} (h : n ≠ 0) : sg (-n) = - sg n := by unfold sg; split <;> split <;> omega
theorem abs_k {k : Int} (hk : 0 < k) (n : Int) : absI' (k * n) = k * absI' n := by rw [← abs_sg, ← abs_sg, sg_k hk]; grind
theorem abs_neg (n : Int) : absI' (-n) = absI' n := by unfold absI'; split <;> split <;> omega
theorem lt_l {k : Int} (hk : 0 < k) (g : Int) (q r : Cn) (i j : Int) : lt g (sc k q) r i j ↔ lt g q r i j := by
  unfold lt
  rw [ev_l, exx_l, exy_l, show g * (k * ev q r i j) = k * (g * ev q r i j) by grind, show g * (k * exx q r) = k * (g * exx q r) by grind, show g * (k * exy q r) = k * (g * exy q r) by grind]
  exact pos3_k hk
theorem lt_r {k : Int} (hk : 0 < k) (g : Int) (q r : Cn) (i j : Int) : lt g q (sc k r) i j ↔ lt g q r i j := by
  unfold lt
  rw [ev_r, exx_r, exy_r, show g * (k * ev q r i j) = k * (g * ev q r i j) by grind, show g * (k * exx q r) = k * (g * exx q r) by grind, show g * (k * exy q r) = k * (g * exy q r) by grind]
  exact pos3_k hk
theorem lt_sw (g : Int) (q r : Cn) (i j : Int) : lt (-g) r q i j ↔ lt g q r i j := by
  unfold lt
  rw [ev_sw, exx_sw, exy_sw, Int.neg_mul_neg, Int.neg_mul_neg, Int.neg_mul_neg]
theorem mul_ne {k n : Int} (hk : 0 < k) : k * n ≠ 0 ↔ n ≠ 0 := by
  rw [Ne, Int.mul_eq_zero]; omega
theorem cov_sc {k : Int} (hk : 0 < k) (p q r : Cn) (i j : Int) : cov (sc k p) q r i j = cov p q r i j := by
  unfold cov
  rw [decide_eq_decide, det_sc, sg_k hk, mul_ne hk, lt_r hk, lt_l hk]
theorem cov_rot (p q r : Cn) (i j : Int) : cov q r p i j = cov p q r i j := by
  unfold cov
  rw [decide_eq_decide, det_rot]
  constructor
  · exact fun ⟨a, b, c, d⟩ => ⟨a, d, b, c⟩
  · exact fun ⟨a, b, c, d⟩ => ⟨a, c, d, b⟩
theorem cov_sw (p q r : Cn) (i j : Int) : cov q p r i j = cov p q r i j := by
  unfold cov
  rw [decide_eq_decide, det_sw]
  constructor
  · intro ⟨a, b, c, d⟩
    have n : det p q r ≠ 0 := by omega
    rw [sg_neg n, lt_sw] at b c d
    exact ⟨n, c, b, d⟩
  · intro ⟨n, b, c, d⟩
    rw [sg_neg n, lt_sw, lt_sw, lt_sw]
    exact ⟨by omega, c, b, d⟩
/-- the fragment by three sums -/
def fragW (m dz dc ds : Int) : D := if 0 ≤ dz / m ∧ dz / m < 8 then .tup [.int (bnd7 (dc / ds)), .int (dz / m)] else .non
def dot (g : Int) (p q r : Cn) (i j a b c : Int) : Int := g * (ev q r i j * a + ev r p i j * b + ev p q i j * c)
theorem frag_is (p q r : Cn) (i j : Int) : frag p q r i j = if cov p q r i j = true then fragW (2 * absI' (det p q r)) (dot (sg (det p q r)) p q r i j p.Z q.Z r.Z) (dot (sg (det p q r)) p q r i j p.C q.C r.C) (dot (sg (det p q r)) p q r i j p.S q.S r.S) else .non := by
  have e : ∀ a b c : Int, (sg (det p q r) * ev q r i j) * a + ((sg (det p q r) * ev r p i j) * b + (sg (det p q r) * ev p q i j) * c) = dot (sg (det p q r)) p q r i j a b c := fun a b c => by unfold dot; grind
  unfold frag fragV fragW
  rw [e, e, e]
theorem fragW_k {k : Int} (hk : 0 < k) (m dz dc ds : Int) : fragW (k * m) (k * dz) (k * dc) (k * ds) = fragW m dz dc ds := by
  unfold fragW
  rw [Int.mul_ediv_mul_of_pos _ _ hk, Int.mul_ediv_mul_of_pos _ _ hk]
theorem frag_sc {k : Int} (hk : 0 < k) (p q r : Cn) (i j : Int) : frag (sc k p) q r i j = frag p q r i j := by
  have e : ∀ a b c : Int, dot (sg (det p q r)) (sc k p) q r i j (k * a) b c = k * dot (sg (det p q r)) p q r i j a b c := fun a b c => by unfold dot; rw [ev_l, ev_r]; grind
  rw [frag_is, frag_is, cov_sc hk, det_sc, sg_k hk, abs_k hk]
  show (if cov p q r i j = true then fragW _ (dot _ _ _ _ _ _ (k * p.Z) _ _) (dot _ _ _ _ _ _ (k * p.C) _ _) (dot _ _ _ _ _ _ (k * p.S) _ _) else _) = _
  rw [e, e, e, show 2 * (k * absI' (det p q r)) = k * (2 * absI' (det p q r)) by grind, fragW_k hk]
theorem frag_rot (p q r : Cn) (i j : Int) : frag q r p i j = frag p q r i j := by
  have e : ∀ g a b c : Int, dot g q r p i j b c a = dot g p q r i j a b c := fun g a b c => by unfold dot; grind
  rw [frag_is, frag_is, cov_rot, det_rot, e, e, e]
theorem frag_sw (p q r : Cn) (i j : Int) : frag q p r i j = frag p q r i j := by
  rw [frag_is, frag_is, cov_sw, det_sw, abs_neg]
  by_cases h : cov p q r i j = true
  · have n := (cov_t h).1
    have e : ∀ g a b c : Int, dot (-g) q p r i j b a c = dot g p q r i j a b c := fun g a b c => by
      unfold dot; rw [ev_sw p r, ev_sw r q, ev_sw p q]; grind
    rw [sg_neg n, e, e, e]
  · rw [if_neg h, if_neg h]
theorem cov_sc3 {a b c : Int} (ha : 0 < a) (hb : 0 < b) (hc : 0 < c) (p q r : Cn) (i j : Int) : cov (sc a p) (sc b q) (sc c r) i j = cov p q r i j := by
  rw [cov_sc ha, ← cov_rot, cov_sc hb, ← cov_rot, cov_sc hc, ← cov_rot]
theorem frag_sc3 {a b c : Int} (ha : 0 < a) (hb : 0 < b) (hc : 0 < c) (p q r : Cn) (i j : Int) : frag (sc a p) (sc b q) (sc c r) i j = frag p q r i j := by
  rw [frag_sc ha, ← frag_rot, frag_sc hb, ← frag_rot, frag_sc hc, ← frag_rot]
/-! walks over lists on the own heap: rows step by step -/
theorem look_hp {h : Hh} {n : Nat} {ds : List D} (q : h[n]? = some (.lst ds)) : look (.hp n) h = some ds := by unfold look; dsimp only; rw [q]
theorem look_zp {x y : D} {h : Hh} {xs ys : List D} (a : seqS h x = some xs) (b : seqS h y = some ys) : look (.zp x y) h = some (zipL xs ys) := by unfold look; dsimp only; rw [a, b]
theorem seq_ref {h : Hh} {n : Nat} {ds : List D} (q : h[n]? = some (.lst ds)) : seqS h (.ref n) = some ds := by unfold seqS; dsimp only; rw [q]
def lcF (g : FnG) (t : FnT) (e : FnE) (δ : De) (w : Wk) (i : Nat) (h : Hh) : R (List D) := lcsN g t e δ w (4611686018427387904 - i) i h
theorem lcF0 (g : FnG) (t : FnT) (e : FnE) (δ : De) (w : Wk) (h : Hh) : lcsN g t e δ w 4611686018427387904 0 h = lcF g t e δ w 0 h := rfl
theorem lcFC {h : Hh} {w : Wk} {ds : List D} (el : look w h = some ds) (i : Nat) {d : D} (ei : ds[i]? = some d) (hi : i < 4611686018427387904) (g : FnG) (t : FnT) (e : FnE) (δ : De) : lcF g t e δ w i h = lcA (g d δ) t e (fun h => lcF g t e δ w (i + 1) h) h := by
  have ef : 4611686018427387904 - i = (4611686018427387904 - (i + 1)) + 1 := by omega
  unfold lcF
  rw [ef]
  generalize 4611686018427387904 - (i + 1) = K
  conv => lhs; unfold lcsN
  rw [el]
  dsimp only
  rw [ei]
  dsimp only
  unfold lcA lcB lcC
  cases g d δ with
  | none => rfl
  | some δ1 => rfl
theorem lcFN {h : Hh} {w : Wk} {ds : List D} (el : look w h = some ds) (i : Nat) (ei : i = ds.length) (hi : i < 4611686018427387904) (g : FnG) (t : FnT) (e : FnE) (δ : De) : lcF g t e δ w i h = .ok [] h := by
  have ef : 4611686018427387904 - i = (4611686018427387904 - (i + 1)) + 1 := by omega
  unfold lcF
  rw [ef]
  unfold lcsN
  rw [el]
  dsimp only
  rw [List.getElem?_eq_none_iff.mpr (by omega)]
  dsimp only
  rw [if_pos ei]
def loF (g : FnG) (u : FnS) (w : Wk) (i : Nat) (δ : De) (h : Hh) : RS := loopR g u w (4611686018427387904 - i) i δ h
theorem loF0 (g : FnG) (u : FnS) (w : Wk) (δ : De) (h : Hh) : loopR g u w 4611686018427387904 0 δ h = loF g u w 0 δ h := rfl
theorem loFC {h : Hh} {w : Wk} {ds : List D} (el : look w h = some ds) (i : Nat) {d : D} (ei : ds[i]? = some d) (hi : i < 4611686018427387904) (g : FnG) (u : FnS) (δ : De) : loF g u w i δ h = loA (g d δ) u (fun δ h => loF g u w (i + 1) δ h) h := by
  have ef : 4611686018427387904 - i = (4611686018427387904 - (i + 1)) + 1 := by omega
  unfold loF
  rw [ef]
  generalize 4611686018427387904 - (i + 1) = K
  conv => lhs; unfold loopR
  rw [el]
  dsimp only
  rw [ei]
  dsimp only
  unfold loA loK
  cases g d δ with
  | none => rfl
  | some δ1 => rfl
theorem loFN {h : Hh} {w : Wk} {ds : List D} (el : look w h = some ds) (i : Nat) (ei : i = ds.length) (hi : i < 4611686018427387904) (g : FnG) (u : FnS) (δ : De) : loF g u w i δ h = .nx δ h := by
  have ef : 4611686018427387904 - i = (4611686018427387904 - (i + 1)) + 1 := by omega
  unfold loF
  rw [ef]
  unfold loopR
  rw [el]
  dsimp only
  rw [List.getElem?_eq_none_iff.mpr (by omega)]
  dsimp only
  rw [if_pos ei]
/-! equality of plain data -/
theorem eqvSame {d : D} (f : flat 60 d = true) : eqv d d = true := by
  unfold eqv
  exact PySem.SeqAt.eqv_refl_plain _ (flat_pd d 60 f).1
theorem neSame {d : D} {h : Hh} (e : deref h d = d) (f : flat 60 d = true) : neD d d h = .ok (.bl false) h := by
  unfold neD
  rw [e, if_pos ⟨f, f⟩, eqvSame f]
  rfl
theorem eqSame {d : D} {h : Hh} (e : deref h d = d) (f : flat 60 d = true) : eqD d d h = .ok (.bl true) h := by
  unfold eqD
  rw [e, if_pos ⟨f, f⟩, eqvSame f]
theorem neB (a b : Bool) (h : Hh) : neD (.bl a) (.bl b) h = .ok (.bl (!decide (a = b))) h := by
  cases a <;> cases b <;> rfl
theorem flats_map {α : Type} (k : Nat) (f : α → D) (hf : ∀ x, flat k (f x) = true) : ∀ xs : List α, flats k (xs.map f) = true
  | [] => rfl
  | x :: xs => by
    show (flat k (f x) && flats k (xs.map f)) = true
    rw [hf x, flats_map k f hf xs]; rfl
def eqC (p q : Cn) : Bool := decide (p.X = q.X) && (decide (p.Y = q.Y) && (decide (p.Z = q.Z) && (decide (p.W = q.W) && (decide (p.C = q.C) && decide (p.S = q.S)))))
theorem eqC_comm (p q : Cn) : eqC p q = eqC q p := by
  unfold eqC
  rw [decide_eq_decide.mpr (eq_comm (a := p.X) (b := q.X)), decide_eq_decide.mpr (eq_comm (a := p.Y) (b := q.Y)), decide_eq_decide.mpr (eq_comm (a := p.Z) (b := q.Z)), decide_eq_decide.mpr (eq_comm (a := p.W) (b := q.W)), decide_eq_decide.mpr (eq_comm (a := p.C) (b := q.C)), decide_eq_decide.mpr (eq_comm (a := p.S) (b := q.S))]
theorem eqvC (p q : Cn) : eqv p.d q.d = eqC p q := by
  show (eqv (.int p.X) (.int q.X) && (eqv (.int p.Y) (.int q.Y) && (eqv (.int p.Z) (.int q.Z) && (eqv (.int p.W) (.int q.W) && (eqv (.int p.C) (.int q.C) && (eqv (.int p.S) (.int q.S) && true)))))) = _
  simp only [eqvI, Bool.and_true, eqC]
theorem flatC (p : Cn) (k : Nat) : flat (k + 1) p.d = true := by simp [Cn.d, int6, flat, flats]
theorem eqCs (p q r P Q V : Cn) (h : Hh) : eqD (.tup [p.d, q.d, r.d]) (.tup [P.d, Q.d, V.d]) h = .ok (.bl (eqC p P && (eqC q Q && eqC r V))) h ∧ eqD (.lst [p.d, q.d, r.d]) (.lst [P.d, Q.d, V.d]) h = .ok (.bl (eqC p P && (eqC q Q && eqC r V))) h := by
  have f1 : ∀ p q r : Cn, flat 60 (.tup [p.d, q.d, r.d]) = true := fun p q r => by simp [flat, flats, flatC]
  have f2 : ∀ p q r : Cn, flat 60 (.lst [p.d, q.d, r.d]) = true := fun p q r => by simp [flat, flats, flatC]
  have e1 : eqv (.tup [p.d, q.d, r.d]) (.tup [P.d, Q.d, V.d]) = (eqC p P && (eqC q Q && eqC r V)) := by
    show (eqv p.d P.d && (eqv q.d Q.d && (eqv r.d V.d && true))) = _
    simp only [eqvC, Bool.and_true]
  have e2 : eqv (.lst [p.d, q.d, r.d]) (.lst [P.d, Q.d, V.d]) = (eqC p P && (eqC q Q && eqC r V)) := by
    show (eqv p.d P.d && (eqv q.d Q.d && (eqv r.d V.d && true))) = _
    simp only [eqvC, Bool.and_true]
  constructor
  · show (if flat 60 (.tup [p.d, q.d, r.d]) = true ∧ flat 60 (.tup [P.d, Q.d, V.d]) = true then R.ok (D.bl (eqv (.tup [p.d, q.d, r.d]) (.tup [P.d, Q.d, V.d]))) h else .stk) = _
    rw [if_pos ⟨f1 _ _ _, f1 _ _ _⟩, e1]
  · show (if flat 60 (.lst [p.d, q.d, r.d]) = true ∧ flat 60 (.lst [P.d, Q.d, V.d]) = true then R.ok (D.bl (eqv (.lst [p.d, q.d, r.d]) (.lst [P.d, Q.d, V.d]))) h else .stk) = _
    rw [if_pos ⟨f2 _ _ _, f2 _ _ _⟩, e2]
theorem Good.setO {h : Hh} {b N n : Nat} (g : Good h b N) (n0 : n ≠ 0) (n2 : n ≠ 2) (nb : n ≠ b) (o : O) : Good (h.set n o) b N := by
  obtain ⟨cells, left, t, s, h1, h2⟩ := g
  exact ⟨cells, left, t, ⟨by rw [List.getElem?_set_ne n0]; exact s.c, by rw [List.getElem?_set_ne n2]; exact s.d, by rw [List.getElem?_set_ne nb]; exact s.l, s.b0, s.b2, s.pos, s.t0, s.t1⟩, h1, h2⟩
/-- a list of the law's own that is no part of the source -/
structure Own (h : Hh) (b n : Nat) (ds : List D) : Prop where
  get : h[n]? = some (.lst ds)
  n3 : 2 < n
  nb : n ≠ b
theorem Own.fr {h h' : Hh} {b b' n : Nat} {ds : List D} (o : Own h b n ds) (f : Fr h b h' b') : Own h' b' n ds := by
  have hl := (List.getElem?_eq_some_iff.mp o.get).1
  have := o.n3
  have nb := o.nb
  refine ⟨by rw [f.old n hl (by omega) o.nb]; exact o.get, o.n3, ?_⟩
  rcases f.bb with e | e
  · rw [e]; exact nb
  · omega
theorem Own.put {h : Hh} {b n : Nat} {ds : List D} (o : Own h b n ds) (es : List D) : Own (h.set n (.lst es)) b n es :=
  ⟨List.getElem?_set_self (List.getElem?_eq_some_iff.mp o.get).1, o.n3, o.nb⟩
theorem Own.new {h : Hh} {b N : Nat} (g : Good h b N) (ds : List D) : Own (h ++ [.lst ds]) b h.length ds := by
  obtain ⟨cells, left, t, s, h1, h2⟩ := g
  have l2 := s.lt2
  have lb := s.lt
  exact ⟨get_last _ _, l2, by omega⟩
theorem mut_own {h : Hh} {b n : Nat} {ds : List D} (o : Own h b n ds) : mutL h (.ref n) = some (n, ds) := by
  unfold mutL; dsimp only; rw [o.get]
theorem ixRefNeg {h : Hh} {n : Nat} {ds : List D} {i : Int} {d : D} (e : h[n]? = some (.lst ds)) (h0 : i < 0) (h1 : 0 ≤ i + ds.length) (e2 : ds[(i + ds.length).toNat]? = some d) : ixA (.ref n) (.int i) h = .ok d h := by
  rw [ixLstR e]
  have a : asL h (.lst ds) = some ds := rfl
  have hl := (List.getElem?_eq_some_iff.mp e2).1
  have b : atI ds i = some d := by
    unfold atI ixN
    rw [if_neg (by omega)]
    first | rw [if_pos (by omega)]; exact e2 | (simp [e2]; omega)
  unfold ixD
  simp only [a, b]
theorem lets_ok {cs : D} {n a b c x y z u v w i j : Int} {h : Hh} (hi : -1000 ≤ i ∧ i ≤ 1000) (hj : -1000 ≤ j ∧ j ≤ 1000) :
    f_Triangle_lets_in [objD cs n a b c x y z u v w, .int 0, .tup [.int i, .int j]] h = .ok (.bl (letB a b (a * i + b * j + c))) h ∧ f_Triangle_lets_in [objD cs n a b c x y z u v w, .int 1, .tup [.int i, .int j]] h = .ok (.bl (letB x y (x * i + y * j + z))) h ∧ f_Triangle_lets_in [objD cs n a b c x y z u v w, .int 2, .tup [.int i, .int j]] h = .ok (.bl (letB u v (u * i + v * j + w))) h := by
  have e : clsOf h (objD cs n a b c x y z u v w) = some 0 := rfl
  have o : fldD ix_own_edges (objD cs n a b c x y z u v w) h = .ok (.tup [int3 a b c, int3 x y z, int3 u v w]) h := rfl
  refine ⟨?_, ?_, ?_⟩
  · simp [f_Triangle_lets_in, u_Triangle_lets_in_1_a_1, u_Triangle_lets_in_1, u_Triangle_lets_in_2, u_Triangle_lets_in_3, u_Triangle_lets_in, whole_ok, betw, place_ok hi hj, values_ok hi hj, let_ok, e, o, eFld, runD, startD, seqE, seqNx, sIf, tNot3, eTest, eCall, kCall, aCons, aNil, eVar, eC, bindOk, toSOk, sNil, sExpr, sRet, endRt, eBin, tup0, lst0, kMeth, eMeth]
  · simp [f_Triangle_lets_in, u_Triangle_lets_in_1_a_1, u_Triangle_lets_in_1, u_Triangle_lets_in_2, u_Triangle_lets_in_3, u_Triangle_lets_in, whole_ok, betw, place_ok hi hj, values_ok hi hj, let_ok, e, o, eFld, runD, startD, seqE, seqNx, sIf, tNot3, eTest, eCall, kCall, aCons, aNil, eVar, eC, bindOk, toSOk, sNil, sExpr, sRet, endRt, eBin, tup1, lst1, kMeth, eMeth]
  · simp [f_Triangle_lets_in, u_Triangle_lets_in_1_a_1, u_Triangle_lets_in_1, u_Triangle_lets_in_2, u_Triangle_lets_in_3, u_Triangle_lets_in, whole_ok, betw, place_ok hi hj, values_ok hi hj, let_ok, e, o, eFld, runD, startD, seqE, seqNx, sIf, tNot3, eTest, eCall, kCall, aCons, aNil, eVar, eC, bindOk, toSOk, sNil, sExpr, sRet, endRt, eBin, tup2, lst2, kMeth, eMeth]
theorem lets7 {p q r : Cn} {i j : Int} (hi : -1000 ≤ i ∧ i ≤ 1000) (hj : -1000 ≤ j ∧ j ≤ 1000) (h : Hh) :
    f_Triangle_lets_in [tri p q r, .int 0, .tup [.int i, .int j]] h = .ok (.bl (decide (lt (sg (det p q r)) q r i j))) h ∧ f_Triangle_lets_in [tri p q r, .int 1, .tup [.int i, .int j]] h = .ok (.bl (decide (lt (sg (det p q r)) r p i j))) h ∧ f_Triangle_lets_in [tri p q r, .int 2, .tup [.int i, .int j]] h = .ok (.bl (decide (lt (sg (det p q r)) p q i j))) h := by
  have l := lets_ok (cs := .tup [p.d, q.d, r.d]) (h := h) (n := det p q r) (a := sg (det p q r) * 2 * (q.Y * r.W - q.W * r.Y)) (b := sg (det p q r) * 2 * (q.W * r.X - q.X * r.W)) (c := sg (det p q r) * (q.Y * r.W - q.W * r.Y + (q.W * r.X - q.X * r.W) + 2 * (q.X * r.Y - q.Y * r.X)))
    (x := sg (det p q r) * 2 * (r.Y * p.W - r.W * p.Y)) (y := sg (det p q r) * 2 * (r.W * p.X - r.X * p.W)) (z := sg (det p q r) * (r.Y * p.W - r.W * p.Y + (r.W * p.X - r.X * p.W) + 2 * (r.X * p.Y - r.Y * p.X)))
    (u := sg (det p q r) * 2 * (p.Y * q.W - p.W * q.Y)) (v := sg (det p q r) * 2 * (p.W * q.X - p.X * q.W)) (w := sg (det p q r) * (p.Y * q.W - p.W * q.Y + (p.W * q.X - p.X * q.W) + 2 * (p.X * q.Y - p.Y * q.X))) hi hj
  rw [let_is, let_is, let_is] at l
  exact l
/-! lists of truths along the whole numbers -/
def lane {α : Type} (f : Int → α) (k : Int) : Nat → List α
  | 0 => []
  | n + 1 => f k :: lane f (k + 1) n
theorem lane_len {α : Type} (f : Int → α) : ∀ (n : Nat) (k : Int), (lane f k n).length = n
  | 0, _ => rfl
  | n + 1, k => by rw [lane, List.length_cons, lane_len f n]
theorem lane_map {α β : Type} (g : α → β) (f : Int → α) : ∀ (n : Nat) (k : Int), (lane f k n).map g = lane (fun t => g (f t)) k n
  | 0, _ => rfl
  | n + 1, k => by rw [lane, List.map_cons, lane_map g f n]; rfl
theorem lane_mem {α : Type} (f : Int → α) : ∀ (n : Nat) (k : Int) (x : α), x ∈ lane f k n → ∃ t, x = f t ∧ k ≤ t ∧ t < k + n
  | 0, _, x, h => by cases h
  | n + 1, k, x, h => by
    rcases List.mem_cons.mp h with rfl | h
    · exact ⟨k, rfl, by omega, by omega⟩
    · obtain ⟨t, e, a, b⟩ := lane_mem f n (k + 1) x h
      exact ⟨t, e, by omega, by omega⟩
def ch (p : Bool) : List Bool → Nat
  | [] => 0
  | b :: bs => (if p = b then 0 else 1) + ch b bs
def chg : List Bool → Nat
  | [] => 0
  | b :: bs => ch b bs
theorem ch_same (p : Bool) (f : Int → Bool) : ∀ (n : Nat) (k : Int), (∀ t, k ≤ t → f t = p) → ch p (lane f k n) = 0
  | 0, _, _ => rfl
  | n + 1, k, h => by
    rw [lane, ch, h k (by omega), if_pos rfl, ch_same p f n (k + 1) fun t ht => h t (by omega)]
theorem ch_up (f : Int → Bool) (up : ∀ a b, a ≤ b → f a = true → f b = true) : ∀ (n : Nat) (k : Int), ch false (lane f k n) ≤ 1
  | 0, _ => by show 0 ≤ 1; decide
  | n + 1, k => by
    rw [lane, ch]
    cases e : f k with
    | false => rw [if_pos rfl]; have := ch_up f up n (k + 1); omega
    | true => rw [if_neg (by decide), ch_same true f n (k + 1) fun t ht => up k t (by omega) e]; decide
theorem ch_down (f : Int → Bool) (dn : ∀ a b, a ≤ b → f b = true → f a = true) : ∀ (n : Nat) (k : Int), ch true (lane f k n) ≤ 1
  | 0, _ => by show 0 ≤ 1; decide
  | n + 1, k => by
    rw [lane, ch]
    cases e : f k with
    | true => rw [if_pos rfl]; have := ch_down f dn n (k + 1); omega
    | false =>
      rw [if_neg (by decide), ch_same false f n (k + 1) fun t ht => by
        cases z : f t with
        | false => rfl
        | true => have := dn k t (by omega) z; rw [e] at this; cases this]
      decide
def Up (f : Int → Bool) : Prop := ∀ a b, a ≤ b → f a = true → f b = true
def Dn (f : Int → Bool) : Prop := ∀ a b, a ≤ b → f b = true → f a = true
theorem chg_mono (f : Int → Bool) (m : Up f ∨ Dn f) (n : Nat) (k : Int) : chg (lane f k n) ≤ 1 := by
  cases n with
  | zero => exact Nat.zero_le _
  | succ n =>
    show ch (f k) (lane f (k + 1) n) ≤ 1
    rcases m with up | dn
    · cases e : f k with
      | false => exact ch_up f up n (k + 1)
      | true => rw [ch_same true f n (k + 1) fun t ht => up k t (by omega) e]; decide
    · cases e : f k with
      | true => exact ch_down f dn n (k + 1)
      | false =>
        rw [ch_same false f n (k + 1) fun t ht => by
          cases z : f t with
          | false => rfl
          | true => have := dn k t (by omega) z; rw [e] at this; cases this]
        decide
theorem ch_app0 (p : Bool) (f : Int → Bool) : ∀ (n : Nat) (k : Int), (∀ t, k ≤ t → f t = false) → ch false (lane f k n ++ [false]) = 0
  | 0, _, _ => rfl
  | n + 1, k, h => by
    rw [lane, List.cons_append, ch, h k (by omega), if_pos rfl, ch_app0 p f n (k + 1) fun t ht => h t (by omega)]
theorem ch_app1 (f : Int → Bool) : ∀ (n : Nat) (k : Int), (∀ a b, k ≤ a → a ≤ b → f b = true → f a = true) → ch true (lane f k n ++ [false]) = 1
  | 0, _, _ => rfl
  | n + 1, k, h => by
    rw [lane, List.cons_append, ch]
    cases e : f k with
    | true => rw [if_pos rfl, ch_app1 f n (k + 1) fun a b ha hb => h a b (by omega) hb]
    | false =>
      rw [if_neg (by decide), ch_app0 false f n (k + 1) fun t ht => by
        cases z : f t with
        | false => rfl
        | true => have := h k t (by omega) (by omega) z; rw [e] at this; cases this]
def Cv (f : Int → Bool) : Prop := ∀ a b c, a ≤ b → b ≤ c → f a = true → f c = true → f b = true
theorem ch_cv (f : Int → Bool) (cv : Cv f) : ∀ (n : Nat) (k : Int), ch false (lane f k n ++ [false]) = 0 ∨ ch false (lane f k n ++ [false]) = 2
  | 0, _ => .inl rfl
  | n + 1, k => by
    rw [lane, List.cons_append, ch]
    cases e : f k with
    | false => rw [if_pos rfl, Nat.zero_add]; exact ch_cv f cv n (k + 1)
    | true =>
      rw [if_neg (by decide), ch_app1 f n (k + 1) fun a b ha hb h2 => cv k a b (by omega) hb e h2]
      exact .inr rfl
/-! the law's count of turns -/
theorem ri_cons (i : Int) (n : Nat) : rgD i (n + 1) = .int i :: rgD (i + 1) n := by
  unfold rgD
  rw [List.range_succ_eq_map, List.map_cons, List.map_map]
  congr 1
  · simp
  · refine List.map_congr_left fun j _ => ?_
    show D.int (i + ((j + 1 : Nat) : Int)) = D.int (i + 1 + (j : Int))
    congr 1; omega
theorem turns_lc (bs : List Bool) (h : Hh) : ∀ (n k : Nat), k + n + 1 = bs.length → ∃ ys, lcs (gSet 1) (eTest (eBin neD (eBin ixA (eVar 0) (eVar 1)) (eBin ixA (eVar 0) (eBin addD (eVar 1) (eC (.int 1)))))) (eVar 1) [some (.lst (bs.map D.bl)), none] (rgD (k : Int) n) h = .ok ys h ∧ ys.length = chg (bs.drop k)
  | 0, k, hk => by
    refine ⟨[], rfl, ?_⟩
    have : (bs.drop k).length = 1 := by rw [List.length_drop]; omega
    match bs.drop k, this with
    | [b], _ => rfl
  | n + 1, k, hk => by
    obtain ⟨ys, e, l⟩ := turns_lc bs h n (k + 1) (by omega)
    have l1 : k < bs.length := by omega
    have l2 : k + 1 < bs.length := by omega
    have d1 : bs.drop k = bs[k] :: bs[k + 1] :: bs.drop (k + 2) := by rw [List.drop_eq_getElem_cons l1, List.drop_eq_getElem_cons l2]
    have d2 : bs.drop (k + 1) = bs[k + 1] :: bs.drop (k + 2) := by rw [List.drop_eq_getElem_cons l2]
    have i1 : ixA (.lst (bs.map D.bl)) (.int (k : Int)) h = .ok (.bl bs[k]) h := ixLstAt (by omega) (by simp [l1])
    have i2 : ixA (.lst (bs.map D.bl)) (.int ((k : Int) + 1)) h = .ok (.bl bs[k + 1]) h := ixLstAt (by omega) (by
      rw [show ((k : Int) + 1).toNat = k + 1 by omega]; simp [l2])
    have e' : lcs (gSet 1) (eTest (eBin neD (eBin ixA (eVar 0) (eVar 1)) (eBin ixA (eVar 0) (eBin addD (eVar 1) (eC (.int 1)))))) (eVar 1) [some (.lst (bs.map D.bl)), none] (rgD ((k : Int) + 1) n) h = .ok ys h := by
      have := e
      rwa [show ((k + 1 : Nat) : Int) = (k : Int) + 1 by omega] at this
    rw [ri_cons, lcCons]
    by_cases c : bs[k] = bs[k + 1]
    · refine ⟨ys, ?_, ?_⟩
      · simp only [gSet, lcAS, eTest, eBin, eVar, eC, optS, bindOk, List.getElem?_cons_zero, List.getElem?_cons_succ, List.set_cons_zero, List.set_cons_succ, i1, addI, i2, neB, c, decide_true, Bool.not_true, lcBF]
        exact e'
      · rw [l, d1, d2]
        show ch bs[k + 1] _ = (if bs[k] = bs[k + 1] then 0 else 1) + ch bs[k + 1] _
        rw [if_pos c]; omega
    · refine ⟨.int (k : Int) :: ys, ?_, ?_⟩
      · simp only [gSet, lcAS, eTest, eBin, eVar, eC, optS, bindOk, List.getElem?_cons_zero, List.getElem?_cons_succ, List.set_cons_zero, List.set_cons_succ, i1, addI, i2, neB, c, decide_false, Bool.not_false, lcBT, lcCO]
        rw [e']; rfl
      · rw [List.length_cons, l, d1, d2]
        show ch bs[k + 1] _ + 1 = (if bs[k] = bs[k + 1] then 0 else 1) + ch bs[k + 1] _
        rw [if_neg c]; omega
theorem turns14 (bs : List Bool) (hl : bs.length ≤ 100) (h : Hh) : f__law_turns [.lst (bs.map D.bl)] h = .ok (.int (chg bs)) h := by
  have ir : iRg1 (eBin subD (eB lenB (aCons (eVar 0) aNil)) (eC (.int 1))) [some (.lst (bs.map D.bl)), none] h = .ok (rgD 0 (bs.length - 1)) h := by
    show (if -(2 ^ 62) ≤ (((bs.map D.bl).length : Nat) : Int) - 1 ∧ (((bs.map D.bl).length : Nat) : Int) - 1 < 2 ^ 62 then R.ok (rgD 0 ((((bs.map D.bl).length : Nat) : Int) - 1).toNat) h else .stk) = _
    rw [List.length_map, if_pos ⟨by omega, by omega⟩, show ((bs.length : Int) - 1).toNat = bs.length - 1 by omega]
  have lc : ∃ ys, lcs (gSet 1) (eTest (eBin neD (eBin ixA (eVar 0) (eVar 1)) (eBin ixA (eVar 0) (eBin addD (eVar 1) (eC (.int 1)))))) (eVar 1) [some (.lst (bs.map D.bl)), none] (rgD 0 (bs.length - 1)) h = .ok ys h ∧ ys.length = chg bs := by
    cases bs with
    | nil => exact ⟨[], rfl, rfl⟩
    | cons b bs => exact turns_lc (b :: bs) h bs.length 0 (by simp)
  obtain ⟨ys, e, l⟩ := lc
  have l2 : ys.length ≤ 16777216 := by
    have : ∀ (p : Bool) (l : List Bool), ch p l ≤ l.length := by
      intro p l
      induction l generalizing p with
      | nil => exact Nat.le_refl _
      | cons b l ih => have := ih b; unfold ch; rw [List.length_cons]; split <;> omega
    have : chg bs ≤ 100 := by
      cases bs with
      | nil => exact Nat.zero_le _
      | cons b bs => have := this b bs; rw [List.length_cons] at hl; show ch b bs ≤ 100; omega
    omega
  have l3 : chg bs ≤ 16777216 := by omega
  show endD (u__law_turns [some (.lst (bs.map D.bl)), none] h) = _
  unfold u__law_turns u__law_turns_1
  simp only [sRet, eB, eLc, aCons, aNil, ir, bindOk, wipeD, List.set_cons_succ, List.set_cons_zero, e, kLst, lineOk, l2, l3, decide_true, if_true, Bool.false_eq_true, if_false, lenLst, l, toSOk, endRt]
end Lw
set_option autoImplicit false
set_option maxHeartbeats 8000000
set_option autoImplicit true
namespace Lw
open PySem PySem.Spec L2 L3
/-! lanes of places -/
def pl (ij : Int × Int) : D := .tup [.int ij.1, .int ij.2]
def Nr (ij : Int × Int) : Prop := (-1000 ≤ ij.1 ∧ ij.1 ≤ 1000) ∧ (-1000 ≤ ij.2 ∧ ij.2 ≤ 1000)
theorem clsT (p q r : Cn) (h : Hh) : clsOf h (tri p q r) = some 0 := rfl
theorem pos3_up {v w x y : Int} (h : v ≤ w) (p : pos3 v x y) : pos3 w x y := by
  unfold pos3 at *; omega
theorem mul_up {a t s : Int} (ha : 0 ≤ a) (h : t ≤ s) : t * a ≤ s * a := Int.mul_le_mul_of_nonneg_right h ha
theorem lt_line (g : Int) (q r : Cn) (i0 j0 di dj : Int) : Up (fun t => decide (lt g q r (i0 + t * di) (j0 + t * dj))) ∨ Dn (fun t => decide (lt g q r (i0 + t * di) (j0 + t * dj))) := by
  have e : ∀ t, g * ev q r (i0 + t * di) (j0 + t * dj) = g * ev q r i0 j0 + t * (g * (2 * di * exx q r + 2 * dj * exy q r)) := fun t => by unfold ev; grind
  by_cases c : 0 ≤ g * (2 * di * exx q r + 2 * dj * exy q r)
  · refine .inl fun a b hab h => decide_eq_true (pos3_up ?_ (of_decide_eq_true h))
    rw [e, e]
    have := mul_up c hab
    omega
  · refine .inr fun a b hab h => decide_eq_true (pos3_up ?_ (of_decide_eq_true h))
    rw [e, e]
    have := mul_up (show 0 ≤ -(g * (2 * di * exx q r + 2 * dj * exy q r)) by omega) hab
    rw [Int.mul_neg, Int.mul_neg] at this
    omega
theorem Up.cv {f : Int → Bool} (u : Up f) : Cv f := fun a b _ hab _ ha _ => u a b hab ha
theorem Dn.cv {f : Int → Bool} (u : Dn f) : Cv f := fun _ b c _ hbc _ hc => u b c hbc hc
theorem cv_and {f g : Int → Bool} (a : Cv f) (b : Cv g) : Cv (fun t => f t && g t) := fun x y z h1 h2 h3 h4 => by
  simp only [Bool.and_eq_true] at *
  exact ⟨a x y z h1 h2 h3.1 h4.1, b x y z h1 h2 h3.2 h4.2⟩
theorem cv_const (c : Bool) : Cv (fun _ => c) := fun _ _ _ _ _ h _ => h
theorem cov_line (p q r : Cn) (i0 j0 di dj : Int) : Cv (fun t => cov p q r (i0 + t * di) (j0 + t * dj)) := by
  have e : (fun t => cov p q r (i0 + t * di) (j0 + t * dj)) = fun t => (decide (det p q r ≠ 0) && (decide (lt (sg (det p q r)) q r (i0 + t * di) (j0 + t * dj)) && (decide (lt (sg (det p q r)) r p (i0 + t * di) (j0 + t * dj)) && decide (lt (sg (det p q r)) p q (i0 + t * di) (j0 + t * dj))))) := by
    funext t
    rw [Bool.eq_iff_iff]
    simp [cov]
  rw [e]
  have l : ∀ q' r', Cv (fun t => decide (lt (sg (det p q r)) q' r' (i0 + t * di) (j0 + t * dj))) := fun q' r' => by
    rcases lt_line (sg (det p q r)) q' r' i0 j0 di dj with u | u
    · exact u.cv
    · exact u.cv
  exact cv_and (cv_const _) (cv_and (l q r) (cv_and (l r p) (l p q)))
def ln (i0 j0 di dj : Int) (t : Int) : Int × Int := (i0 + t * di, j0 + t * dj)
/-- which edge -/
def edgeL (p q r : Cn) (e : Int) (s : Int × Int) : Bool := if e = 0 then decide (lt (sg (det p q r)) q r s.1 s.2) else if e = 1 then decide (lt (sg (det p q r)) r p s.1 s.2) else decide (lt (sg (det p q r)) p q s.1 s.2)
theorem lets14 {p q r : Cn} {e : Int} (he : e = 0 ∨ e = 1 ∨ e = 2) {s : Int × Int} (n : Nr s) (h : Hh) : f_Triangle_lets_in [tri p q r, .int e, pl s] h = .ok (.bl (edgeL p q r e s)) h := by
  obtain ⟨l0, l1, l2⟩ := lets7 (p := p) (q := q) (r := r) n.1 n.2 h
  rcases he with rfl | rfl | rfl
  · exact l0
  · exact l1
  · exact l2
theorem edge_line (p q r : Cn) (e i0 j0 di dj : Int) : Up (fun t => edgeL p q r e (ln i0 j0 di dj t)) ∨ Dn (fun t => edgeL p q r e (ln i0 j0 di dj t)) := by
  unfold edgeL ln
  by_cases h0 : e = 0
  · simp only [h0, if_true]; exact lt_line _ _ _ _ _ _ _
  · by_cases h1 : e = 1
    · simp only [h1, if_true, if_false]; exact lt_line _ _ _ _ _ _ _
    · simp only [h0, h1, if_false]; exact lt_line _ _ _ _ _ _ _
theorem lane_cov {p q r : Cn} (h : Hh) (A : D) (δ2 δ3 : Option D) : ∀ ss : List (Int × Int), (∀ s ∈ ss, Nr s) → lcs (gSet 4) tYes3 (eMeth 0 2 f_Triangle_covers (eVar 0) (aCons (eVar 4) aNil) []) [some (tri p q r), some A, δ2, δ3, none] (ss.map pl) h = .ok (ss.map fun s => D.bl (cov p q r s.1 s.2)) h
  | [], _ => rfl
  | s :: ss, hs => by
    have n := hs s List.mem_cons_self
    have c := cov_ok (p := p) (q := q) (r := r) (h := h) n.1 n.2
    have ih := lane_cov (p := p) (q := q) (r := r) h A δ2 δ3 ss fun s m => hs s (List.mem_cons_of_mem _ m)
    rw [List.map_cons, lcCons, List.map_cons]
    simp only [pl] at c ih ⊢
    simp only [c, clsT, ih, Nat.reduceAdd, Nat.reduceEqDiff, runD, startD, endRt, endNx, endExc, seqE, seqNx, seqRt, seqExc, sNil, sPass, sIf, sRet, sRetN, sExpr, sSet, sAsg, sPar, kPar, setAll, sIxS, kSet, L3.sFld, eVar, eC, eBin, eTest, eChain, eUn, tAnd3, tOr3, tNot3, eAnd, eOr, eNot, eIf, aNil, aCons, eTup, eLst, eLstM, eCall, kCall, eMeth, kMeth, clsObj, eB, one, eFld, fldD, fieldAt, L3.putAt, eProp, kProp, noX, eMake, eLc, kLst, iSeq, L3.iZip, kZip, zipL, immS, iRg1, lcNil, lcCons, lcAS, lcBT, lcBF, lcCO, loNil, loCons, loAS, loNx, loCt, loBk, loRt, L3.sFor, sForW, eLcW, wSeq, wZip, kZipW, loopW, lcW, optS, wipeD, gSet, gTupD, gsNil, gsCons, tYes3, eIsi, isiD, kdOf, isK, allB, anyB, sumB, L3.listOf, blsOf, intsOf, asL, bindOk, bindExc, bindStk, toSOk, toSExc, lineOk, addI, subI, negI, mulL, mulR, divI, modI, ltI, leI, gtI, geI, eqI, neI, intB1, intB2, lenTup, lenLst, lenScr, tup0, tup1, tup2, tup3, tup4, tup5, lst0, lst1, lst2, lst3, List.getElem?_cons_zero, List.getElem?_cons_succ, List.getElem?_nil, List.set_cons_zero, List.set_cons_succ, List.length_cons, List.length_nil, List.map_cons, List.map_nil, List.replicate_succ, List.replicate_zero, List.cons_append, List.nil_append, List.append_nil, if_true, if_false, ite_true, ite_false, Bool.false_eq_true, Bool.not_true, Bool.not_false, Bool.true_and, Bool.and_true, Bool.false_and, Bool.and_false, Bool.or_true, Bool.true_or, Bool.false_or, Bool.or_false, and_self, and_true, true_and, Nat.sub_zero, Nat.sub_self, Nat.reduceSub, Nat.reduceAdd, Nat.reduceLeDiff, Nat.reduceEqDiff, decide_true, decide_false, Nat.zero_le]
theorem lane_let {p q r : Cn} {e : Int} (he : e = 0 ∨ e = 1 ∨ e = 2) (h : Hh) (A : D) (δ2 : Option D) : ∀ ss : List (Int × Int), (∀ s ∈ ss, Nr s) → lcs (gSet 4) tYes3 (eMeth 0 3 f_Triangle_lets_in (eVar 0) (aCons (eVar 3) (aCons (eVar 4) aNil)) []) [some (tri p q r), some A, δ2, some (.int e), none] (ss.map pl) h = .ok (ss.map fun s => D.bl (edgeL p q r e s)) h
  | [], _ => rfl
  | s :: ss, hs => by
    have n := hs s List.mem_cons_self
    have c := lets14 (p := p) (q := q) (r := r) he n h
    have ih := lane_let (p := p) (q := q) (r := r) he h A δ2 ss fun s m => hs s (List.mem_cons_of_mem _ m)
    rw [List.map_cons, lcCons, List.map_cons]
    simp only [c, clsT, ih, Nat.reduceAdd, Nat.reduceEqDiff, runD, startD, endRt, endNx, endExc, seqE, seqNx, seqRt, seqExc, sNil, sPass, sIf, sRet, sRetN, sExpr, sSet, sAsg, sPar, kPar, setAll, sIxS, kSet, L3.sFld, eVar, eC, eBin, eTest, eChain, eUn, tAnd3, tOr3, tNot3, eAnd, eOr, eNot, eIf, aNil, aCons, eTup, eLst, eLstM, eCall, kCall, eMeth, kMeth, clsObj, eB, one, eFld, fldD, fieldAt, L3.putAt, eProp, kProp, noX, eMake, eLc, kLst, iSeq, L3.iZip, kZip, zipL, immS, iRg1, lcNil, lcCons, lcAS, lcBT, lcBF, lcCO, loNil, loCons, loAS, loNx, loCt, loBk, loRt, L3.sFor, sForW, eLcW, wSeq, wZip, kZipW, loopW, lcW, optS, wipeD, gSet, gTupD, gsNil, gsCons, tYes3, eIsi, isiD, kdOf, isK, allB, anyB, sumB, L3.listOf, blsOf, intsOf, asL, bindOk, bindExc, bindStk, toSOk, toSExc, lineOk, addI, subI, negI, mulL, mulR, divI, modI, ltI, leI, gtI, geI, eqI, neI, intB1, intB2, lenTup, lenLst, lenScr, tup0, tup1, tup2, tup3, tup4, tup5, lst0, lst1, lst2, lst3, List.getElem?_cons_zero, List.getElem?_cons_succ, List.getElem?_nil, List.set_cons_zero, List.set_cons_succ, List.length_cons, List.length_nil, List.map_cons, List.map_nil, List.replicate_succ, List.replicate_zero, List.cons_append, List.nil_append, List.append_nil, if_true, if_false, ite_true, ite_false, Bool.false_eq_true, Bool.not_true, Bool.not_false, Bool.true_and, Bool.and_true, Bool.false_and, Bool.and_false, Bool.or_true, Bool.true_or, Bool.false_or, Bool.or_false, and_self, and_true, true_and, Nat.sub_zero, Nat.sub_self, Nat.reduceSub, Nat.reduceAdd, Nat.reduceLeDiff, Nat.reduceEqDiff, decide_true, decide_false, Nat.zero_le]
theorem in02 {n : Nat} (h : n = 0 ∨ n = 2) (hh : Hh) : inD (.int n) (.tup [.int 0, .int 2]) hh = .ok (.bl true) hh := by
  rcases h with rfl | rfl <;> rfl
theorem lane_ok {p q r : Cn} (i0 j0 di dj k : Int) {n : Nat} (hn : n ≤ 50) (hs : ∀ s ∈ lane (ln i0 j0 di dj) k n, Nr s) (h : Hh) : f__law_lane_right [tri p q r, .lst ((lane (ln i0 j0 di dj) k n).map pl)] h = .ok (.bl true) h := by
  have e1 : (lane (ln i0 j0 di dj) k n).map (fun s => D.bl (cov p q r s.1 s.2)) = (lane (fun t => cov p q r (i0 + t * di) (j0 + t * dj)) k n).map D.bl := by
    rw [lane_map, lane_map]; rfl
  have e2 : ∀ e, (lane (ln i0 j0 di dj) k n).map (fun s => D.bl (edgeL p q r e s)) = (lane (fun t => edgeL p q r e (ln i0 j0 di dj t)) k n).map D.bl := fun e => by
    rw [lane_map, lane_map]
  have ll : ∀ f : Int → Bool, ((lane f k n).map D.bl).length ≤ 16777216 := fun f => by rw [List.length_map, lane_len]; omega
  have st1 : u__law_lane_right_1 [some (tri p q r), some (.lst ((lane (ln i0 j0 di dj) k n).map pl)), none, none, none] h = .nx [some (tri p q r), some (.lst ((lane (ln i0 j0 di dj) k n).map pl)), some (.lst ((lane (fun t => cov p q r (i0 + t * di) (j0 + t * dj)) k n).map D.bl)), none, none] h := by
    have lc := lane_cov (p := p) (q := q) (r := r) h (.lst ((lane (ln i0 j0 di dj) k n).map pl)) none none (lane (ln i0 j0 di dj) k n) hs
    rw [e1] at lc
    simp only [u__law_lane_right_1, sSet, eLcW, wSeq, eVar, optS, bindOk, List.getElem?_cons_zero, List.getElem?_cons_succ, lcW, wipeD, List.set_cons_succ, List.set_cons_zero, lc, kLst, lineOk, ll, decide_true, if_true, Bool.false_eq_true, if_false, toSOk]
  have t1 : ∀ x3 : Option D, ∀ i : Nat, i < 3 → u__law_lane_right_2_1 [some (tri p q r), some (.lst ((lane (ln i0 j0 di dj) k n).map pl)), some (.lst ((lane (fun t => cov p q r (i0 + t * di) (j0 + t * dj)) k n).map D.bl)), some (.int (0 + (i : Int))), none] h = .nx [some (tri p q r), some (.lst ((lane (ln i0 j0 di dj) k n).map pl)), some (.lst ((lane (fun t => cov p q r (i0 + t * di) (j0 + t * dj)) k n).map D.bl)), some (.int (0 + (i : Int))), none] h := fun x3 i hi => by
    have lc := lane_let (p := p) (q := q) (r := r) (e := 0 + (i : Int)) (by omega) h (.lst ((lane (ln i0 j0 di dj) k n).map pl)) (some (.lst ((lane (fun t => cov p q r (i0 + t * di) (j0 + t * dj)) k n).map D.bl))) (lane (ln i0 j0 di dj) k n) hs
    rw [e2] at lc
    have tn := turns14 (lane (fun t => edgeL p q r (0 + (i : Int)) (ln i0 j0 di dj t)) k n) (by rw [lane_len]; omega) h
    have le := chg_mono (fun t => edgeL p q r (0 + (i : Int)) (ln i0 j0 di dj t)) (edge_line p q r _ i0 j0 di dj) n k
    have gt : ¬ (1 : Int) < ((chg (lane (fun t => edgeL p q r (0 + (i : Int)) (ln i0 j0 di dj t)) k n) : Nat) : Int) := by omega
    have cm : (eLcW false (wSeq (eVar 1)) (gSet 4) tYes3 (eMeth 0 3 f_Triangle_lets_in (eVar 0) (aCons (eVar 3) (aCons (eVar 4) aNil)) []) [4]) [some (tri p q r), some (.lst ((lane (ln i0 j0 di dj) k n).map pl)), some (.lst ((lane (fun t => cov p q r (i0 + t * di) (j0 + t * dj)) k n).map D.bl)), some (.int (0 + (i : Int))), none] h = .ok (.lst ((lane (fun t => edgeL p q r (0 + (i : Int)) (ln i0 j0 di dj t)) k n).map D.bl)) h := by
      simp only [eLcW, wSeq, eVar, optS, bindOk, List.getElem?_cons_zero, List.getElem?_cons_succ, lcW, wipeD, List.set_cons_succ, List.set_cons_zero, lc, kLst, lineOk, ll, decide_true, if_true, Bool.false_eq_true, if_false]
    unfold u__law_lane_right_2_1
    generalize (eLcW false (wSeq (eVar 1)) (gSet 4) tYes3 (eMeth 0 3 f_Triangle_lets_in (eVar 0) (aCons (eVar 3) (aCons (eVar 4) aNil)) []) [4]) = LC at *
    simp only [cm, tn, gt, decide_false, Nat.reduceAdd, Nat.reduceEqDiff, runD, startD, endRt, endNx, endExc, seqE, seqNx, seqRt, seqExc, sNil, sPass, sIf, sRet, sRetN, sExpr, sSet, sAsg, sPar, kPar, setAll, sIxS, kSet, L3.sFld, eVar, eC, eBin, eTest, eChain, eUn, tAnd3, tOr3, tNot3, eAnd, eOr, eNot, eIf, aNil, aCons, eTup, eLst, eLstM, eCall, kCall, eMeth, kMeth, clsObj, eB, one, eFld, fldD, fieldAt, L3.putAt, eProp, kProp, noX, eMake, eLc, kLst, iSeq, L3.iZip, kZip, zipL, immS, iRg1, lcNil, lcCons, lcAS, lcBT, lcBF, lcCO, loNil, loCons, loAS, loNx, loCt, loBk, loRt, L3.sFor, sForW, eLcW, wSeq, wZip, kZipW, loopW, lcW, optS, wipeD, gSet, gTupD, gsNil, gsCons, tYes3, eIsi, isiD, kdOf, isK, allB, anyB, sumB, L3.listOf, blsOf, intsOf, asL, bindOk, bindExc, bindStk, toSOk, toSExc, lineOk, addI, subI, negI, mulL, mulR, divI, modI, ltI, leI, gtI, geI, eqI, neI, intB1, intB2, lenTup, lenLst, lenScr, tup0, tup1, tup2, tup3, tup4, tup5, lst0, lst1, lst2, lst3, List.getElem?_cons_zero, List.getElem?_cons_succ, List.getElem?_nil, List.set_cons_zero, List.set_cons_succ, List.length_cons, List.length_nil, List.map_cons, List.map_nil, List.replicate_succ, List.replicate_zero, List.cons_append, List.nil_append, List.append_nil, if_true, if_false, ite_true, ite_false, Bool.false_eq_true, Bool.not_true, Bool.not_false, Bool.true_and, Bool.and_true, Bool.false_and, Bool.and_false, Bool.or_true, Bool.true_or, Bool.false_or, Bool.or_false, and_self, and_true, true_and, Nat.sub_zero, Nat.sub_self, Nat.reduceSub, Nat.reduceAdd, Nat.reduceLeDiff, Nat.reduceEqDiff, decide_true, decide_false, Nat.zero_le]
  obtain ⟨δ', h', e, ⟨x3, rfl, rfl⟩⟩ := loop_ok (g := gSet 3) (u := u__law_lane_right_2_1) (fun _ δ h' => ∃ x3, δ = [some (tri p q r), some (.lst ((lane (ln i0 j0 di dj) k n).map pl)), some (.lst ((lane (fun t => cov p q r (i0 + t * di) (j0 + t * dj)) k n).map D.bl)), x3, none] ∧ h' = h) (rgD 0 3) 0 _ h ⟨none, rfl, rfl⟩ fun i d e δ h1 ⟨x3, e1, e2⟩ => by
    subst e1; subst e2
    obtain ⟨hi, rfl⟩ := rg_get e
    exact ⟨_, _, _, rfl, .inl (t1 none i hi), ⟨_, rfl, rfl⟩⟩
  have st2 : u__law_lane_right_2 [some (tri p q r), some (.lst ((lane (ln i0 j0 di dj) k n).map pl)), some (.lst ((lane (fun t => cov p q r (i0 + t * di) (j0 + t * dj)) k n).map D.bl)), none, none] h' = .nx [some (tri p q r), some (.lst ((lane (ln i0 j0 di dj) k n).map pl)), some (.lst ((lane (fun t => cov p q r (i0 + t * di) (j0 + t * dj)) k n).map D.bl)), x3, none] h' := e
  have cvx := ch_cv _ (cov_line p q r i0 j0 di dj) n k
  have tn := turns14 (false :: (lane (fun t => cov p q r (i0 + t * di) (j0 + t * dj)) k n ++ [false])) (by rw [List.length_cons, List.length_append, lane_len]; simp; omega) h'
  have ii := in02 cvx h'
  have st3 : u__law_lane_right_3 [some (tri p q r), some (.lst ((lane (ln i0 j0 di dj) k n).map pl)), some (.lst ((lane (fun t => cov p q r (i0 + t * di) (j0 + t * dj)) k n).map D.bl)), x3, none] h' = .rt (.bl true) h' := by
    have ad1 : addD (.lst [.bl false]) (.lst ((lane (fun t => cov p q r (i0 + t * di) (j0 + t * dj)) k n).map D.bl)) h' = .ok (.lst (.bl false :: (lane (fun t => cov p q r (i0 + t * di) (j0 + t * dj)) k n).map D.bl)) h' := by
      show (if lineOk ([D.bl false].length + ((lane (fun t => cov p q r (i0 + t * di) (j0 + t * dj)) k n).map D.bl).length) = true then R.ok (D.lst ([D.bl false] ++ (lane (fun t => cov p q r (i0 + t * di) (j0 + t * dj)) k n).map D.bl)) h' else .stk) = _
      rw [if_pos (by rw [List.length_map, lane_len]; exact decide_eq_true (by simp; omega))]; rfl
    have ad2 : addD (.lst (.bl false :: (lane (fun t => cov p q r (i0 + t * di) (j0 + t * dj)) k n).map D.bl)) (.lst [.bl false]) h' = .ok (.lst ((false :: (lane (fun t => cov p q r (i0 + t * di) (j0 + t * dj)) k n ++ [false])).map D.bl)) h' := by
      show (if lineOk ((D.bl false :: (lane (fun t => cov p q r (i0 + t * di) (j0 + t * dj)) k n).map D.bl).length + [D.bl false].length) = true then R.ok (D.lst ((.bl false :: (lane (fun t => cov p q r (i0 + t * di) (j0 + t * dj)) k n).map D.bl) ++ [.bl false])) h' else .stk) = _
      rw [if_pos (by rw [List.length_cons, List.length_map, lane_len]; exact decide_eq_true (by simp; omega)), List.map_cons, List.map_append]; rfl
    have ei : ((chg (false :: (lane (fun t => cov p q r (i0 + t * di) (j0 + t * dj)) k n ++ [false])) : Nat) : Int) = ((ch false (lane (fun t => cov p q r (i0 + t * di) (j0 + t * dj)) k n ++ [false]) : Nat) : Int) := rfl
    rw [ei] at tn
    clear ei t1 e st2 st1
    generalize D.lst ((false :: (lane (fun t => cov p q r (i0 + t * di) (j0 + t * dj)) k n ++ [false])).map D.bl) = LL at *
    simp only [u__law_lane_right_3, ad1, ad2, tn, ii, Nat.reduceAdd, Nat.reduceEqDiff, runD, startD, endRt, endNx, endExc, seqE, seqNx, seqRt, seqExc, sNil, sPass, sIf, sRet, sRetN, sExpr, sSet, sAsg, sPar, kPar, setAll, sIxS, kSet, L3.sFld, eVar, eC, eBin, eTest, eChain, eUn, tAnd3, tOr3, tNot3, eAnd, eOr, eNot, eIf, aNil, aCons, eTup, eLst, eLstM, eCall, kCall, eMeth, kMeth, clsObj, eB, one, eFld, fldD, fieldAt, L3.putAt, eProp, kProp, noX, eMake, eLc, kLst, iSeq, L3.iZip, kZip, zipL, immS, iRg1, lcNil, lcCons, lcAS, lcBT, lcBF, lcCO, loNil, loCons, loAS, loNx, loCt, loBk, loRt, L3.sFor, sForW, eLcW, wSeq, wZip, kZipW, loopW, lcW, optS, wipeD, gSet, gTupD, gsNil, gsCons, tYes3, eIsi, isiD, kdOf, isK, allB, anyB, sumB, L3.listOf, blsOf, intsOf, asL, bindOk, bindExc, bindStk, toSOk, toSExc, lineOk, addI, subI, negI, mulL, mulR, divI, modI, ltI, leI, gtI, geI, eqI, neI, intB1, intB2, lenTup, lenLst, lenScr, tup0, tup1, tup2, tup3, tup4, tup5, lst0, lst1, lst2, lst3, List.getElem?_cons_zero, List.getElem?_cons_succ, List.getElem?_nil, List.set_cons_zero, List.set_cons_succ, List.length_cons, List.length_nil, List.map_cons, List.map_nil, List.replicate_succ, List.replicate_zero, List.cons_append, List.nil_append, List.append_nil, if_true, if_false, ite_true, ite_false, Bool.false_eq_true, Bool.not_true, Bool.not_false, Bool.true_and, Bool.and_true, Bool.false_and, Bool.and_false, Bool.or_true, Bool.true_or, Bool.false_or, Bool.or_false, and_self, and_true, true_and, Nat.sub_zero, Nat.sub_self, Nat.reduceSub, Nat.reduceAdd, Nat.reduceLeDiff, Nat.reduceEqDiff, decide_true, decide_false, Nat.zero_le]
  show endD (u__law_lane_right [some (tri p q r), some (.lst ((lane (ln i0 j0 di dj) k n).map pl)), none, none, none] h') = _
  simp only [u__law_lane_right, seqE, seqNx, st1, st2, st3, endRt]
end Lw
set_option autoImplicit false
set_option maxHeartbeats 8000000
set_option autoImplicit true
namespace Lw
open PySem PySem.Spec L2 L3
/-! canvases -/
def laneN {α : Type} (f : Nat → α) (k : Nat) : Nat → List α
  | 0 => []
  | n + 1 => f k :: laneN f (k + 1) n
theorem laneN_get {α : Type} (f : Nat → α) : ∀ (n k i : Nat), (laneN f k n)[i]? = if i < n then some (f (k + i)) else none
  | 0, _, i => by rw [if_neg (by omega)]; rfl
  | n + 1, k, 0 => by rw [if_pos (by omega)]; rfl
  | n + 1, k, i + 1 => by
    rw [laneN, List.getElem?_cons_succ, laneN_get f n (k + 1) i]
    by_cases h : i < n
    · rw [if_pos h, if_pos (by omega), show k + 1 + i = k + (i + 1) by omega]
    · rw [if_neg h, if_neg (by omega)]
theorem laneN_len {α : Type} (f : Nat → α) : ∀ (n k : Nat), (laneN f k n).length = n
  | 0, _ => rfl
  | n + 1, k => by rw [laneN, List.length_cons, laneN_len f n]
theorem rgD_lane : ∀ (n : Nat) (k : Int), rgD k n = lane D.int k n
  | 0, _ => rfl
  | n + 1, k => by rw [ri_cons, lane, rgD_lane n]
theorem rg1_okA {x : Int} {h : Hh} (h1 : -1000000 ≤ x) (h2 : x ≤ 1000000) : (match D.int x with
  | .int j => if -(2 ^ 62) ≤ j ∧ j < 2 ^ 62 then R.ok (rgD 0 j.toNat) h else .stk
  | _ => .stk) = .ok (rgD 0 x.toNat) h := by
  show (if -(2 ^ 62) ≤ x ∧ x < 2 ^ 62 then R.ok (rgD 0 x.toNat) h else .stk) = _
  rw [if_pos ⟨by omega, by omega⟩]
theorem rg1_okB {f : FnE} {δ : De} {h : Hh} {x : Int} (e : f δ h = .ok (.int x) h) (h1 : -1000000 ≤ x) (h2 : x ≤ 1000000) : iRg1 f δ h = .ok (rgD 0 x.toNat) h := by
  unfold iRg1
  rw [e]
  exact rg1_okA h1 h2
theorem rg1_ok {f : FnE} {δ : De} {h : Hh} {n : Nat} (e : f δ h = .ok (.int (n : Int)) h) (hn : n ≤ 100000) : iRg1 f δ h = .ok (lane D.int 0 n) h := by
  rw [rg1_okB e (by omega) (by omega), rgD_lane, Int.toNat_natCast]
theorem make_of {c na np : Nat} {sem : Sem3} {ds : List D} {h h2 : Hh} {es : List D} (hn : ds.length + 1 = np) (e : sem (.ref h.length :: ds) (h ++ [.obj c []]) = .ok .non h2) (g : h2[h.length]? = some (.obj c es)) (hl : es.length = na) : kMake c na np sem [] ds h = .ok (.obj c es) (h2.set h.length .dead) := by
  unfold kMake
  rw [List.append_nil, if_pos (by rw [List.length_cons]; exact hn), e]
  unfold endMake
  dsimp only
  rw [g]
  dsimp only
  rw [if_pos ⟨rfl, hl⟩]
def ac (w : Int) : Int := (w + 4 - 1) / 4
def nm (w : Int) (s : Int × Int) : Int := s.2 / 4 * ac w + s.1 / 4
def ptsL (w : Nat) (k : Int) : Nat → List (Int × Int)
  | 0 => []
  | n + 1 => lane (fun i => (i, k)) 0 w ++ ptsL w (k + 1) n
theorem across14 (w : Int) (h : Hh) : f_number_across [.int w] h = .ok (.int (ac w)) h := by
  simp (disch := omega) [f_number_across, u_number_across_1, u_number_across, c_TILE, ac, runD, startD, endRt, endNx, endExc, seqE, seqNx, seqRt, seqExc, sNil, sPass, sIf, sRet, sRetN, sExpr, sSet, sAsg, sPar, kPar, setAll, sIxS, kSet, L3.sFld, eVar, eC, eBin, eTest, eChain, eUn, tAnd3, tOr3, tNot3, eAnd, eOr, eNot, eIf, aNil, aCons, eTup, eLst, eLstM, eCall, kCall, eMeth, kMeth, clsObj, eB, one, eFld, fldD, fieldAt, L3.putAt, eProp, kProp, noX, eMake, eLc, kLst, iSeq, L3.iZip, kZip, zipL, immS, iRg1, lcNil, lcCons, lcAS, lcBT, lcBF, lcCO, loNil, loCons, loAS, loNx, loCt, loBk, loRt, L3.sFor, sForW, eLcW, wSeq, wZip, kZipW, loopW, lcW, optS, wipeD, gSet, gTupD, gsNil, gsCons, tYes3, eIsi, isiD, kdOf, isK, allB, anyB, sumB, L3.listOf, blsOf, intsOf, asL, bindOk, bindExc, bindStk, toSOk, toSExc, lineOk, addI, subI, negI, mulL, mulR, divI, modI, ltI, leI, gtI, geI, eqI, neI, intB1, intB2, lenTup, lenLst, lenScr, tup0, tup1, tup2, tup3, tup4, tup5, lst0, lst1, lst2, lst3, List.getElem?_cons_zero, List.getElem?_cons_succ, List.getElem?_nil, List.set_cons_zero, List.set_cons_succ, List.length_cons, List.length_nil, List.map_cons, List.map_nil, List.replicate_succ, List.replicate_zero, List.cons_append, List.nil_append, List.append_nil, if_true, if_false, ite_true, ite_false, Bool.false_eq_true, Bool.not_true, Bool.not_false, Bool.true_and, Bool.and_true, Bool.false_and, Bool.and_false, Bool.or_true, Bool.true_or, Bool.false_or, Bool.or_false, and_self, and_true, true_and, Nat.sub_zero, Nat.sub_self, Nat.reduceSub, Nat.reduceAdd, Nat.reduceLeDiff, Nat.reduceEqDiff, decide_true, decide_false, Nat.zero_le]
theorem at14 {w : Int} {s : Int × Int} (hs : -1000 ≤ s.2 ∧ s.2 ≤ 1000) (h : Hh) : f_number_at [.int w, pl s] h = .ok (.int (nm w s)) h := by
  have b : -1000 ≤ s.2 / 4 ∧ s.2 / 4 ≤ 1000 := by omega
  have d1 : divD (.int s.2) (.int 4) h = .ok (.int (s.2 / 4)) h := divI h (by omega) (by omega)
  have d2 : divD (.int s.1) (.int 4) h = .ok (.int (s.1 / 4)) h := divI h (by omega) (by omega)
  have m : mulD (.int (s.2 / 4)) (.int (ac w)) h = .ok (.int (s.2 / 4 * ac w)) h := mulL h (by omega) (by omega)
  simp only [f_number_at, u_number_at_1, u_number_at, pl, c_TILE, nm, d1, d2, m, across14, Nat.reduceAdd, Nat.reduceEqDiff, runD, startD, endRt, endNx, endExc, seqE, seqNx, seqRt, seqExc, sNil, sPass, sIf, sRet, sRetN, sExpr, sSet, sAsg, sPar, kPar, setAll, sIxS, kSet, L3.sFld, eVar, eC, eBin, eTest, eChain, eUn, tAnd3, tOr3, tNot3, eAnd, eOr, eNot, eIf, aNil, aCons, eTup, eLst, eLstM, eCall, kCall, eMeth, kMeth, clsObj, eB, one, eFld, fldD, fieldAt, L3.putAt, eProp, kProp, noX, eMake, eLc, kLst, iSeq, L3.iZip, kZip, zipL, immS, iRg1, lcNil, lcCons, lcAS, lcBT, lcBF, lcCO, loNil, loCons, loAS, loNx, loCt, loBk, loRt, L3.sFor, sForW, eLcW, wSeq, wZip, kZipW, loopW, lcW, optS, wipeD, gSet, gTupD, gsNil, gsCons, tYes3, eIsi, isiD, kdOf, isK, allB, anyB, sumB, L3.listOf, blsOf, intsOf, asL, bindOk, bindExc, bindStk, toSOk, toSExc, lineOk, addI, subI, negI, mulL, mulR, divI, modI, ltI, leI, gtI, geI, eqI, neI, intB1, intB2, lenTup, lenLst, lenScr, tup0, tup1, tup2, tup3, tup4, tup5, lst0, lst1, lst2, lst3, List.getElem?_cons_zero, List.getElem?_cons_succ, List.getElem?_nil, List.set_cons_zero, List.set_cons_succ, List.length_cons, List.length_nil, List.map_cons, List.map_nil, List.replicate_succ, List.replicate_zero, List.cons_append, List.nil_append, List.append_nil, if_true, if_false, ite_true, ite_false, Bool.false_eq_true, Bool.not_true, Bool.not_false, Bool.true_and, Bool.and_true, Bool.false_and, Bool.and_false, Bool.or_true, Bool.true_or, Bool.false_or, Bool.or_false, and_self, and_true, true_and, Nat.sub_zero, Nat.sub_self, Nat.reduceSub, Nat.reduceAdd, Nat.reduceLeDiff, Nat.reduceEqDiff, decide_true, decide_false, Nat.zero_le]
theorem lc_in (h : Hh) (w : Nat) (d0 d1 d2 d3 d4 : Option D) (j : Int) : ∀ (n : Nat) (k : Int), lcs (gSet 6) tYes3 (eTup (aCons (eVar 6) (aCons (eVar 5) aNil))) [d0, d1, d2, d3, d4, some (.int j), none, none, none] (lane D.int k n) h = .ok ((lane (fun i => (i, j)) k n).map pl) h
  | 0, _ => rfl
  | n + 1, k => by
    have ih := lc_in h w d0 d1 d2 d3 d4 j n (k + 1)
    rw [lane, lane, lcCons, List.map_cons]
    simp only [ih, pl, runD, startD, endRt, endNx, endExc, seqE, seqNx, seqRt, seqExc, sNil, sPass, sIf, sRet, sRetN, sExpr, sSet, sAsg, sPar, kPar, setAll, sIxS, kSet, L3.sFld, eVar, eC, eBin, eTest, eChain, eUn, tAnd3, tOr3, tNot3, eAnd, eOr, eNot, eIf, aNil, aCons, eTup, eLst, eLstM, eCall, kCall, eMeth, kMeth, clsObj, eB, one, eFld, fldD, fieldAt, L3.putAt, eProp, kProp, noX, eMake, eLc, kLst, iSeq, L3.iZip, kZip, zipL, immS, iRg1, lcNil, lcCons, lcAS, lcBT, lcBF, lcCO, loNil, loCons, loAS, loNx, loCt, loBk, loRt, L3.sFor, sForW, eLcW, wSeq, wZip, kZipW, loopW, lcW, optS, wipeD, gSet, gTupD, gsNil, gsCons, tYes3, eIsi, isiD, kdOf, isK, allB, anyB, sumB, L3.listOf, blsOf, intsOf, asL, bindOk, bindExc, bindStk, toSOk, toSExc, lineOk, addI, subI, negI, mulL, mulR, divI, modI, ltI, leI, gtI, geI, eqI, neI, intB1, intB2, lenTup, lenLst, lenScr, tup0, tup1, tup2, tup3, tup4, tup5, lst0, lst1, lst2, lst3, List.getElem?_cons_zero, List.getElem?_cons_succ, List.getElem?_nil, List.set_cons_zero, List.set_cons_succ, List.length_cons, List.length_nil, List.map_cons, List.map_nil, List.replicate_succ, List.replicate_zero, List.cons_append, List.nil_append, List.append_nil, if_true, if_false, ite_true, ite_false, Bool.false_eq_true, Bool.not_true, Bool.not_false, Bool.true_and, Bool.and_true, Bool.false_and, Bool.and_false, Bool.or_true, Bool.true_or, Bool.false_or, Bool.or_false, and_self, and_true, true_and, Nat.sub_zero, Nat.sub_self, Nat.reduceSub, Nat.reduceAdd, Nat.reduceLeDiff, Nat.reduceEqDiff, decide_true, decide_false, Nat.zero_le]
theorem lc2_step {h : Hh} {g g1 : FnG} {f1 : FnI} {e : FnE} {d : D} {ds : List D} {δ δ1 δ2 : De} {items ys zs : List D} (gs : g d δ = some δ1) (ir : f1 δ1 h = .ok items h) (wd : wipeD δ1 [6] = δ2) (inn : lcs g1 tYes3 e δ2 items h = .ok zs h) (ih : lcs2 g f1 g1 e [6] δ ds h = .ok ys h) : lcs2 g f1 g1 e [6] δ (d :: ds) h = .ok (zs ++ ys) h := by
  rw [lcs2, gs]
  dsimp only
  rw [ir]
  dsimp only
  rw [wd, inn]
  dsimp only
  rw [ih]
  rfl
theorem ir14 (h : Hh) (w : Nat) (hw : w ≤ 100) (d0 d2 d3 d4 : Option D) (k : Int) : iRg1 (eVar 1) [d0, some (.int w), d2, d3, d4, some (.int k), none, none, none] h = .ok (lane D.int 0 w) h := by
  have ev : eVar 1 [d0, some (.int w), d2, d3, d4, some (.int k), none, none, none] h = .ok (.int w) h := rfl
  exact rg1_ok ev (by omega)
theorem lc_out (h : Hh) (w : Nat) (hw : w ≤ 100) (d0 d2 d3 d4 : Option D) (n : Nat) : ∀ (k : Int), lcs2 (gSet 5) (iRg1 (eVar 1)) (gSet 6) (eTup (aCons (eVar 6) (aCons (eVar 5) aNil))) [6] [d0, some (.int w), d2, d3, d4, none, none, none, none] (lane D.int k n) h = .ok ((ptsL w k n).map pl) h := by
  induction n with
  | zero => intro k; rfl
  | succ n ih =>
    intro k
    have s := lc2_step (g := gSet 5) (d := .int k) (δ := [d0, some (.int w), d2, d3, d4, none, none, none, none]) rfl (ir14 h w hw d0 d2 d3 d4 k) rfl (lc_in h w d0 (some (.int w)) d2 d3 d4 k w 0) (ih (k + 1))
    rw [ptsL, List.map_append]
    exact s
theorem lc_new : ∀ (n : Nat) (k : Int) (h : Hh) (d0 d1 d2 d3 d4 d5 d6 : Option D), lcs (gSet 7) tYes3 (eLstM aNil) [d0, d1, d2, d3, d4, d5, d6, none, none] (lane D.int k n) h = .ok (laneN D.ref h.length n) (h ++ List.replicate n (.lst []))
  | 0, _, h, _, _, _, _, _, _, _ => by rw [List.replicate_zero, List.append_nil]; rfl
  | n + 1, k, h, d0, d1, d2, d3, d4, d5, d6 => by
    have ih := lc_new n (k + 1) (h ++ [.lst []]) d0 d1 d2 d3 d4 d5 d6
    rw [List.length_append, List.length_singleton, List.append_assoc] at ih
    rw [lane, lcCons]
    have e : ∀ δ, eLstM aNil δ h = .ok (.ref h.length) (h ++ [.lst []]) := fun _ => rfl
    simp only [gSet, lcAS, tYes3, lcBT, e, lcCO, List.set_cons_succ, List.set_cons_zero] at ih ⊢
    rw [ih]
    rfl
def rowL (w : Int) (done : List (Int × Int)) (m : Nat) : List D := (done.filter fun s => decide (nm w s = (m : Int))).map pl
def rowsO (T : Nat) (w : Int) (done : List (Int × Int)) : Hh := laneN (fun m => O.lst (rowL w done m)) 0 T
theorem rows0 (w : Int) : ∀ (n k : Nat), laneN (fun m => O.lst (rowL w [] m)) k n = List.replicate n (.lst [])
  | 0, _ => rfl
  | n + 1, k => by rw [laneN, rows0 w n, List.replicate_succ]; rfl
theorem rows_set {T : Nat} {w : Int} {done : List (Int × Int)} {s : Int × Int} {m : Nat} (hm : m < T) (e : nm w s = (m : Int)) : (rowsO T w done).set m (.lst (rowL w done m ++ [pl s])) = rowsO T w (done ++ [s]) := by
  refine List.ext_getElem? fun j => ?_
  unfold rowsO
  rw [laneN_get, List.getElem?_set, laneN_get, laneN_len]
  have f : ∀ j : Nat, rowL w (done ++ [s]) j = if j = m then rowL w done j ++ [pl s] else rowL w done j := fun j => by
    unfold rowL
    rw [List.filter_append, List.map_append]
    by_cases c : j = m
    · subst c; rw [if_pos rfl]; simp [e]
    · rw [if_neg c]
      have : ¬ nm w s = (j : Int) := by omega
      simp [this]
  by_cases c : m = j
  · subst c
    rw [if_pos rfl, if_pos hm, if_pos hm, Nat.zero_add, f, if_pos rfl]
  · rw [if_neg c]
    by_cases cj : j < T
    · rw [if_pos cj, if_pos cj, Nat.zero_add, f, if_neg (Ne.symm c)]
    · rw [if_neg cj, if_neg cj]
theorem lc_tup (h : Hh) (X : Nat → List D) (b : Nat) (d0 d1 d2 d3 d4 d5 d6 d7 : Option D) : ∀ (n k : Nat), (∀ m, m < n → h[b + k + m]? = some (.lst (X (k + m)))) → lcs (gSet 8) tYes3 (eB tupleB (aCons (eVar 8) aNil)) [d0, d1, d2, d3, d4, d5, d6, d7, none] (laneN D.ref (b + k) n) h = .ok (laneN (fun m => D.tup (X m)) k n) h
  | 0, _, _ => rfl
  | n + 1, k, hx => by
    have ih := lc_tup h X b d0 d1 d2 d3 d4 d5 d6 d7 n (k + 1) fun m hm => by
      have := hx (m + 1) (by omega)
      rwa [show b + k + (m + 1) = b + (k + 1) + m by omega, show k + (m + 1) = k + 1 + m by omega] at this
    have h0 := hx 0 (by omega)
    rw [Nat.add_zero, Nat.add_zero] at h0
    have t : tupleD (.ref (b + k)) h = .ok (.tup (X k)) h := by unfold tupleD asL; dsimp only; rw [h0]
    rw [laneN, lcCons]
    simp only [gSet, lcAS, tYes3, lcBT, eB, aCons, aNil, eVar, optS, bindOk, List.set_cons_succ, List.set_cons_zero, List.getElem?_cons_succ, List.getElem?_cons_zero, tupleB, one, t, lcCO] at ih ⊢
    rw [show b + k + 1 = b + (k + 1) by omega, ih]
    rfl
end Lw
set_option autoImplicit false
set_option maxHeartbeats 8000000
set_option autoImplicit true
namespace Lw
open PySem PySem.Spec L2 L3
/-- what is asked of a size -/
structure Cz (w hh T : Nat) : Prop where
  w1 : 1 ≤ w ∧ w ≤ 16
  h1 : 1 ≤ hh ∧ hh ≤ 12
  t : ac w * ac hh = (T : Int)
  t1 : T ≤ 100
  len : (ptsL w 0 hh).length ≤ 200
  pts : ∀ s ∈ ptsL w 0 hh, (0 ≤ nm w s ∧ nm w s < (T : Int)) ∧ (0 ≤ s.1 ∧ s.1 ≤ 100) ∧ (0 ≤ s.2 ∧ s.2 ≤ 100)
  ne : ∀ m, m < T → (ptsL w 0 hh).filter (fun s => decide (nm w s = (m : Int))) ≠ []
def cnv (w hh T : Nat) : D := .obj 1 [.int w, .int hh, .tup ((ptsL w 0 hh).map pl), .lst (laneN (fun m => D.tup (rowL w (ptsL w 0 hh) m)) 0 T)]
theorem mid_get (h : Hh) (x : O) (r : Hh) : (h ++ [x] ++ r)[h.length]? = some x := by
  rw [List.append_assoc, List.getElem?_append_right (Nat.le_refl _), Nat.sub_self]; rfl
theorem mid_set (h : Hh) (x y : O) (r : Hh) : (h ++ [x] ++ r).set h.length y = h ++ [y] ++ r := by
  rw [List.append_assoc, List.set_append_right _ _ (Nat.le_refl _), Nat.sub_self, List.append_assoc]; rfl
theorem canvas_run (a b c : D) (h : Hh) : f_Canvas___init__ [a, b, c] h = endD (u_Canvas___init__ [some a, some b, some c, none, none, none, none, none, none] h) := rfl
theorem cst1 {w hh T : Nat} (z : Cz w hh T) (H : Hh) : u_Canvas___init___1 [some (.ref H.length), some (.int w), some (.int hh), none, none, none, none, none, none] (H ++ [.obj 1 []]) = .nx [some (.ref H.length), some (.int w), some (.int hh), none, none, none, none, none, none] (H ++ [.obj 1 []]) := by
  have zw := z.w1
  have zh := z.h1
  have wh1 : f_is_whole_in [.int (w : Int), .int 1, .int 16] (H ++ [.obj 1 []]) = .ok (.bl true) (H ++ [.obj 1 []]) := by
    rw [whole_ok]; unfold betw; rw [decide_eq_true (show (1 : Int) ≤ (w : Int) by omega), decide_eq_true (show (w : Int) ≤ 16 by omega)]; rfl
  have wh2 : f_is_whole_in [.int (hh : Int), .int 1, .int 12] (H ++ [.obj 1 []]) = .ok (.bl true) (H ++ [.obj 1 []]) := by
    rw [whole_ok]; unfold betw; rw [decide_eq_true (show (1 : Int) ≤ (hh : Int) by omega), decide_eq_true (show (hh : Int) ≤ 12 by omega)]; rfl
  simp only [u_Canvas___init___1, c_MAX_WIDTH, c_MAX_HEIGHT, wh1, wh2, Nat.reduceAdd, Nat.reduceEqDiff, runD, startD, endRt, endNx, endExc, seqE, seqNx, seqRt, seqExc, sNil, sPass, sIf, sRet, sRetN, sExpr, sSet, sAsg, sPar, kPar, setAll, sIxS, kSet, L3.sFld, eVar, eC, eBin, eTest, eChain, eUn, tAnd3, tOr3, tNot3, eAnd, eOr, eNot, eIf, aNil, aCons, eTup, eLst, eLstM, eCall, kCall, eMeth, kMeth, clsObj, eB, one, eFld, fldD, fieldAt, L3.putAt, eProp, kProp, noX, eMake, eLc, kLst, iSeq, L3.iZip, kZip, zipL, immS, iRg1, lcNil, lcCons, lcAS, lcBT, lcBF, lcCO, loNil, loCons, loAS, loNx, loCt, loBk, loRt, L3.sFor, sForW, eLcW, wSeq, wZip, kZipW, loopW, lcW, optS, wipeD, gSet, gTupD, gsNil, gsCons, tYes3, eIsi, isiD, kdOf, isK, allB, anyB, sumB, L3.listOf, blsOf, intsOf, asL, bindOk, bindExc, bindStk, toSOk, toSExc, lineOk, addI, subI, negI, mulL, mulR, divI, modI, ltI, leI, gtI, geI, eqI, neI, intB1, intB2, lenTup, lenLst, lenScr, tup0, tup1, tup2, tup3, tup4, tup5, lst0, lst1, lst2, lst3, List.getElem?_cons_zero, List.getElem?_cons_succ, List.getElem?_nil, List.set_cons_zero, List.set_cons_succ, List.length_cons, List.length_nil, List.map_cons, List.map_nil, List.replicate_succ, List.replicate_zero, List.cons_append, List.nil_append, List.append_nil, if_true, if_false, ite_true, ite_false, Bool.false_eq_true, Bool.not_true, Bool.not_false, Bool.true_and, Bool.and_true, Bool.false_and, Bool.and_false, Bool.or_true, Bool.true_or, Bool.false_or, Bool.or_false, and_self, and_true, true_and, Nat.sub_zero, Nat.sub_self, Nat.reduceSub, Nat.reduceAdd, Nat.reduceLeDiff, Nat.reduceEqDiff, decide_true, decide_false, Nat.zero_le]
theorem cst2 (w hh : Nat) (H : Hh) : u_Canvas___init___2 [some (.ref H.length), some (.int w), some (.int hh), none, none, none, none, none, none] (H ++ [.obj 1 []]) = .nx [some (.ref H.length), some (.int w), some (.int hh), none, none, none, none, none, none] (H ++ [.obj 1 [.int w]]) := by
  simp only [u_Canvas___init___2, ix_width, get_last, set_last, runD, startD, endRt, endNx, endExc, seqE, seqNx, seqRt, seqExc, sNil, sPass, sIf, sRet, sRetN, sExpr, sSet, sAsg, sPar, kPar, setAll, sIxS, kSet, L3.sFld, eVar, eC, eBin, eTest, eChain, eUn, tAnd3, tOr3, tNot3, eAnd, eOr, eNot, eIf, aNil, aCons, eTup, eLst, eLstM, eCall, kCall, eMeth, kMeth, clsObj, eB, one, eFld, fldD, fieldAt, L3.putAt, eProp, kProp, noX, eMake, eLc, kLst, iSeq, L3.iZip, kZip, zipL, immS, iRg1, lcNil, lcCons, lcAS, lcBT, lcBF, lcCO, loNil, loCons, loAS, loNx, loCt, loBk, loRt, L3.sFor, sForW, eLcW, wSeq, wZip, kZipW, loopW, lcW, optS, wipeD, gSet, gTupD, gsNil, gsCons, tYes3, eIsi, isiD, kdOf, isK, allB, anyB, sumB, L3.listOf, blsOf, intsOf, asL, bindOk, bindExc, bindStk, toSOk, toSExc, lineOk, addI, subI, negI, mulL, mulR, divI, modI, ltI, leI, gtI, geI, eqI, neI, intB1, intB2, lenTup, lenLst, lenScr, tup0, tup1, tup2, tup3, tup4, tup5, lst0, lst1, lst2, lst3, List.getElem?_cons_zero, List.getElem?_cons_succ, List.getElem?_nil, List.set_cons_zero, List.set_cons_succ, List.length_cons, List.length_nil, List.map_cons, List.map_nil, List.replicate_succ, List.replicate_zero, List.cons_append, List.nil_append, List.append_nil, if_true, if_false, ite_true, ite_false, Bool.false_eq_true, Bool.not_true, Bool.not_false, Bool.true_and, Bool.and_true, Bool.false_and, Bool.and_false, Bool.or_true, Bool.true_or, Bool.false_or, Bool.or_false, and_self, and_true, true_and, Nat.sub_zero, Nat.sub_self, Nat.reduceSub, Nat.reduceAdd, Nat.reduceLeDiff, Nat.reduceEqDiff, decide_true, decide_false, Nat.zero_le]
  rfl
theorem cst3 (w hh : Nat) (H : Hh) : u_Canvas___init___3 [some (.ref H.length), some (.int w), some (.int hh), none, none, none, none, none, none] (H ++ [.obj 1 [.int w]]) = .nx [some (.ref H.length), some (.int w), some (.int hh), none, none, none, none, none, none] (H ++ [.obj 1 [.int w, .int hh]]) := by
  simp only [u_Canvas___init___3, ix_height, get_last, set_last, runD, startD, endRt, endNx, endExc, seqE, seqNx, seqRt, seqExc, sNil, sPass, sIf, sRet, sRetN, sExpr, sSet, sAsg, sPar, kPar, setAll, sIxS, kSet, L3.sFld, eVar, eC, eBin, eTest, eChain, eUn, tAnd3, tOr3, tNot3, eAnd, eOr, eNot, eIf, aNil, aCons, eTup, eLst, eLstM, eCall, kCall, eMeth, kMeth, clsObj, eB, one, eFld, fldD, fieldAt, L3.putAt, eProp, kProp, noX, eMake, eLc, kLst, iSeq, L3.iZip, kZip, zipL, immS, iRg1, lcNil, lcCons, lcAS, lcBT, lcBF, lcCO, loNil, loCons, loAS, loNx, loCt, loBk, loRt, L3.sFor, sForW, eLcW, wSeq, wZip, kZipW, loopW, lcW, optS, wipeD, gSet, gTupD, gsNil, gsCons, tYes3, eIsi, isiD, kdOf, isK, allB, anyB, sumB, L3.listOf, blsOf, intsOf, asL, bindOk, bindExc, bindStk, toSOk, toSExc, lineOk, addI, subI, negI, mulL, mulR, divI, modI, ltI, leI, gtI, geI, eqI, neI, intB1, intB2, lenTup, lenLst, lenScr, tup0, tup1, tup2, tup3, tup4, tup5, lst0, lst1, lst2, lst3, List.getElem?_cons_zero, List.getElem?_cons_succ, List.getElem?_nil, List.set_cons_zero, List.set_cons_succ, List.length_cons, List.length_nil, List.map_cons, List.map_nil, List.replicate_succ, List.replicate_zero, List.cons_append, List.nil_append, List.append_nil, if_true, if_false, ite_true, ite_false, Bool.false_eq_true, Bool.not_true, Bool.not_false, Bool.true_and, Bool.and_true, Bool.false_and, Bool.and_false, Bool.or_true, Bool.true_or, Bool.false_or, Bool.or_false, and_self, and_true, true_and, Nat.sub_zero, Nat.sub_self, Nat.reduceSub, Nat.reduceAdd, Nat.reduceLeDiff, Nat.reduceEqDiff, decide_true, decide_false, Nat.zero_le]
  rfl
theorem cst4 {w hh T : Nat} (z : Cz w hh T) (H : Hh) : u_Canvas___init___4 [some (.ref H.length), some (.int w), some (.int hh), none, none, none, none, none, none] (H ++ [.obj 1 [.int w, .int hh]]) = .nx [some (.ref H.length), some (.int w), some (.int hh), none, none, none, none, none, none] (H ++ [.obj 1 [.int w, .int hh, .tup ((ptsL w 0 hh).map pl)]]) := by
  have zw := z.w1
  have zh := z.h1
  have ir : iRg1 (eVar 2) [some (.ref H.length), some (.int w), some (.int hh), none, none, none, none, none, none] (H ++ [.obj 1 [.int w, .int hh]]) = .ok (lane D.int 0 hh) (H ++ [.obj 1 [.int w, .int hh]]) := rg1_ok rfl (by omega)
  have lo := lc_out (H ++ [.obj 1 [.int w, .int hh]]) w (by omega) (some (.ref H.length)) (some (.int hh)) none none hh 0
  have ln : ((ptsL w 0 hh).map pl).length ≤ 16777216 := by rw [List.length_map]; have := z.len; omega
  unfold u_Canvas___init___4
  simp only [L3.sFld, eB, aCons, aNil, eLc2, ir, bindOk, wipeD, List.set_cons_succ, List.set_cons_zero, lo, kLst, lineOk, ln, decide_true, if_true, Bool.false_eq_true, if_false, one, tupleD, asL, toSOk, eVar, optS, List.getElem?_cons_zero, get_last, set_last, ix_own_places]
  rfl
theorem cst5 {w hh T : Nat} (z : Cz w hh T) (H : Hh) : u_Canvas___init___5 [some (.ref H.length), some (.int w), some (.int hh), none, none, none, none, none, none] (H ++ [.obj 1 [.int w, .int hh, .tup ((ptsL w 0 hh).map pl)]]) = .nx [some (.ref H.length), some (.int w), some (.int hh), some (.lst (laneN D.ref (H.length + 1) T)), none, none, none, none, none] (H ++ [.obj 1 [.int w, .int hh, .tup ((ptsL w 0 hh).map pl)]] ++ rowsO T w []) := by
  have zw := z.w1
  have zh := z.h1
  have mm : mulD (.int (ac w)) (.int (ac hh)) (H ++ [.obj 1 [.int w, .int hh, .tup ((ptsL w 0 hh).map pl)]]) = .ok (.int (ac w * ac hh)) (H ++ [.obj 1 [.int w, .int hh, .tup ((ptsL w 0 hh).map pl)]]) := by
    have : -100 ≤ ac w ∧ ac w ≤ 100 := by unfold ac; omega
    exact mulL _ (by omega) (by omega)
  have ir : iRg1 (eBin mulD (eCall 1 f_number_across (aCons (eVar 1) aNil) []) (eCall 1 f_number_across (aCons (eVar 2) aNil) [])) [some (.ref H.length), some (.int w), some (.int hh), none, none, none, none, none, none] (H ++ [.obj 1 [.int w, .int hh, .tup ((ptsL w 0 hh).map pl)]]) = .ok (lane D.int 0 T) (H ++ [.obj 1 [.int w, .int hh, .tup ((ptsL w 0 hh).map pl)]]) := by
    refine rg1_ok ?_ (by have := z.t1; omega)
    rw [← z.t]
    simp only [across14, mm, Nat.reduceAdd, Nat.reduceEqDiff, runD, startD, endRt, endNx, endExc, seqE, seqNx, seqRt, seqExc, sNil, sPass, sIf, sRet, sRetN, sExpr, sSet, sAsg, sPar, kPar, setAll, sIxS, kSet, L3.sFld, eVar, eC, eBin, eTest, eChain, eUn, tAnd3, tOr3, tNot3, eAnd, eOr, eNot, eIf, aNil, aCons, eTup, eLst, eLstM, eCall, kCall, eMeth, kMeth, clsObj, eB, one, eFld, fldD, fieldAt, L3.putAt, eProp, kProp, noX, eMake, eLc, kLst, iSeq, L3.iZip, kZip, zipL, immS, iRg1, lcNil, lcCons, lcAS, lcBT, lcBF, lcCO, loNil, loCons, loAS, loNx, loCt, loBk, loRt, L3.sFor, sForW, eLcW, wSeq, wZip, kZipW, loopW, lcW, optS, wipeD, gSet, gTupD, gsNil, gsCons, tYes3, eIsi, isiD, kdOf, isK, allB, anyB, sumB, L3.listOf, blsOf, intsOf, asL, bindOk, bindExc, bindStk, toSOk, toSExc, lineOk, addI, subI, negI, mulL, mulR, divI, modI, ltI, leI, gtI, geI, eqI, neI, intB1, intB2, lenTup, lenLst, lenScr, tup0, tup1, tup2, tup3, tup4, tup5, lst0, lst1, lst2, lst3, List.getElem?_cons_zero, List.getElem?_cons_succ, List.getElem?_nil, List.set_cons_zero, List.set_cons_succ, List.length_cons, List.length_nil, List.map_cons, List.map_nil, List.replicate_succ, List.replicate_zero, List.cons_append, List.nil_append, List.append_nil, if_true, if_false, ite_true, ite_false, Bool.false_eq_true, Bool.not_true, Bool.not_false, Bool.true_and, Bool.and_true, Bool.false_and, Bool.and_false, Bool.or_true, Bool.true_or, Bool.false_or, Bool.or_false, and_self, and_true, true_and, Nat.sub_zero, Nat.sub_self, Nat.reduceSub, Nat.reduceAdd, Nat.reduceLeDiff, Nat.reduceEqDiff, decide_true, decide_false, Nat.zero_le]
  have ln := lc_new T 0 (H ++ [.obj 1 [.int w, .int hh, .tup ((ptsL w 0 hh).map pl)]]) (some (.ref H.length)) (some (.int w)) (some (.int hh)) none none none none
  have l2 : (laneN D.ref (H ++ [O.obj 1 [.int w, .int hh, .tup ((ptsL w 0 hh).map pl)]]).length T).length ≤ 16777216 := by rw [laneN_len]; have := z.t1; omega
  unfold u_Canvas___init___5
  simp only [sSet, eLc, ir, bindOk, wipeD, List.set_cons_succ, List.set_cons_zero, ln, kLst, lineOk, l2, decide_true, if_true, Bool.false_eq_true, if_false, toSOk]
  unfold rowsO
  rw [rows0, List.length_append, List.length_singleton]
end Lw
set_option autoImplicit false
set_option maxHeartbeats 8000000
set_option autoImplicit true
namespace Lw
open PySem PySem.Spec L2 L3
theorem cst7 {w hh T : Nat} {H H1 : Hh} {P : List (Int × Int)} (hC : H ++ [O.obj 1 [.int w, .int hh, .tup (P.map pl)]] = H1) (lH : H1.length = H.length + 1) (t1 : T ≤ 100) : ∀ x4, u_Canvas___init___7 [some (.ref H.length), some (.int w), some (.int hh), some (.lst (laneN D.ref (H.length + 1) T)), x4, none, none, none, none] (H1 ++ rowsO T w P) = .nx [some (.ref H.length), some (.int w), some (.int hh), some (.lst (laneN D.ref (H.length + 1) T)), x4, none, none, none, none] (H ++ [O.obj 1 [.int w, .int hh, .tup (P.map pl), .lst (laneN (fun m => D.tup (rowL w P m)) 0 T)]] ++ rowsO T w P) := by
  intro x4
  have lt := lc_tup (H1 ++ rowsO T w P) (rowL w P) (H.length + 1) (some (.ref H.length)) (some (.int w)) (some (.int hh)) (some (.lst (laneN D.ref (H.length + 1) T))) x4 none none none T 0 fun m hm => by
    rw [Nat.add_zero, Nat.zero_add, List.getElem?_append_right (by omega), show H.length + 1 + m - H1.length = m by omega]
    unfold rowsO
    rw [laneN_get, if_pos hm, Nat.zero_add]
  rw [Nat.add_zero] at lt
  have l2 : (laneN (fun m => D.tup (rowL w P m)) 0 T).length ≤ 16777216 := by rw [laneN_len]; have := t1; omega
  have g := mid_get H (O.obj 1 [.int w, .int hh, .tup (P.map pl)]) (rowsO T w P)
  have sm := mid_set H (O.obj 1 [.int w, .int hh, .tup (P.map pl)]) (O.obj 1 [.int w, .int hh, .tup (P.map pl), .lst (laneN (fun m => D.tup (rowL w P m)) 0 T)]) (rowsO T w P)
  rw [hC] at g sm
  unfold u_Canvas___init___7
  simp only [L3.sFld, eLcW, wSeq, eVar, optS, bindOk, List.getElem?_cons_zero, List.getElem?_cons_succ, lcW, wipeD, List.set_cons_succ, List.set_cons_zero, lt, kLst, lineOk, l2, decide_true, if_true, Bool.false_eq_true, if_false, toSOk, g, ix_own_tiles]
  exact congrArg (RS.nx _) sm
theorem cstep {w hh T : Nat} {H H1 : Hh} {P : List (Int × Int)} (hC : H ++ [O.obj 1 [.int w, .int hh, .tup (P.map pl)]] = H1) (lH : H1.length = H.length + 1) (t1 : T ≤ 100) (lenP : P.length ≤ 200) (ptsP : ∀ s ∈ P, (0 ≤ nm w s ∧ nm w s < (T : Int)) ∧ (0 ≤ s.1 ∧ s.1 ≤ 100) ∧ (0 ≤ s.2 ∧ s.2 ≤ 100)) {i : Nat} {s : Int × Int} (e3 : P[i]? = some s) :
    u_Canvas___init___6_1 [some (.ref H.length), some (.int w), some (.int hh), some (.lst (laneN D.ref (H.length + 1) T)), some (pl s), none, none, none, none] (H1 ++ rowsO T w (P.take i)) = .nx [some (.ref H.length), some (.int w), some (.int hh), some (.lst (laneN D.ref (H.length + 1) T)), some (pl s), none, none, none, none] (H1 ++ rowsO T w (P.take (i + 1))) := by
  obtain ⟨n1, n2, n3⟩ := ptsP s (List.mem_of_getElem? e3)
  have il := (List.getElem?_eq_some_iff.mp e3).1
  obtain ⟨m, em⟩ : ∃ m : Nat, nm w s = (m : Int) := ⟨(nm w s).toNat, by omega⟩
  have hm : m < T := by omega
  have fa := fun h => at14 (w := w) (s := s) (by omega) h
  rw [em] at fa
  have ix : ∀ h, ixA (.lst (laneN D.ref (H.length + 1) T)) (.int (m : Int)) h = .ok (.ref (H.length + 1 + m)) h := fun h => ixLstAt (by omega) (by rw [Int.toNat_natCast, laneN_get, if_pos hm])
  have gr : (H1 ++ rowsO T w (P.take i))[H.length + 1 + m]? = some (.lst (rowL w (P.take i) m)) := by
    rw [List.getElem?_append_right (by omega), show H.length + 1 + m - H1.length = m by omega]
    unfold rowsO
    rw [laneN_get, if_pos hm, Nat.zero_add]
  have sr : (H1 ++ rowsO T w (P.take i)).set (H.length + 1 + m) (.lst (rowL w (P.take i) m ++ [pl s])) = H1 ++ rowsO T w (P.take (i + 1)) := by
    rw [List.set_append_right _ _ (by omega), show H.length + 1 + m - H1.length = m by omega, rows_set hm em, List.take_add_one, e3]
    rfl
  have lr : (rowL w (P.take i) m).length < 16777216 := by
    unfold rowL
    rw [List.length_map]
    have := List.length_filter_le (fun s => decide (nm w s = (m : Int))) (P.take i)
    rw [List.length_take] at this
    omega
  have mu : mutL (H1 ++ rowsO T w (P.take i)) (.ref (H.length + 1 + m)) = some (H.length + 1 + m, rowL w (P.take i) m) := by unfold mutL; dsimp only; rw [gr]
  have as : (asL (H1 ++ rowsO T w (P.take i)) (.ref (H.length + 1 + m))).isSome = true := by unfold asL; dsimp only; rw [gr]; rfl
  simp only [u_Canvas___init___6_1, sExpr, eM, kM, eBin, eCall, kCall, aCons, aNil, eVar, optS, bindOk, List.getElem?_cons_zero, List.getElem?_cons_succ, List.set_cons_zero, List.set_cons_succ, List.append_nil, List.length_cons, List.length_nil, Nat.reduceAdd, if_true, fa, ix, as, appendM, mu, lr, sr, toSOk]
end Lw
set_option autoImplicit false
set_option maxHeartbeats 8000000
set_option autoImplicit true
namespace Lw
open PySem PySem.Spec L2 L3
theorem cloop {w hh T : Nat} {H H1 : Hh} {P : List (Int × Int)} (hC : H ++ [O.obj 1 [.int w, .int hh, .tup (P.map pl)]] = H1) (lH : H1.length = H.length + 1) (t1 : T ≤ 100) (lenP : P.length ≤ 200) (ptsP : ∀ s ∈ P, (0 ≤ nm w s ∧ nm w s < (T : Int)) ∧ (0 ≤ s.1 ∧ s.1 ≤ 100) ∧ (0 ≤ s.2 ∧ s.2 ≤ 100)) : ∃ x4, loop3 (gSet 4) u_Canvas___init___6_1 (P.map pl) [some (.ref H.length), some (.int w), some (.int hh), some (.lst (laneN D.ref (H.length + 1) T)), none, none, none, none, none] (H1 ++ rowsO T w []) = .nx [some (.ref H.length), some (.int w), some (.int hh), some (.lst (laneN D.ref (H.length + 1) T)), x4, none, none, none, none] (H1 ++ rowsO T w P) := by
  obtain ⟨δ', h', e, ⟨x4, rfl, rfl⟩⟩ := loop_ok (g := gSet 4) (u := u_Canvas___init___6_1) (fun n δ h' => ∃ x4, δ = [some (.ref H.length), some (.int w), some (.int hh), some (.lst (laneN D.ref (H.length + 1) T)), x4, none, none, none, none] ∧ h' = H1 ++ rowsO T w (P.take n)) (P.map pl) 0 [some (.ref H.length), some (.int w), some (.int hh), some (.lst (laneN D.ref (H.length + 1) T)), none, none, none, none, none] (H1 ++ rowsO T w []) ⟨none, rfl, by rw [List.take_zero]⟩ fun i d e δ h1 ⟨x4, e1, e2⟩ => by
    subst e1; subst e2
    rw [List.getElem?_map] at e
    obtain ⟨s, e3, rfl⟩ := Option.map_eq_some_iff.mp e
    have stp := cstep (hh := hh) hC lH t1 lenP ptsP e3
    rw [Nat.zero_add]
    exact ⟨_, _, _, rfl, .inl stp, ⟨some (pl s), rfl, rfl⟩⟩
  refine ⟨x4, ?_⟩
  rw [List.length_map, Nat.zero_add, List.take_length] at e
  exact e
theorem cst6 {w hh T : Nat} {H H1 : Hh} {P : List (Int × Int)} (hC : H ++ [O.obj 1 [.int w, .int hh, .tup (P.map pl)]] = H1) (lH : H1.length = H.length + 1) (t1 : T ≤ 100) (lenP : P.length ≤ 200) (ptsP : ∀ s ∈ P, (0 ≤ nm w s ∧ nm w s < (T : Int)) ∧ (0 ≤ s.1 ∧ s.1 ≤ 100) ∧ (0 ≤ s.2 ∧ s.2 ≤ 100)) : ∃ x4, u_Canvas___init___6 [some (.ref H.length), some (.int w), some (.int hh), some (.lst (laneN D.ref (H.length + 1) T)), none, none, none, none, none] (H1 ++ rowsO T w []) = .nx [some (.ref H.length), some (.int w), some (.int hh), some (.lst (laneN D.ref (H.length + 1) T)), x4, none, none, none, none] (H1 ++ rowsO T w P) := by
  obtain ⟨x4, e⟩ := cloop (hh := hh) hC lH t1 lenP ptsP
  refine ⟨x4, ?_⟩
  have fd : ∀ t, fldD ix_own_places (.ref H.length) (H ++ [O.obj 1 [.int w, .int hh, .tup (P.map pl)]] ++ t) = .ok (.tup (P.map pl)) (H ++ [O.obj 1 [.int w, .int hh, .tup (P.map pl)]] ++ t) := fun t => by unfold fldD; dsimp only; rw [mid_get]; rfl
  rw [hC] at fd
  unfold u_Canvas___init___6
  simp only [sForW, wSeq, eFld, eVar, optS, bindOk, List.getElem?_cons_zero, fd, toSOk, loopW]
  exact e
end Lw
set_option autoImplicit false
set_option maxHeartbeats 8000000
set_option autoImplicit true
namespace Lw
open PySem PySem.Spec L2 L3
theorem canvas_end {w hh T : Nat} {H : Hh} {P : List (Int × Int)} {δ : De} (run : endD (u_Canvas___init__ [some (.ref H.length), some (.int w), some (.int hh), none, none, none, none, none, none] (H ++ [.obj 1 []])) = .ok .non (H ++ [O.obj 1 [.int w, .int hh, .tup (P.map pl), .lst (laneN (fun m => D.tup (rowL w P m)) 0 T)]] ++ rowsO T w P)) :
    kMake 1 4 3 f_Canvas___init__ [] [.int w, .int hh] H = .ok (.obj 1 [.int w, .int hh, .tup (P.map pl), .lst (laneN (fun m => D.tup (rowL w P m)) 0 T)]) (H ++ [.dead] ++ rowsO T w P) := by
  rw [← canvas_run] at run
  have mo := make_of (c := 1) (na := 4) (np := 3) (sem := f_Canvas___init__) (ds := [.int w, .int hh]) (h := H) rfl run (mid_get _ _ _) rfl
  rw [mo, mid_set]
theorem seq_nx {u v : FnS} {δ δ1 : De} {h h1 : Hh} {r : RS} (e : u δ h = .nx δ1 h1) (e2 : v δ1 h1 = r) : sSeq u v δ h = r := by
  unfold sSeq
  rw [e]
  exact e2
theorem end_nx {u : FnS} {δ δ1 : De} {h h1 : Hh} (e : u δ h = .nx δ1 h1) : endD (u δ h) = .ok .non h1 := by rw [e]; rfl
theorem canvas_mid {w hh T : Nat} (z : Cz w hh T) (H : Hh) : endD (u_Canvas___init__ [some (.ref H.length), some (.int w), some (.int hh), none, none, none, none, none, none] (H ++ [.obj 1 []])) = .ok .non (H ++ [O.obj 1 [.int w, .int hh, .tup ((ptsL w 0 hh).map pl), .lst (laneN (fun m => D.tup (rowL w (ptsL w 0 hh) m)) 0 T)]] ++ rowsO T w (ptsL w 0 hh)) := by
  obtain ⟨x4, st6⟩ := cst6 (hh := hh) (w := w) (T := T) (H := H) (P := ptsL w 0 hh) rfl (by rw [List.length_append, List.length_singleton]) z.t1 z.len z.pts
  have st7 := cst7 (hh := hh) (w := w) (T := T) (H := H) (P := ptsL w 0 hh) rfl (by rw [List.length_append, List.length_singleton]) z.t1 x4
  have k := seq_nx (cst1 z H) (seq_nx (cst2 w hh H) (seq_nx (cst3 w hh H) (seq_nx (cst4 z H) (seq_nx (cst5 z H) (seq_nx st6 st7)))))
  unfold u_Canvas___init__
  exact end_nx k
theorem canvas_ok {w hh T : Nat} (z : Cz w hh T) (H : Hh) : kMake 1 4 3 f_Canvas___init__ [] [.int w, .int hh] H = .ok (cnv w hh T) (H ++ [.dead] ++ rowsO T w (ptsL w 0 hh)) := by
  have := canvas_end (δ := []) (canvas_mid z H)
  rw [this]
  rfl
end Lw
set_option autoImplicit false
set_option maxHeartbeats 8000000
set_option autoImplicit true
namespace Lw
open PySem PySem.Spec L2 L3
/-! tiles -/
theorem tiles14 {w hh T : Nat} (h : Hh) : f_Canvas_tiles [cnv w hh T] h = .ok (.int (T : Int)) h := by
  have f : fldD ix_own_tiles (cnv w hh T) h = .ok (.lst (laneN (fun m => D.tup (rowL w (ptsL w 0 hh) m)) 0 T)) h := rfl
  have r : ∀ c h, f_Canvas_tiles [c] h = endD (u_Canvas_tiles [some c] h) := fun _ _ => rfl
  rw [r]
  generalize cnv w hh T = C at *
  simp only [u_Canvas_tiles, u_Canvas_tiles_1, f, sRet, sExpr, sIf, tNot3, eTest, eCall, kCall, eB, aCons, aNil, eFld, eVar, eC, eBin, optS, bindOk, List.getElem?_cons_zero, List.getElem?_cons_succ, lenLst, laneN_len, subI, List.length_cons, List.length_nil, List.append_nil, Nat.reduceAdd, if_true, Bool.not_true, Bool.false_eq_true, if_false, toSOk, sNil, endRt, endNx, seqE, seqNx]
theorem places14 {w hh T : Nat} (h : Hh) {k : Nat} (hk : k < T) (ht : T ≤ 100) : f_Canvas_places_of [cnv w hh T, .int (k : Int)] h = .ok (.tup (rowL w (ptsL w 0 hh) k)) h := by
  have f : fldD ix_own_tiles (cnv w hh T) h = .ok (.lst (laneN (fun m => D.tup (rowL w (ptsL w 0 hh) m)) 0 T)) h := rfl
  have ix : ixA (.lst (laneN (fun m => D.tup (rowL w (ptsL w 0 hh) m)) 0 T)) (.int (k : Int)) h = .ok (.tup (rowL w (ptsL w 0 hh) k)) h := ixLstAt (by omega) (by rw [Int.toNat_natCast, laneN_get, if_pos hk, Nat.zero_add])
  have ln : (laneN (fun m => D.tup (rowL w (ptsL w 0 hh) m)) 0 T).length = T := laneN_len _ _ _
  have r : ∀ c d h, f_Canvas_places_of [c, d] h = endD (u_Canvas_places_of [some c, some d] h) := fun _ _ _ => rfl
  have r2 : ∀ c d h, f_need_tile_on [c, d] h = endD (u_need_tile_on [some c, some d] h) := fun _ _ _ => rfl
  have cl : clsOf h (cnv w hh T) = some 1 := rfl
  generalize cnv w hh T = C at *
  generalize laneN (fun m => D.tup (rowL w (ptsL w 0 hh) m)) 0 T = L at *
  have wo : f_is_whole_in [.int (k : Int), .int 0, .int ((T : Int) - 1)] h = .ok (.bl true) h := by
    rw [whole_ok]; unfold betw; rw [decide_eq_true (show (0 : Int) ≤ (k : Int) by omega), decide_eq_true (show (k : Int) ≤ (T : Int) - 1 by omega)]; rfl
  have nd : f_need_tile_on [C, .int (k : Int)] h = .ok .non h := by
    rw [r2]
    simp only [u_need_tile_on, u_need_tile_on_1, f, ln, wo, sRet, sExpr, sIf, tNot3, eTest, eCall, kCall, eB, aCons, aNil, eFld, eVar, eC, eBin, optS, bindOk, List.getElem?_cons_zero, List.getElem?_cons_succ, lenLst, laneN_len, subI, List.length_cons, List.length_nil, List.append_nil, Nat.reduceAdd, if_true, Bool.not_true, Bool.false_eq_true, if_false, toSOk, sNil, endRt, endNx, seqE, seqNx]
  rw [r]
  simp only [u_Canvas_places_of, u_Canvas_places_of_1, u_Canvas_places_of_2, f, ix, nd, sRet, sExpr, sIf, tNot3, eTest, eCall, kCall, eB, aCons, aNil, eFld, eVar, eC, eBin, optS, bindOk, List.getElem?_cons_zero, List.getElem?_cons_succ, lenLst, laneN_len, subI, List.length_cons, List.length_nil, List.append_nil, Nat.reduceAdd, if_true, Bool.not_true, Bool.false_eq_true, if_false, toSOk, sNil, endRt, endNx, seqE, seqNx]
theorem lt_diff (g : Int) (q r : Cn) (i j a b : Int) : g * ev q r i j = g * ev q r a b + 2 * ((i - a) * (g * exx q r)) + 2 * ((j - b) * (g * exy q r)) := by unfold ev; grind
theorem lt_box {g : Int} {q r : Cn} {l x t y i j : Int} (hi : l ≤ i ∧ i ≤ x) (hj : t ≤ j ∧ j ≤ y) : ((lt g q r l t ∧ lt g q r x t ∧ lt g q r l y ∧ lt g q r x y) → lt g q r i j) ∧ (lt g q r i j → (lt g q r l t ∨ lt g q r x t ∨ lt g q r l y ∨ lt g q r x y)) := by
  have k1 : 0 ≤ i - l := by omega
  have k2 : 0 ≤ x - i := by omega
  have k3 : 0 ≤ j - t := by omega
  have k4 : 0 ≤ y - j := by omega
  have e1 := lt_diff g q r i j l t
  have e2 := lt_diff g q r i j x t
  have e3 := lt_diff g q r i j l y
  have e4 := lt_diff g q r i j x y
  by_cases cx : 0 ≤ g * exx q r
  · have a1 := Int.mul_nonneg k1 cx
    have a2 := Int.mul_nonneg k2 cx
    have a2' : (i - x) * (g * exx q r) = -((x - i) * (g * exx q r)) := by grind
    by_cases cy : 0 ≤ g * exy q r
    · have b1 := Int.mul_nonneg k3 cy
      have b2 := Int.mul_nonneg k4 cy
      have b2' : (j - y) * (g * exy q r) = -((y - j) * (g * exy q r)) := by grind
      exact ⟨fun h => pos3_up (by omega) h.1, fun h => .inr (.inr (.inr (pos3_up (by omega) h)))⟩
    · have cy' : 0 ≤ -(g * exy q r) := by omega
      have b1 := Int.mul_nonneg k3 cy'
      have b2 := Int.mul_nonneg k4 cy'
      rw [Int.mul_neg] at b1 b2
      have b2' : (j - y) * (g * exy q r) = -((y - j) * (g * exy q r)) := by grind
      exact ⟨fun h => pos3_up (by omega) h.2.2.1, fun h => .inr (.inl (pos3_up (by omega) h))⟩
  · have cx' : 0 ≤ -(g * exx q r) := by omega
    have a1 := Int.mul_nonneg k1 cx'
    have a2 := Int.mul_nonneg k2 cx'
    rw [Int.mul_neg] at a1 a2
    have a2' : (i - x) * (g * exx q r) = -((x - i) * (g * exx q r)) := by grind
    by_cases cy : 0 ≤ g * exy q r
    · have b1 := Int.mul_nonneg k3 cy
      have b2 := Int.mul_nonneg k4 cy
      have b2' : (j - y) * (g * exy q r) = -((y - j) * (g * exy q r)) := by grind
      exact ⟨fun h => pos3_up (by omega) h.2.1, fun h => .inr (.inr (.inl (pos3_up (by omega) h)))⟩
    · have cy' : 0 ≤ -(g * exy q r) := by omega
      have b1 := Int.mul_nonneg k3 cy'
      have b2 := Int.mul_nonneg k4 cy'
      rw [Int.mul_neg] at b1 b2
      have b2' : (j - y) * (g * exy q r) = -((y - j) * (g * exy q r)) := by grind
      exact ⟨fun h => pos3_up (by omega) h.2.2.2, fun h => .inl (pos3_up (by omega) h)⟩
theorem edge_box {p q r : Cn} {e l x t y : Int} {s : Int × Int} (hi : l ≤ s.1 ∧ s.1 ≤ x) (hj : t ≤ s.2 ∧ s.2 ≤ y) (v : Bool) (h1 : edgeL p q r e (l, t) = v) (h2 : edgeL p q r e (x, t) = v) (h3 : edgeL p q r e (l, y) = v) (h4 : edgeL p q r e (x, y) = v) : edgeL p q r e s = v := by
  have main : ∀ (q' r' : Cn) (f : Int × Int → Bool), (∀ s, f s = decide (lt (sg (det p q r)) q' r' s.1 s.2)) → f (l, t) = v → f (x, t) = v → f (l, y) = v → f (x, y) = v → f s = v := fun q' r' f hf h1 h2 h3 h4 => by
    rw [hf] at h1 h2 h3 h4 ⊢
    obtain ⟨bt, bf⟩ := lt_box (g := sg (det p q r)) (q := q') (r := r') hi hj
    cases v with
    | true => exact decide_eq_true (bt ⟨of_decide_eq_true h1, of_decide_eq_true h2, of_decide_eq_true h3, of_decide_eq_true h4⟩)
    | false =>
      refine decide_eq_false fun c => ?_
      rcases bf c with c | c | c | c
      · exact of_decide_eq_false h1 c
      · exact of_decide_eq_false h2 c
      · exact of_decide_eq_false h3 c
      · exact of_decide_eq_false h4 c
  unfold edgeL at *
  by_cases c0 : e = 0
  · simp only [c0, if_true] at *
    exact main q r (fun s => decide (lt (sg (det p q r)) q r s.1 s.2)) (fun _ => rfl) h1 h2 h3 h4
  · by_cases c1 : e = 1
    · simp only [c0, c1, if_true, if_false] at *
      exact main r p (fun s => decide (lt (sg (det p q r)) r p s.1 s.2)) (fun _ => rfl) (by simpa using h1) (by simpa using h2) (by simpa using h3) (by simpa using h4)
    · simp only [c0, c1, if_false] at *
      exact main p q (fun s => decide (lt (sg (det p q r)) p q s.1 s.2)) (fun _ => rfl) h1 h2 h3 h4
theorem ints_map : ∀ ns : List Int, intsOf (ns.map D.int) = some ns
  | [] => rfl
  | n :: ns => by rw [List.map_cons, intsOf, ints_map ns]; rfl
theorem minS14 {ns : List Int} (hn : ns ≠ []) (h : Hh) : minSB [.lst (ns.map D.int)] h = .ok (.int (mnI ns)) h ∧ maxSB [.lst (ns.map D.int)] h = .ok (.int (mxI ns)) h := by
  cases ns with
  | nil => exact absurd rfl hn
  | cons n ns =>
    have e : (asSeq h (.lst ((n :: ns).map D.int))).bind intsOf = some (n :: ns) := ints_map (n :: ns)
    constructor
    · unfold minSB; dsimp only; rw [e]
    · unfold maxSB; dsimp only; rw [e]
theorem mn_le {ns : List Int} {x : Int} (hx : x ∈ ns) : mnI ns ≤ x ∧ x ≤ mxI ns := by
  cases ns with
  | nil => cases hx
  | cons n ns =>
    obtain ⟨_, a1, a2⟩ := mnL ns n
    obtain ⟨_, b1, b2⟩ := mxL ns n
    rcases List.mem_cons.mp hx with rfl | hx
    · exact ⟨a1, b1⟩
    · exact ⟨a2 _ hx, b2 _ hx⟩
theorem mn_bd {ns : List Int} (hn : ns ≠ []) (hb : ∀ x ∈ ns, 0 ≤ x ∧ x ≤ 100) : (0 ≤ mnI ns ∧ mnI ns ≤ 100) ∧ (0 ≤ mxI ns ∧ mxI ns ≤ 100) := by
  cases ns with
  | nil => exact absurd rfl hn
  | cons n ns =>
    obtain ⟨a0, _, _⟩ := mnL ns n
    obtain ⟨b0, _, _⟩ := mxL ns n
    constructor
    · show 0 ≤ ns.foldl mnF n ∧ ns.foldl mnF n ≤ 100
      rcases a0 with e | e
      · rw [e]; exact hb n List.mem_cons_self
      · exact hb _ (List.mem_cons_of_mem _ e)
    · show 0 ≤ ns.foldl mxF n ∧ ns.foldl mxF n ≤ 100
      rcases b0 with e | e
      · rw [e]; exact hb n List.mem_cons_self
      · exact hb _ (List.mem_cons_of_mem _ e)
theorem lc_fst (d0 d1 d2 d3 d4 d5 d6 d7 d8 d9 d10 d13 : Option D) (h : Hh) : ∀ ps : List (Int × Int), lcs (gTupD 2 (gsCons (gSet 11) (gsCons (gSet 12) gsNil))) tYes3 (eVar 11) [d0, d1, d2, d3, d4, d5, d6, d7, d8, d9, d10, none, none, d13] (ps.map pl) h = .ok ((ps.map (·.1)).map D.int) h ∧ lcs (gTupD 2 (gsCons (gSet 11) (gsCons (gSet 12) gsNil))) tYes3 (eVar 12) [d0, d1, d2, d3, d4, d5, d6, d7, d8, d9, d10, none, none, d13] (ps.map pl) h = .ok ((ps.map (·.2)).map D.int) h
  | [] => ⟨rfl, rfl⟩
  | s :: ps => by
    obtain ⟨i1, i2⟩ := lc_fst d0 d1 d2 d3 d4 d5 d6 d7 d8 d9 d10 d13 h ps
    constructor
    · rw [List.map_cons, lcCons, List.map_cons, List.map_cons]
      simp only [i1, pl, Nat.reduceAdd, Nat.reduceEqDiff, runD, startD, endRt, endNx, endExc, seqE, seqNx, seqRt, seqExc, sNil, sPass, sIf, sRet, sRetN, sExpr, sSet, sAsg, sPar, kPar, setAll, sIxS, kSet, L3.sFld, eVar, eC, eBin, eTest, eChain, eUn, tAnd3, tOr3, tNot3, eAnd, eOr, eNot, eIf, aNil, aCons, eTup, eLst, eLstM, eCall, kCall, eMeth, kMeth, clsObj, eB, one, eFld, fldD, fieldAt, L3.putAt, eProp, kProp, noX, eMake, eLc, kLst, iSeq, L3.iZip, kZip, zipL, immS, iRg1, lcNil, lcCons, lcAS, lcBT, lcBF, lcCO, loNil, loCons, loAS, loNx, loCt, loBk, loRt, L3.sFor, sForW, eLcW, wSeq, wZip, kZipW, loopW, lcW, optS, wipeD, gSet, gTupD, gsNil, gsCons, tYes3, eIsi, isiD, kdOf, isK, allB, anyB, sumB, L3.listOf, blsOf, intsOf, asL, bindOk, bindExc, bindStk, toSOk, toSExc, lineOk, addI, subI, negI, mulL, mulR, divI, modI, ltI, leI, gtI, geI, eqI, neI, intB1, intB2, lenTup, lenLst, lenScr, tup0, tup1, tup2, tup3, tup4, tup5, lst0, lst1, lst2, lst3, List.getElem?_cons_zero, List.getElem?_cons_succ, List.getElem?_nil, List.set_cons_zero, List.set_cons_succ, List.length_cons, List.length_nil, List.map_cons, List.map_nil, List.replicate_succ, List.replicate_zero, List.cons_append, List.nil_append, List.append_nil, if_true, if_false, ite_true, ite_false, Bool.false_eq_true, Bool.not_true, Bool.not_false, Bool.true_and, Bool.and_true, Bool.false_and, Bool.and_false, Bool.or_true, Bool.true_or, Bool.false_or, Bool.or_false, and_self, and_true, true_and, Nat.sub_zero, Nat.sub_self, Nat.reduceSub, Nat.reduceAdd, Nat.reduceLeDiff, Nat.reduceEqDiff, decide_true, decide_false, Nat.zero_le]
    · rw [List.map_cons, lcCons, List.map_cons, List.map_cons]
      simp only [i2, pl, Nat.reduceAdd, Nat.reduceEqDiff, runD, startD, endRt, endNx, endExc, seqE, seqNx, seqRt, seqExc, sNil, sPass, sIf, sRet, sRetN, sExpr, sSet, sAsg, sPar, kPar, setAll, sIxS, kSet, L3.sFld, eVar, eC, eBin, eTest, eChain, eUn, tAnd3, tOr3, tNot3, eAnd, eOr, eNot, eIf, aNil, aCons, eTup, eLst, eLstM, eCall, kCall, eMeth, kMeth, clsObj, eB, one, eFld, fldD, fieldAt, L3.putAt, eProp, kProp, noX, eMake, eLc, kLst, iSeq, L3.iZip, kZip, zipL, immS, iRg1, lcNil, lcCons, lcAS, lcBT, lcBF, lcCO, loNil, loCons, loAS, loNx, loCt, loBk, loRt, L3.sFor, sForW, eLcW, wSeq, wZip, kZipW, loopW, lcW, optS, wipeD, gSet, gTupD, gsNil, gsCons, tYes3, eIsi, isiD, kdOf, isK, allB, anyB, sumB, L3.listOf, blsOf, intsOf, asL, bindOk, bindExc, bindStk, toSOk, toSExc, lineOk, addI, subI, negI, mulL, mulR, divI, modI, ltI, leI, gtI, geI, eqI, neI, intB1, intB2, lenTup, lenLst, lenScr, tup0, tup1, tup2, tup3, tup4, tup5, lst0, lst1, lst2, lst3, List.getElem?_cons_zero, List.getElem?_cons_succ, List.getElem?_nil, List.set_cons_zero, List.set_cons_succ, List.length_cons, List.length_nil, List.map_cons, List.map_nil, List.replicate_succ, List.replicate_zero, List.cons_append, List.nil_append, List.append_nil, if_true, if_false, ite_true, ite_false, Bool.false_eq_true, Bool.not_true, Bool.not_false, Bool.true_and, Bool.and_true, Bool.false_and, Bool.and_false, Bool.or_true, Bool.true_or, Bool.false_or, Bool.or_false, and_self, and_true, true_and, Nat.sub_zero, Nat.sub_self, Nat.reduceSub, Nat.reduceAdd, Nat.reduceLeDiff, Nat.reduceEqDiff, decide_true, decide_false, Nat.zero_le]
theorem lc_let14 {p q r : Cn} {e : Int} (he : e = 0 ∨ e = 1 ∨ e = 2) (h : Hh) (d1 d2 d3 d4 d5 d6 d7 d9 d10 d11 d12 : Option D) : ∀ ss : List (Int × Int), (∀ s ∈ ss, Nr s) → lcs (gSet 13) tYes3 (eMeth 0 3 f_Triangle_lets_in (eVar 0) (aCons (eVar 8) (aCons (eVar 13) aNil)) []) [some (tri p q r), d1, d2, d3, d4, d5, d6, d7, some (.int e), d9, d10, d11, d12, none] (ss.map pl) h = .ok (ss.map fun s => D.bl (edgeL p q r e s)) h
  | [], _ => rfl
  | s :: ss, hs => by
    have n := hs s List.mem_cons_self
    have c := lets14 (p := p) (q := q) (r := r) he n h
    have ih := lc_let14 (p := p) (q := q) (r := r) he h d1 d2 d3 d4 d5 d6 d7 d9 d10 d11 d12 ss fun s m => hs s (List.mem_cons_of_mem _ m)
    rw [List.map_cons, lcCons, List.map_cons]
    simp only [c, clsT, ih, Nat.reduceAdd, Nat.reduceEqDiff, runD, startD, endRt, endNx, endExc, seqE, seqNx, seqRt, seqExc, sNil, sPass, sIf, sRet, sRetN, sExpr, sSet, sAsg, sPar, kPar, setAll, sIxS, kSet, L3.sFld, eVar, eC, eBin, eTest, eChain, eUn, tAnd3, tOr3, tNot3, eAnd, eOr, eNot, eIf, aNil, aCons, eTup, eLst, eLstM, eCall, kCall, eMeth, kMeth, clsObj, eB, one, eFld, fldD, fieldAt, L3.putAt, eProp, kProp, noX, eMake, eLc, kLst, iSeq, L3.iZip, kZip, zipL, immS, iRg1, lcNil, lcCons, lcAS, lcBT, lcBF, lcCO, loNil, loCons, loAS, loNx, loCt, loBk, loRt, L3.sFor, sForW, eLcW, wSeq, wZip, kZipW, loopW, lcW, optS, wipeD, gSet, gTupD, gsNil, gsCons, tYes3, eIsi, isiD, kdOf, isK, allB, anyB, sumB, L3.listOf, blsOf, intsOf, asL, bindOk, bindExc, bindStk, toSOk, toSExc, lineOk, addI, subI, negI, mulL, mulR, divI, modI, ltI, leI, gtI, geI, eqI, neI, intB1, intB2, lenTup, lenLst, lenScr, tup0, tup1, tup2, tup3, tup4, tup5, lst0, lst1, lst2, lst3, List.getElem?_cons_zero, List.getElem?_cons_succ, List.getElem?_nil, List.set_cons_zero, List.set_cons_succ, List.length_cons, List.length_nil, List.map_cons, List.map_nil, List.replicate_succ, List.replicate_zero, List.cons_append, List.nil_append, List.append_nil, if_true, if_false, ite_true, ite_false, Bool.false_eq_true, Bool.not_true, Bool.not_false, Bool.true_and, Bool.and_true, Bool.false_and, Bool.and_false, Bool.or_true, Bool.true_or, Bool.false_or, Bool.or_false, and_self, and_true, true_and, Nat.sub_zero, Nat.sub_self, Nat.reduceSub, Nat.reduceAdd, Nat.reduceLeDiff, Nat.reduceEqDiff, decide_true, decide_false, Nat.zero_le]
theorem mulRep (d : D) (n : Nat) (hn : n ≤ 1000) (h : Hh) : mulD (.lst [d]) (.int (n : Int)) h = .ok (.lst (List.replicate n d)) h := by
  have e : mulD (.lst [d]) (.int (n : Int)) h = if 0 ≤ (n : Int) ∧ (n : Int) ≤ 1000 ∧ [d].length ≤ 1000 then R.ok (.lst (List.replicate (n : Int).toNat [d]).flatten) h else .stk := rfl
  rw [e, if_pos ⟨by omega, by omega, by show 1 ≤ 1000; decide⟩, Int.toNat_natCast, List.flatten_replicate_singleton]
theorem eq4b (a b c d v : Bool) (h : Hh) : eqD (.lst [.bl a, .bl b, .bl c, .bl d]) (.lst [.bl v, .bl v, .bl v, .bl v]) h = .ok (.bl ((a == v) && ((b == v) && ((c == v) && (d == v))))) h := by
  cases a <;> cases b <;> cases c <;> cases d <;> cases v <;> rfl
theorem ne_same14 {ps : List (Int × Int)} {f : Int × Int → Bool} {v : Bool} (hf : ∀ s ∈ ps, f s = v) (h : Hh) : neD (.lst (ps.map fun s => D.bl (f s))) (.lst (List.replicate ps.length (D.bl v))) h = .ok (.bl false) h := by
  have e : (ps.map fun s => D.bl (f s)) = List.replicate ps.length (D.bl v) := by
    rw [← List.map_const']
    exact List.map_congr_left fun s m => by rw [hf s m]
  rw [e]
  refine neSame rfl ?_
  show flats 59 (List.replicate ps.length (D.bl v)) = true
  rw [← List.map_const']
  exact flats_map 59 _ (fun _ => rfl) ps
end Lw
set_option autoImplicit false
set_option maxHeartbeats 8000000
set_option autoImplicit true
namespace Lw
open PySem PySem.Spec L2 L3
theorem edge_step {p q r : Cn} {ps : List (Int × Int)} (hps : ∀ s ∈ ps, Nr s) (hlen : ps.length ≤ 200) {l x t y : Int} (hl : 0 ≤ l ∧ l ≤ 100) (hx : 0 ≤ x ∧ x ≤ 100) (ht : 0 ≤ t ∧ t ≤ 100) (hy : 0 ≤ y ∧ y ≤ 100) (hin : ∀ s ∈ ps, (l ≤ s.1 ∧ s.1 ≤ x) ∧ (t ≤ s.2 ∧ s.2 ≤ y)) {e : Int} (he : e = 0 ∨ e = 1 ∨ e = 2) (G K x9 x10 : Option D) (h : Hh) : ∃ y9 y10,
    sSeq u__law_tiles_right_1_4_1 (sSeq u__law_tiles_right_1_4_2 (sSeq u__law_tiles_right_1_4_3 u__law_tiles_right_1_4_4)) [some (tri p q r), G, K, some (.tup (ps.map pl)), some (.int l), some (.int x), some (.int t), some (.int y), some (.int e), x9, x10, none, none, none] h =
      .nx [some (tri p q r), G, K, some (.tup (ps.map pl)), some (.int l), some (.int x), some (.int t), some (.int y), some (.int e), y9, y10, none, none, none] h := by
  have cO : ∀ x9 x10, (eLcW false (wSeq (eTup (aCons (eTup (aCons (eVar 4) (aCons (eVar 6) aNil))) (aCons (eTup (aCons (eVar 5) (aCons (eVar 6) aNil))) (aCons (eTup (aCons (eVar 4) (aCons (eVar 7) aNil))) (aCons (eTup (aCons (eVar 5) (aCons (eVar 7) aNil))) aNil)))))) (gSet 13) tYes3 (eMeth 0 3 f_Triangle_lets_in (eVar 0) (aCons (eVar 8) (aCons (eVar 13) aNil)) []) [13]) [some (tri p q r), G, K, some (.tup (ps.map pl)), some (.int l), some (.int x), some (.int t), some (.int y), some (.int e), x9, x10, none, none, none] h = .ok (.lst [.bl (edgeL p q r e (l, t)), .bl (edgeL p q r e (x, t)), .bl (edgeL p q r e (l, y)), .bl (edgeL p q r e (x, y))]) h := fun x9 x10 => by
    have lc := lc_let14 (p := p) (q := q) (r := r) he h G K (some (.tup (ps.map pl))) (some (.int l)) (some (.int x)) (some (.int t)) (some (.int y)) x9 x10 none none [(l, t), (x, t), (l, y), (x, y)] fun s m => by
      simp only [List.mem_cons, List.not_mem_nil, or_false] at m
      rcases m with rfl | rfl | rfl | rfl <;> exact ⟨⟨by dsimp only; omega, by dsimp only; omega⟩, ⟨by dsimp only; omega, by dsimp only; omega⟩⟩
    simp only [List.map_cons, List.map_nil, pl] at lc
    simp only [eLcW, wSeq, eTup, aCons, aNil, eVar, optS, bindOk, List.getElem?_cons_zero, List.getElem?_cons_succ, List.length_cons, List.length_nil, lineOk, Nat.reduceAdd, Nat.reduceLeDiff, decide_true, if_true, lcW, wipeD, List.set_cons_succ, List.set_cons_zero]
    erw [lc]
    rfl
  have cI : ∀ x9 x10, (eLcW false (wSeq (eVar 3)) (gSet 13) tYes3 (eMeth 0 3 f_Triangle_lets_in (eVar 0) (aCons (eVar 8) (aCons (eVar 13) aNil)) []) [13]) [some (tri p q r), G, K, some (.tup (ps.map pl)), some (.int l), some (.int x), some (.int t), some (.int y), some (.int e), x9, x10, none, none, none] h = .ok (.lst (ps.map fun s => D.bl (edgeL p q r e s))) h := fun x9 x10 => by
    have lc := lc_let14 (p := p) (q := q) (r := r) he h G K (some (.tup (ps.map pl))) (some (.int l)) (some (.int x)) (some (.int t)) (some (.int y)) x9 x10 none none ps hps
    have l2 : (ps.map fun s => D.bl (edgeL p q r e s)).length ≤ 16777216 := by rw [List.length_map]; omega
    simp only [eLcW, wSeq, eVar, optS, bindOk, List.getElem?_cons_zero, List.getElem?_cons_succ, lcW, wipeD, List.set_cons_succ, List.set_cons_zero, lc, kLst, lineOk, l2, decide_true, if_true, Bool.false_eq_true, if_false]
  have m4t : ∀ b : Bool, mulD (.lst [.bl b]) (.int 4) h = .ok (.lst [.bl b, .bl b, .bl b, .bl b]) h := fun b => rfl
  have mr : ∀ b : Bool, mulD (.lst [.bl b]) (.int (ps.length : Int)) h = .ok (.lst (List.replicate ps.length (.bl b))) h := fun b => mulRep _ _ (by omega) h
  have lnT : lenB [.tup (ps.map pl)] h = .ok (.int (ps.length : Int)) h := by rw [lenTup, List.length_map]
  have all : ∀ v : Bool, ((edgeL p q r e (l, t) == v) && ((edgeL p q r e (x, t) == v) && ((edgeL p q r e (l, y) == v) && (edgeL p q r e (x, y) == v)))) = true → neD (.lst (ps.map fun s => D.bl (edgeL p q r e s))) (.lst (List.replicate ps.length (D.bl v))) h = .ok (.bl false) h := fun v c => by
    simp only [Bool.and_eq_true, beq_iff_eq] at c
    exact ne_same14 (fun s m => edge_box (hin s m).1 (hin s m).2 v c.1 c.2.1 c.2.2.1 c.2.2.2) h
  have e4 := fun v : Bool => eq4b (edgeL p q r e (l, t)) (edgeL p q r e (x, t)) (edgeL p q r e (l, y)) (edgeL p q r e (x, y)) v h
  generalize D.lst [.bl (edgeL p q r e (l, t)), .bl (edgeL p q r e (x, t)), .bl (edgeL p q r e (l, y)), .bl (edgeL p q r e (x, y))] = LO at *
  generalize D.lst (ps.map fun s => D.bl (edgeL p q r e s)) = LI at *
  generalize hTr : D.lst (List.replicate ps.length (D.bl true)) = RT at *
  generalize hFa : D.lst (List.replicate ps.length (D.bl false)) = RF at *
  have mrT := mr true
  have mrF := mr false
  rw [hTr] at mrT
  rw [hFa] at mrF
  have aT := all true
  have aF := all false
  rw [hTr] at aT
  rw [hFa] at aF
  have e4T := e4 true
  have e4F := e4 false
  generalize ((edgeL p q r e (l, t) == true) && ((edgeL p q r e (x, t) == true) && ((edgeL p q r e (l, y) == true) && (edgeL p q r e (x, y) == true)))) = BT at *
  generalize ((edgeL p q r e (l, t) == false) && ((edgeL p q r e (x, t) == false) && ((edgeL p q r e (l, y) == false) && (edgeL p q r e (x, y) == false)))) = BF at *
  refine ⟨some LO, some LI, ?_⟩
  have base := True.intro
  have s1 : ∀ x9 x10, u__law_tiles_right_1_4_1 [some (tri p q r), G, K, some (.tup (ps.map pl)), some (.int l), some (.int x), some (.int t), some (.int y), some (.int e), x9, x10, none, none, none] h = .nx [some (tri p q r), G, K, some (.tup (ps.map pl)), some (.int l), some (.int x), some (.int t), some (.int y), some (.int e), some LO, x10, none, none, none] h := fun x9 x10 => by
    have c := cO x9 x10
    unfold u__law_tiles_right_1_4_1
    simp only [sSet, c, toSOk, List.set_cons_succ, List.set_cons_zero]
  have s2 : ∀ x9 x10, u__law_tiles_right_1_4_2 [some (tri p q r), G, K, some (.tup (ps.map pl)), some (.int l), some (.int x), some (.int t), some (.int y), some (.int e), x9, x10, none, none, none] h = .nx [some (tri p q r), G, K, some (.tup (ps.map pl)), some (.int l), some (.int x), some (.int t), some (.int y), some (.int e), x9, some LI, none, none, none] h := fun x9 x10 => by
    have c := cI x9 x10
    unfold u__law_tiles_right_1_4_2
    simp only [sSet, c, toSOk, List.set_cons_succ, List.set_cons_zero]
  have s3 : u__law_tiles_right_1_4_3 [some (tri p q r), G, K, some (.tup (ps.map pl)), some (.int l), some (.int x), some (.int t), some (.int y), some (.int e), some LO, some LI, none, none, none] h = .nx [some (tri p q r), G, K, some (.tup (ps.map pl)), some (.int l), some (.int x), some (.int t), some (.int y), some (.int e), some LO, some LI, none, none, none] h := by
    unfold u__law_tiles_right_1_4_3
    cases BT with
    | true => simp only [sIf, tAnd3, eTest, eBin, eLst, eB, aCons, aNil, eVar, eC, optS, bindOk, List.getElem?_cons_zero, List.getElem?_cons_succ, List.length_cons, List.length_nil, lineOk, Nat.reduceAdd, Nat.reduceLeDiff, decide_true, if_true, m4t, e4T, lnT, mrT, aT, toSOk, sNil, Bool.false_eq_true, if_false]
    | false => simp only [sIf, tAnd3, eTest, eBin, eLst, eB, aCons, aNil, eVar, eC, optS, bindOk, List.getElem?_cons_zero, List.getElem?_cons_succ, List.length_cons, List.length_nil, lineOk, Nat.reduceAdd, Nat.reduceLeDiff, decide_true, if_true, m4t, e4T, toSOk, sNil, Bool.false_eq_true, if_false]
  have s4 : u__law_tiles_right_1_4_4 [some (tri p q r), G, K, some (.tup (ps.map pl)), some (.int l), some (.int x), some (.int t), some (.int y), some (.int e), some LO, some LI, none, none, none] h = .nx [some (tri p q r), G, K, some (.tup (ps.map pl)), some (.int l), some (.int x), some (.int t), some (.int y), some (.int e), some LO, some LI, none, none, none] h := by
    unfold u__law_tiles_right_1_4_4
    cases BF with
    | true => simp only [sIf, tAnd3, eTest, eBin, eLst, eB, aCons, aNil, eVar, eC, optS, bindOk, List.getElem?_cons_zero, List.getElem?_cons_succ, List.length_cons, List.length_nil, lineOk, Nat.reduceAdd, Nat.reduceLeDiff, decide_true, if_true, m4t, e4F, lnT, mrF, aF, toSOk, sNil, Bool.false_eq_true, if_false]
    | false => simp only [sIf, tAnd3, eTest, eBin, eLst, eB, aCons, aNil, eVar, eC, optS, bindOk, List.getElem?_cons_zero, List.getElem?_cons_succ, List.length_cons, List.length_nil, lineOk, Nat.reduceAdd, Nat.reduceLeDiff, decide_true, if_true, m4t, e4F, toSOk, sNil, Bool.false_eq_true, if_false]
  exact seq_nx (s1 x9 x10) (seq_nx (s2 _ _) (seq_nx s3 s4))
theorem tile_step {p q r : Cn} {w hh T : Nat} (z : Cz w hh T) {k : Nat} (hk : k < T) (x3 x4 x5 x6 x7 x8 x9 x10 : Option D) (h : Hh) : ∃ y3 y4 y5 y6 y7 y8 y9 y10,
    sSeq u__law_tiles_right_1_1 (sSeq u__law_tiles_right_1_2 (sSeq u__law_tiles_right_1_3 u__law_tiles_right_1_4)) [some (tri p q r), some (cnv w hh T), some (.int (k : Int)), x3, x4, x5, x6, x7, x8, x9, x10, none, none, none] h =
      .nx [some (tri p q r), some (cnv w hh T), some (.int (k : Int)), y3, y4, y5, y6, y7, y8, y9, y10, none, none, none] h := by
  have pl1 := places14 (w := w) (hh := hh) h hk z.t1
  have hne := z.ne k hk
  have hb : ∀ s ∈ (ptsL w 0 hh).filter (fun s => decide (nm w s = (k : Int))), (0 ≤ s.1 ∧ s.1 ≤ 100) ∧ (0 ≤ s.2 ∧ s.2 ≤ 100) := fun s m => (z.pts s (List.mem_filter.mp m).1).2
  have hlen : ((ptsL w 0 hh).filter (fun s => decide (nm w s = (k : Int)))).length ≤ 200 := Nat.le_trans (List.length_filter_le _ _) z.len
  have cl : clsOf h (cnv w hh T) = some 1 := rfl
  unfold rowL at pl1
  generalize (ptsL w 0 hh).filter (fun s => decide (nm w s = (k : Int))) = ps at *
  generalize cnv w hh T = C at *
  have n1 : ps.map (·.1) ≠ [] := fun c => hne (List.map_eq_nil_iff.mp c)
  have n2 : ps.map (·.2) ≠ [] := fun c => hne (List.map_eq_nil_iff.mp c)
  have b1 := mn_bd n1 fun v m => by obtain ⟨s, ms, rfl⟩ := List.mem_map.mp m; exact (hb s ms).1
  have b2 := mn_bd n2 fun v m => by obtain ⟨s, ms, rfl⟩ := List.mem_map.mp m; exact (hb s ms).2
  have hin : ∀ s ∈ ps, (mnI (ps.map (·.1)) ≤ s.1 ∧ s.1 ≤ mxI (ps.map (·.1))) ∧ (mnI (ps.map (·.2)) ≤ s.2 ∧ s.2 ≤ mxI (ps.map (·.2))) := fun s m => ⟨mn_le (List.mem_map.mpr ⟨s, m, rfl⟩), mn_le (List.mem_map.mpr ⟨s, m, rfl⟩)⟩
  have hps : ∀ s ∈ ps, Nr s := fun s m => by have := hb s m; exact ⟨by omega, by omega⟩
  obtain ⟨mi1, ma1⟩ := minS14 n1 h
  obtain ⟨mi2, ma2⟩ := minS14 n2 h
  have l1 : ((ps.map (·.1)).map D.int).length ≤ 16777216 := by rw [List.length_map, List.length_map]; omega
  have l2 : ((ps.map (·.2)).map D.int).length ≤ 16777216 := by rw [List.length_map, List.length_map]; omega
  have cg : ∀ (f : FnE) (ys : List D) (δ : De), δ[3]? = some (some (.tup (ps.map pl))) → lcs (gTupD 2 (gsCons (gSet 11) (gsCons (gSet 12) gsNil))) tYes3 f (wipeD δ [11, 12]) (ps.map pl) h = .ok ys h → ys.length ≤ 16777216 → (eLcW false (wSeq (eVar 3)) (gTupD 2 (gsCons (gSet 11) (gsCons (gSet 12) gsNil))) tYes3 f [11, 12]) δ h = .ok (.lst ys) h := fun f ys δ e3 lc ly => by
    have ev : eVar 3 δ h = .ok (.tup (ps.map pl)) h := by unfold eVar; rw [e3]
    simp only [eLcW, wSeq, ev, bindOk, lcW, lc, kLst, lineOk, ly, decide_true, if_true, Bool.false_eq_true, if_false]
  have c1 : ∀ d4 d5 d6 d7, (eLcW false (wSeq (eVar 3)) (gTupD 2 (gsCons (gSet 11) (gsCons (gSet 12) gsNil))) tYes3 (eVar 11) [11, 12]) [some (tri p q r), some C, some (.int (k : Int)), some (.tup (ps.map pl)), d4, d5, d6, d7, x8, x9, x10, none, none, none] h = .ok (.lst ((ps.map (·.1)).map D.int)) h := fun d4 d5 d6 d7 =>
    cg _ _ _ rfl (lc_fst (some (tri p q r)) (some C) (some (.int (k : Int))) (some (.tup (ps.map pl))) d4 d5 d6 d7 x8 x9 x10 none h ps).1 l1
  have c2 : ∀ d4 d5 d6 d7, (eLcW false (wSeq (eVar 3)) (gTupD 2 (gsCons (gSet 11) (gsCons (gSet 12) gsNil))) tYes3 (eVar 12) [11, 12]) [some (tri p q r), some C, some (.int (k : Int)), some (.tup (ps.map pl)), d4, d5, d6, d7, x8, x9, x10, none, none, none] h = .ok (.lst ((ps.map (·.2)).map D.int)) h := fun d4 d5 d6 d7 =>
    cg _ _ _ rfl (lc_fst (some (tri p q r)) (some C) (some (.int (k : Int))) (some (.tup (ps.map pl))) d4 d5 d6 d7 x8 x9 x10 none h ps).2 l2
  generalize D.lst ((ps.map (·.1)).map D.int) = L1 at *
  generalize D.lst ((ps.map (·.2)).map D.int) = L2 at *
  generalize mnI (ps.map (·.1)) = l at *
  generalize mxI (ps.map (·.1)) = x at *
  generalize mnI (ps.map (·.2)) = t at *
  generalize mxI (ps.map (·.2)) = y at *
  have s1 : u__law_tiles_right_1_1 [some (tri p q r), some C, some (.int (k : Int)), x3, x4, x5, x6, x7, x8, x9, x10, none, none, none] h = .nx [some (tri p q r), some C, some (.int (k : Int)), some (.tup (ps.map pl)), x4, x5, x6, x7, x8, x9, x10, none, none, none] h := by
    simp only [u__law_tiles_right_1_1, sSet, eMeth, kMeth, kCall, aCons, aNil, eVar, optS, bindOk, List.getElem?_cons_zero, List.getElem?_cons_succ, cl, clsObj, List.append_nil, List.length_cons, List.length_nil, Nat.reduceAdd, and_self, if_true, pl1, toSOk, List.set_cons_succ, List.set_cons_zero]
  have s2 : ∀ x4 x5 x6 x7, u__law_tiles_right_1_2 [some (tri p q r), some C, some (.int (k : Int)), some (.tup (ps.map pl)), x4, x5, x6, x7, x8, x9, x10, none, none, none] h = .nx [some (tri p q r), some C, some (.int (k : Int)), some (.tup (ps.map pl)), some (.int l), some (.int x), x6, x7, x8, x9, x10, none, none, none] h := fun x4 x5 x6 x7 => by
    have c := c1 x4 x5 x6 x7
    unfold u__law_tiles_right_1_2
    generalize (eLcW false (wSeq (eVar 3)) (gTupD 2 (gsCons (gSet 11) (gsCons (gSet 12) gsNil))) tYes3 (eVar 11) [11, 12]) = LC at *
    simp only [sPar, kPar, setAll, eB, aCons, aNil, c, bindOk, mi1, ma1, toSOk, List.set_cons_succ, List.set_cons_zero, List.length_cons, List.length_nil, Nat.reduceAdd, if_true]
  have s3 : ∀ x4 x5 x6 x7, u__law_tiles_right_1_3 [some (tri p q r), some C, some (.int (k : Int)), some (.tup (ps.map pl)), x4, x5, x6, x7, x8, x9, x10, none, none, none] h = .nx [some (tri p q r), some C, some (.int (k : Int)), some (.tup (ps.map pl)), x4, x5, some (.int t), some (.int y), x8, x9, x10, none, none, none] h := fun x4 x5 x6 x7 => by
    have c := c2 x4 x5 x6 x7
    unfold u__law_tiles_right_1_3
    generalize (eLcW false (wSeq (eVar 3)) (gTupD 2 (gsCons (gSet 11) (gsCons (gSet 12) gsNil))) tYes3 (eVar 12) [11, 12]) = LC at *
    simp only [sPar, kPar, setAll, eB, aCons, aNil, c, bindOk, mi2, ma2, toSOk, List.set_cons_succ, List.set_cons_zero, List.length_cons, List.length_nil, Nat.reduceAdd, if_true]
  obtain ⟨δ', h', e, ⟨y8, y9, y10, rfl, rfl⟩⟩ := loop_ok (g := gSet 8) (u := sSeq u__law_tiles_right_1_4_1 (sSeq u__law_tiles_right_1_4_2 (sSeq u__law_tiles_right_1_4_3 u__law_tiles_right_1_4_4))) (fun _ δ h' => ∃ y8 y9 y10, δ = [some (tri p q r), some C, some (.int (k : Int)), some (.tup (ps.map pl)), some (.int l), some (.int x), some (.int t), some (.int y), y8, y9, y10, none, none, none] ∧ h' = h) (rgD 0 3) 0 _ h ⟨x8, x9, x10, rfl, rfl⟩ fun i d e δ h1 ⟨y8, y9, y10, e1, e2⟩ => by
    subst e1; subst e2
    obtain ⟨hi, rfl⟩ := rg_get e
    obtain ⟨z9, z10, e5⟩ := edge_step (p := p) (q := q) (r := r) hps hlen b1.1 b1.2 b2.1 b2.2 hin (e := 0 + (i : Int)) (by omega) (some C) (some (.int (k : Int))) y9 y10 h1
    exact ⟨_, _, _, rfl, .inl e5, ⟨_, _, _, rfl, rfl⟩⟩
  have s4 : u__law_tiles_right_1_4 [some (tri p q r), some C, some (.int (k : Int)), some (.tup (ps.map pl)), some (.int l), some (.int x), some (.int t), some (.int y), x8, x9, x10, none, none, none] h' = .nx [some (tri p q r), some C, some (.int (k : Int)), some (.tup (ps.map pl)), some (.int l), some (.int x), some (.int t), some (.int y), y8, y9, y10, none, none, none] h' := e
  exact ⟨_, _, _, _, _, _, _, _, seq_nx s1 (seq_nx (s2 _ _ _ _) (seq_nx (s3 _ _ _ _) s4))⟩
theorem tiles_ok {p q r : Cn} {w hh T : Nat} (z : Cz w hh T) (h : Hh) : f__law_tiles_right [tri p q r, cnv w hh T] h = .ok (.bl true) h := by
  have tt := tiles14 (w := w) (hh := hh) (T := T) h
  have cl : clsOf h (cnv w hh T) = some 1 := rfl
  obtain ⟨δ', h', e, ⟨y2, y3, y4, y5, y6, y7, y8, y9, y10, rfl, rfl⟩⟩ := loop_ok (g := gSet 2) (u := sSeq u__law_tiles_right_1_1 (sSeq u__law_tiles_right_1_2 (sSeq u__law_tiles_right_1_3 u__law_tiles_right_1_4))) (fun _ δ h' => ∃ y2 y3 y4 y5 y6 y7 y8 y9 y10, δ = [some (tri p q r), some (cnv w hh T), y2, y3, y4, y5, y6, y7, y8, y9, y10, none, none, none] ∧ h' = h) (rgD 0 T) 0 [some (tri p q r), some (cnv w hh T), none, none, none, none, none, none, none, none, none, none, none, none] h ⟨none, none, none, none, none, none, none, none, none, rfl, rfl⟩ fun i d e δ h1 ⟨y2, y3, y4, y5, y6, y7, y8, y9, y10, e1, e2⟩ => by
    subst e1; subst e2
    obtain ⟨hi, rfl⟩ := rg_get e
    rw [Int.zero_add]
    obtain ⟨z3, z4, z5, z6, z7, z8, z9, z10, e5⟩ := tile_step (p := p) (q := q) (r := r) z (k := i) hi y3 y4 y5 y6 y7 y8 y9 y10 h1
    exact ⟨_, _, _, rfl, .inl e5, ⟨_, _, _, _, _, _, _, _, _, rfl, rfl⟩⟩
  have ir : iRg1 (eMeth 1 1 f_Canvas_tiles (eVar 1) aNil []) [some (tri p q r), some (cnv w hh T), none, none, none, none, none, none, none, none, none, none, none, none] h' = .ok (rgD 0 T) h' := by
    have t1 := z.t1
    generalize cnv w hh T = C at *
    have ev : eMeth 1 1 f_Canvas_tiles (eVar 1) aNil [] [some (tri p q r), some C, none, none, none, none, none, none, none, none, none, none, none, none] h' = .ok (.int (T : Int)) h' := by
      simp only [eMeth, kMeth, kCall, aNil, eVar, optS, bindOk, List.getElem?_cons_zero, List.getElem?_cons_succ, cl, clsObj, List.append_nil, List.nil_append, List.length_cons, List.length_nil, Nat.reduceAdd, and_self, if_true, tt]
    rw [rg1_okB ev (by omega) (by omega), Int.toNat_natCast]
  have st1 : u__law_tiles_right_1 [some (tri p q r), some (cnv w hh T), none, none, none, none, none, none, none, none, none, none, none, none] h' = .nx [some (tri p q r), some (cnv w hh T), y2, y3, y4, y5, y6, y7, y8, y9, y10, none, none, none] h' := by
    unfold u__law_tiles_right_1 L3.sFor
    rw [ir]
    exact e
  have st2 : ∀ δ h, u__law_tiles_right_2 δ h = .rt (.bl true) h := fun _ _ => rfl
  have r : ∀ a b h, f__law_tiles_right [a, b] h = endD (u__law_tiles_right [some a, some b, none, none, none, none, none, none, none, none, none, none, none, none] h) := fun _ _ _ => rfl
  rw [r]
  unfold u__law_tiles_right
  rw [seq_nx st1 (st2 _ _)]
  rfl
end Lw
set_option autoImplicit false
set_option maxHeartbeats 8000000
set_option autoImplicit true
namespace Lw
open PySem PySem.Spec L2 L3
/-! corners, lanes, the law -/
theorem more14 {v : Int} (h0 : 0 ≤ v) (h1 : v < 6) (h : Hh) : ∃ m, ixA (.lst [.int 1, .int 2, .int 5, .int (-1), .int (-3), .int 1]) (.int v) h = .ok (.int m) h ∧ -5 ≤ m ∧ m ≤ 5 := by
  have e : v = 0 ∨ v = 1 ∨ v = 2 ∨ v = 3 ∨ v = 4 ∨ v = 5 := by omega
  rcases e with rfl | rfl | rfl | rfl | rfl | rfl
  · exact ⟨1, rfl, by omega, by omega⟩
  · exact ⟨2, rfl, by omega, by omega⟩
  · exact ⟨5, rfl, by omega, by omega⟩
  · exact ⟨-1, rfl, by omega, by omega⟩
  · exact ⟨-3, rfl, by omega, by omega⟩
  · exact ⟨1, rfl, by omega, by omega⟩
theorem most14 {v : Int} (h0 : 0 ≤ v) (h1 : v < 3) (h : Hh) : ∃ m, ixA (.lst [.int 8, .int 20, .int 120]) (.int v) h = .ok (.int m) h ∧ 8 ≤ m ∧ m ≤ 120 := by
  have e : v = 0 ∨ v = 1 ∨ v = 2 := by omega
  rcases e with rfl | rfl | rfl
  · exact ⟨8, rfl, by omega, by omega⟩
  · exact ⟨20, rfl, by omega, by omega⟩
  · exact ⟨120, rfl, by omega, by omega⟩
theorem mbd14 {a b A B : Int} (ha : -A ≤ a ∧ a ≤ A) (hb : -B ≤ b ∧ b ≤ B) {M : Int} (hm : A * B ≤ M) : -M ≤ a * b ∧ a * b ≤ M := by
  have := mbd ha hb
  omega
theorem corner14 {h : Hh} {b N : Nat} (g : Good h b (N + 7)) : ∃ p h' b', f__law_corner [.ref 2] h = .ok (Cn.d p) h' ∧ p.Ok ∧ Good h' b' N := by
  obtain ⟨v0, h0, b0, e0, l0, m0, g0, f0⟩ := next_ok (N := N + 6) g 6 (by omega) (by omega)
  obtain ⟨m, em, lm, um⟩ := more14 l0 m0 h0
  obtain ⟨v1, h1, b1, e1, l1, m1, g1, f1⟩ := next_ok (N := N + 5) g0 3 (by omega) (by omega)
  obtain ⟨M, eM, lM, uM⟩ := most14 l1 m1 h1
  obtain ⟨v2, h2, b2, e2, l2, m2, g2, f2⟩ := next_ok (N := N + 4) g1 (2 * M) (by omega) (by omega)
  obtain ⟨v3, h3, b3, e3, l3, m3, g3, f3⟩ := next_ok (N := N + 3) g2 (2 * M) (by omega) (by omega)
  obtain ⟨v4, h4, b4, e4, l4, m4, g4, f4⟩ := next_ok (N := N + 2) g3 20 (by omega) (by omega)
  obtain ⟨v5, h5, b5, e5, l5, m5, g5, f5⟩ := next_ok (N := N + 1) g4 20 (by omega) (by omega)
  obtain ⟨v6, h6, b6, e6, l6, m6, g6, f6⟩ := next_ok (N := N) g5 4 (by omega) (by omega)
  have k1 := mbd14 (A := 5) (B := 200) (M := 1000) (a := m) (b := v2 - M / 2) (by omega) (by omega) (by decide)
  have k2 := mbd14 (A := 5) (B := 200) (M := 1000) (a := m) (b := v3 - M / 2) (by omega) (by omega) (by decide)
  refine ⟨⟨m * (v2 - M / 2), m * (v3 - M / 2), v4, 2 * m, v5, 1 + v6⟩, h6, b6, ?_, ⟨k1, k2, by dsimp only; omega, by dsimp only; omega, by dsimp only; omega, by dsimp only; omega⟩, g6⟩
  simp (disch := omega) only [f__law_corner, u__law_corner_1, u__law_corner_2, u__law_corner_3, u__law_corner, e0, em, e1, eM, e2, e3, e4, e5, e6, Cn.d, int6, runD, startD, endRt, endNx, endExc, seqE, seqNx, seqRt, seqExc, sNil, sPass, sIf, sRet, sRetN, sExpr, sSet, sAsg, sPar, kPar, setAll, sIxS, kSet, L3.sFld, eVar, eC, eBin, eTest, eChain, eUn, tAnd3, tOr3, tNot3, eAnd, eOr, eNot, eIf, aNil, aCons, eTup, eLst, eLstM, eCall, kCall, eMeth, kMeth, clsObj, eB, one, eFld, fldD, fieldAt, L3.putAt, eProp, kProp, noX, eMake, eLc, kLst, iSeq, L3.iZip, kZip, zipL, immS, iRg1, lcNil, lcCons, lcAS, lcBT, lcBF, lcCO, loNil, loCons, loAS, loNx, loCt, loBk, loRt, L3.sFor, sForW, eLcW, wSeq, wZip, kZipW, loopW, lcW, optS, wipeD, gSet, gTupD, gsNil, gsCons, tYes3, eIsi, isiD, kdOf, isK, allB, anyB, sumB, L3.listOf, blsOf, intsOf, asL, bindOk, bindExc, bindStk, toSOk, toSExc, lineOk, addI, subI, negI, mulL, mulR, divI, modI, ltI, leI, gtI, geI, eqI, neI, intB1, intB2, lenTup, lenLst, lenScr, tup0, tup1, tup2, tup3, tup4, tup5, lst0, lst1, lst2, lst3, List.getElem?_cons_zero, List.getElem?_cons_succ, List.getElem?_nil, List.set_cons_zero, List.set_cons_succ, List.length_cons, List.length_nil, List.map_cons, List.map_nil, List.replicate_succ, List.replicate_zero, List.cons_append, List.nil_append, List.append_nil, if_true, if_false, ite_true, ite_false, Bool.false_eq_true, Bool.not_true, Bool.not_false, Bool.true_and, Bool.and_true, Bool.false_and, Bool.and_false, Bool.or_true, Bool.true_or, Bool.false_or, Bool.or_false, and_self, and_true, true_and, Nat.sub_zero, Nat.sub_self, Nat.reduceSub, Nat.reduceAdd, Nat.reduceLeDiff, Nat.reduceEqDiff, decide_true, decide_false, Nat.zero_le]
structure LnS where
  i0 : Int
  j0 : Int
  di : Int
  dj : Int
  k : Int
  n : Nat
def LnS.ps (l : LnS) : List (Int × Int) := lane (ln l.i0 l.j0 l.di l.dj) l.k l.n
def LnS.d (l : LnS) : D := .lst (l.ps.map pl)
structure LnS.Ok (l : LnS) : Prop where
  n : l.n ≤ 50
  s : ∀ s ∈ l.ps, Nr s
theorem lane_ok' {p q r : Cn} {l : LnS} (o : l.Ok) (h : Hh) : f__law_lane_right [tri p q r, l.d] h = .ok (.bl true) h := lane_ok _ _ _ _ _ o.n o.s h
theorem lc_gen {s : Nat} {e : FnE} {δ : De} {f : Int → Int × Int} {h : Hh} (he : ∀ t, e (δ.set s (some (.int t))) h = .ok (pl (f t)) h) : ∀ (n : Nat) (a : Int), lcs (gSet s) tYes3 e δ (lane D.int a n) h = .ok ((lane f a n).map pl) h
  | 0, _ => rfl
  | n + 1, a => by
    have ih := lc_gen (s := s) he n (a + 1)
    rw [lane, lane, lcCons, List.map_cons]
    simp only [gSet, lcAS, tYes3, lcBT, he, lcCO] at ih ⊢
    rw [ih]
    rfl
theorem eLc_gen {rg : FnI} {s : Nat} {e : FnE} {δ : De} {f : Int → Int × Int} {a : Int} {n : Nat} {h : Hh} (hr : rg δ h = .ok (rgD a n) h) (hn : n ≤ 50) (he : ∀ t, e ((wipeD δ [s]).set s (some (.int t))) h = .ok (pl (f t)) h) : eLc false rg (gSet s) tYes3 e [s] δ h = .ok (.lst ((lane f a n).map pl)) h := by
  have l2 : ((lane f a n).map pl).length ≤ 16777216 := by rw [List.length_map, lane_len]; omega
  unfold eLc
  rw [hr, rgD_lane]
  simp only [bindOk, lc_gen he n a, kLst, lineOk, l2, decide_true, if_true, Bool.false_eq_true, if_false]
theorem nr_ln {i0 j0 di dj k : Int} {n : Nat} (h : ∀ t, k ≤ t → t < k + n → Nr (ln i0 j0 di dj t)) : ∀ s ∈ lane (ln i0 j0 di dj) k n, Nr s := fun s m => by
  obtain ⟨t, e, a, b⟩ := lane_mem _ n k s m
  rw [e]; exact h t a b
def rowS (k : Int) : LnS := ⟨0, k, 1, 0, -1, 10⟩
def colS (k : Int) : LnS := ⟨k, 0, 0, 1, -1, 9⟩
theorem rowS_ok {k : Int} (h : 0 ≤ k ∧ k ≤ 6) : (rowS k).Ok := ⟨by show 10 ≤ 50; decide, nr_ln fun t a b => ⟨by dsimp only [rowS, ln] at *; omega, by dsimp only [rowS, ln] at *; omega⟩⟩
theorem colS_ok {k : Int} (h : -1000 ≤ k ∧ k ≤ 1000) : (colS k).Ok := ⟨by show 9 ≤ 50; decide, nr_ln fun t a b => ⟨by dsimp only [colS, ln] at *; omega, by dsimp only [colS, ln] at *; omega⟩⟩
def dgA : LnS := ⟨0, -1, 1, 1, 0, 9⟩
def dgB : LnS := ⟨0, 7, 1, -1, 0, 9⟩
def farS (k : Int) : LnS := ⟨k, 0, 0, 1, -3, 9⟩
theorem dgA_ok : dgA.Ok := ⟨by decide, nr_ln fun t a b => ⟨by dsimp only [dgA, ln] at *; omega, by dsimp only [dgA, ln] at *; omega⟩⟩
theorem dgB_ok : dgB.Ok := ⟨by decide, nr_ln fun t a b => ⟨by dsimp only [dgB, ln] at *; omega, by dsimp only [dgB, ln] at *; omega⟩⟩
theorem farS_ok {k : Int} (h : -1000 ≤ k ∧ k ≤ 1000) : (farS k).Ok := ⟨by show 9 ≤ 50; decide, nr_ln fun t a b => ⟨by dsimp only [farS, ln] at *; omega, by dsimp only [farS, ln] at *; omega⟩⟩
theorem cat_own {h : Hh} {b n : Nat} {ds es : List D} (o : Own h b n ds) (hl : ds.length + es.length ≤ 16777216) : catM (.ref n) (.lst es) h = .ok (.ref h.length) (h ++ [.lst (ds ++ es)]) := by
  have a : asL h (.ref n) = some ds := by unfold asL; dsimp only; rw [o.get]
  have a2 : asL h (.lst es) = some es := rfl
  unfold catM
  rw [a, a2]
  dsimp only
  rw [if_pos (show lineOk (ds.length + es.length) = true from decide_eq_true hl)]
theorem lcs_none {h : Hh} {n : Nat} {ds : List D} (e : h[n]? = some (.lst ds)) (s : Nat) (t : FnT) (f : FnE) (δ : De) (ht : ∀ d ∈ ds, t (δ.set s (some d)) h = .ok false h) (hl : ds.length ≤ 1000) : ∀ (m i : Nat), i + m = ds.length → lcF (gSet s) t f δ (.hp n) i h = .ok [] h
  | 0, i, hi => lcFN (look_hp e) i (by omega) (by omega) _ _ _ _
  | m + 1, i, hi => by
    have ih := lcs_none e s t f δ ht hl m (i + 1) (by omega)
    have li : i < ds.length := by omega
    rw [lcFC (look_hp e) i (d := ds[i]) (List.getElem?_eq_getElem li) (by omega)]
    simp only [gSet, lcAS, ht _ (List.getElem_mem li), lcBF, ih]
theorem cz14 {w hh : Nat} (hw : 5 ≤ w ∧ w ≤ 8) (h4 : 4 ≤ hh ∧ hh ≤ 7) : ∃ T, Cz w hh T := by
  have a : w = 5 ∨ w = 6 ∨ w = 7 ∨ w = 8 := by omega
  have b : hh = 4 ∨ hh = 5 ∨ hh = 6 ∨ hh = 7 := by omega
  rcases a with rfl | rfl | rfl | rfl <;> rcases b with rfl | rfl | rfl | rfl
  all_goals first
    | exact ⟨2, by decide, by decide, by decide +kernel, by decide, by decide +kernel, by decide +kernel, by decide +kernel⟩
    | exact ⟨4, by decide, by decide, by decide +kernel, by decide, by decide +kernel, by decide +kernel, by decide +kernel⟩
end Lw
set_option autoImplicit false
set_option maxHeartbeats 8000000
set_option autoImplicit true
namespace Lw
open PySem PySem.Spec L2 L3
theorem Fr.appT (h : Hh) (b : Nat) (t : Hh) : Fr h b (h ++ t) b := ⟨by simp, .inl rfl, fun j hj _ _ => List.getElem?_append_left hj⟩
def body14 : FnS := sSeq u_law_2_1 (sSeq u_law_2_2 (sSeq u_law_2_3 (sSeq u_law_2_4 (sSeq u_law_2_5 (sSeq u_law_2_6 (sSeq u_law_2_7 u_law_2_8))))))
theorem pl_row (k t : Int) : pl (ln 0 k 1 0 t) = .tup [.int t, .int k] := by unfold pl ln; simp
theorem pl_col (k t : Int) : pl (ln k 0 0 1 t) = .tup [.int k, .int t] := by unfold pl ln; simp
theorem pl_dgA (t : Int) : pl (ln 0 (-1) 1 1 t) = .tup [.int t, .int (t - 1)] := by unfold pl ln; simp; omega
theorem pl_dgB (t : Int) : pl (ln 0 7 1 (-1) t) = .tup [.int t, .int (7 - t)] := by unfold pl ln; simp; omega
theorem add_step {s0 tn x3 x6 : Option D} {n : Nat} {ls : List LnS} {h : Hh} {b : Nat} (o : Own h b n (ls.map LnS.d)) (hl : ls.length ≤ 100) (k : Int) :
    u_law_2_3_1 [s0, some (.ref 2), tn, x3, some (.ref n), some (.int k), x6, none, none, none] h = .nx [s0, some (.ref 2), tn, x3, some (.ref h.length), some (.int k), x6, none, none, none] (h ++ [.lst ((ls ++ [rowS k, colS k]).map LnS.d)]) := by
  have r1 : eLc false (iRg2 (eUn negD (eC (.int 1))) (eC (.int 9))) (gSet 7) tYes3 (eTup (aCons (eVar 7) (aCons (eVar 5) aNil))) [7] [s0, some (.ref 2), tn, x3, some (.ref n), some (.int k), x6, none, none, none] h = .ok (rowS k).d h :=
    eLc_gen (a := -1) (n := 10) (f := ln 0 k 1 0) rfl (by decide) fun t => by rw [pl_row]; simp [wipeD, runD, startD, endRt, endNx, endExc, seqE, seqNx, seqRt, seqExc, sNil, sPass, sIf, sRet, sRetN, sExpr, sSet, sAsg, sPar, kPar, setAll, sIxS, kSet, L3.sFld, eVar, eC, eBin, eTest, eChain, eUn, tAnd3, tOr3, tNot3, eAnd, eOr, eNot, eIf, aNil, aCons, eTup, eLst, eLstM, eCall, kCall, eMeth, kMeth, clsObj, eB, one, eFld, fldD, fieldAt, L3.putAt, eProp, kProp, noX, eMake, eLc, kLst, iSeq, L3.iZip, kZip, zipL, immS, iRg1, lcNil, lcCons, lcAS, lcBT, lcBF, lcCO, loNil, loCons, loAS, loNx, loCt, loBk, loRt, L3.sFor, sForW, eLcW, wSeq, wZip, kZipW, loopW, lcW, optS, wipeD, gSet, gTupD, gsNil, gsCons, tYes3, eIsi, isiD, kdOf, isK, allB, anyB, sumB, L3.listOf, blsOf, intsOf, asL, bindOk, bindExc, bindStk, toSOk, toSExc, lineOk, addI, subI, negI, mulL, mulR, divI, modI, ltI, leI, gtI, geI, eqI, neI, intB1, intB2, lenTup, lenLst, lenScr, tup0, tup1, tup2, tup3, tup4, tup5, lst0, lst1, lst2, lst3, List.getElem?_cons_zero, List.getElem?_cons_succ, List.getElem?_nil, List.set_cons_zero, List.set_cons_succ, List.length_cons, List.length_nil, List.map_cons, List.map_nil, List.replicate_succ, List.replicate_zero, List.cons_append, List.nil_append, List.append_nil, if_true, if_false, ite_true, ite_false, Bool.false_eq_true, Bool.not_true, Bool.not_false, Bool.true_and, Bool.and_true, Bool.false_and, Bool.and_false, Bool.or_true, Bool.true_or, Bool.false_or, Bool.or_false, and_self, and_true, true_and, Nat.sub_zero, Nat.sub_self, Nat.reduceSub, Nat.reduceAdd, Nat.reduceLeDiff, Nat.reduceEqDiff, decide_true, decide_false, Nat.zero_le]
  have r2 : eLc false (iRg2 (eUn negD (eC (.int 1))) (eC (.int 8))) (gSet 8) tYes3 (eTup (aCons (eVar 5) (aCons (eVar 8) aNil))) [8] [s0, some (.ref 2), tn, x3, some (.ref n), some (.int k), x6, none, none, none] h = .ok (colS k).d h :=
    eLc_gen (a := -1) (n := 9) (f := ln k 0 0 1) rfl (by decide) fun t => by rw [pl_col]; simp [wipeD, runD, startD, endRt, endNx, endExc, seqE, seqNx, seqRt, seqExc, sNil, sPass, sIf, sRet, sRetN, sExpr, sSet, sAsg, sPar, kPar, setAll, sIxS, kSet, L3.sFld, eVar, eC, eBin, eTest, eChain, eUn, tAnd3, tOr3, tNot3, eAnd, eOr, eNot, eIf, aNil, aCons, eTup, eLst, eLstM, eCall, kCall, eMeth, kMeth, clsObj, eB, one, eFld, fldD, fieldAt, L3.putAt, eProp, kProp, noX, eMake, eLc, kLst, iSeq, L3.iZip, kZip, zipL, immS, iRg1, lcNil, lcCons, lcAS, lcBT, lcBF, lcCO, loNil, loCons, loAS, loNx, loCt, loBk, loRt, L3.sFor, sForW, eLcW, wSeq, wZip, kZipW, loopW, lcW, optS, wipeD, gSet, gTupD, gsNil, gsCons, tYes3, eIsi, isiD, kdOf, isK, allB, anyB, sumB, L3.listOf, blsOf, intsOf, asL, bindOk, bindExc, bindStk, toSOk, toSExc, lineOk, addI, subI, negI, mulL, mulR, divI, modI, ltI, leI, gtI, geI, eqI, neI, intB1, intB2, lenTup, lenLst, lenScr, tup0, tup1, tup2, tup3, tup4, tup5, lst0, lst1, lst2, lst3, List.getElem?_cons_zero, List.getElem?_cons_succ, List.getElem?_nil, List.set_cons_zero, List.set_cons_succ, List.length_cons, List.length_nil, List.map_cons, List.map_nil, List.replicate_succ, List.replicate_zero, List.cons_append, List.nil_append, List.append_nil, if_true, if_false, ite_true, ite_false, Bool.false_eq_true, Bool.not_true, Bool.not_false, Bool.true_and, Bool.and_true, Bool.false_and, Bool.and_false, Bool.or_true, Bool.true_or, Bool.false_or, Bool.or_false, and_self, and_true, true_and, Nat.sub_zero, Nat.sub_self, Nat.reduceSub, Nat.reduceAdd, Nat.reduceLeDiff, Nat.reduceEqDiff, decide_true, decide_false, Nat.zero_le]
  have ct := cat_own (es := [(rowS k).d, (colS k).d]) o (by rw [List.length_map]; simp; omega)
  unfold u_law_2_3_1
  generalize eLc false (iRg2 (eUn negD (eC (.int 1))) (eC (.int 9))) (gSet 7) tYes3 (eTup (aCons (eVar 7) (aCons (eVar 5) aNil))) [7] = A at *
  generalize eLc false (iRg2 (eUn negD (eC (.int 1))) (eC (.int 8))) (gSet 8) tYes3 (eTup (aCons (eVar 5) (aCons (eVar 8) aNil))) [8] = B at *
  rw [List.map_append]
  simp only [sSet, eBin, eLst, aCons, aNil, eVar, optS, bindOk, List.getElem?_cons_zero, List.getElem?_cons_succ, r1, r2, List.length_cons, List.length_nil, lineOk, Nat.reduceAdd, Nat.reduceLeDiff, decide_true, if_true, ct, toSOk, List.set_cons_succ, List.set_cons_zero]
  rfl
theorem add_diag {s0 tn x3 x5 x6 : Option D} {n : Nat} {ls : List LnS} {h : Hh} {b : Nat} (o : Own h b n (ls.map LnS.d)) (hl : ls.length ≤ 100) :
    u_law_2_4 [s0, some (.ref 2), tn, x3, some (.ref n), x5, x6, none, none, none] h = .nx [s0, some (.ref 2), tn, x3, some (.ref h.length), x5, x6, none, none, none] (h ++ [.lst ((ls ++ [dgA, dgB]).map LnS.d)]) := by
  have r1 : eLc false (iRg1 (eC (.int 9))) (gSet 7) tYes3 (eTup (aCons (eVar 7) (aCons (eBin subD (eVar 7) (eC (.int 1))) aNil))) [7] [s0, some (.ref 2), tn, x3, some (.ref n), x5, x6, none, none, none] h = .ok dgA.d h :=
    eLc_gen (a := 0) (n := 9) (f := ln 0 (-1) 1 1) rfl (by decide) fun t => by rw [pl_dgA]; simp [wipeD, runD, startD, endRt, endNx, endExc, seqE, seqNx, seqRt, seqExc, sNil, sPass, sIf, sRet, sRetN, sExpr, sSet, sAsg, sPar, kPar, setAll, sIxS, kSet, L3.sFld, eVar, eC, eBin, eTest, eChain, eUn, tAnd3, tOr3, tNot3, eAnd, eOr, eNot, eIf, aNil, aCons, eTup, eLst, eLstM, eCall, kCall, eMeth, kMeth, clsObj, eB, one, eFld, fldD, fieldAt, L3.putAt, eProp, kProp, noX, eMake, eLc, kLst, iSeq, L3.iZip, kZip, zipL, immS, iRg1, lcNil, lcCons, lcAS, lcBT, lcBF, lcCO, loNil, loCons, loAS, loNx, loCt, loBk, loRt, L3.sFor, sForW, eLcW, wSeq, wZip, kZipW, loopW, lcW, optS, wipeD, gSet, gTupD, gsNil, gsCons, tYes3, eIsi, isiD, kdOf, isK, allB, anyB, sumB, L3.listOf, blsOf, intsOf, asL, bindOk, bindExc, bindStk, toSOk, toSExc, lineOk, addI, subI, negI, mulL, mulR, divI, modI, ltI, leI, gtI, geI, eqI, neI, intB1, intB2, lenTup, lenLst, lenScr, tup0, tup1, tup2, tup3, tup4, tup5, lst0, lst1, lst2, lst3, List.getElem?_cons_zero, List.getElem?_cons_succ, List.getElem?_nil, List.set_cons_zero, List.set_cons_succ, List.length_cons, List.length_nil, List.map_cons, List.map_nil, List.replicate_succ, List.replicate_zero, List.cons_append, List.nil_append, List.append_nil, if_true, if_false, ite_true, ite_false, Bool.false_eq_true, Bool.not_true, Bool.not_false, Bool.true_and, Bool.and_true, Bool.false_and, Bool.and_false, Bool.or_true, Bool.true_or, Bool.false_or, Bool.or_false, and_self, and_true, true_and, Nat.sub_zero, Nat.sub_self, Nat.reduceSub, Nat.reduceAdd, Nat.reduceLeDiff, Nat.reduceEqDiff, decide_true, decide_false, Nat.zero_le]
  have r2 : eLc false (iRg1 (eC (.int 9))) (gSet 7) tYes3 (eTup (aCons (eVar 7) (aCons (eBin subD (eC (.int 7)) (eVar 7)) aNil))) [7] [s0, some (.ref 2), tn, x3, some (.ref n), x5, x6, none, none, none] h = .ok dgB.d h :=
    eLc_gen (a := 0) (n := 9) (f := ln 0 7 1 (-1)) rfl (by decide) fun t => by rw [pl_dgB]; simp [wipeD, runD, startD, endRt, endNx, endExc, seqE, seqNx, seqRt, seqExc, sNil, sPass, sIf, sRet, sRetN, sExpr, sSet, sAsg, sPar, kPar, setAll, sIxS, kSet, L3.sFld, eVar, eC, eBin, eTest, eChain, eUn, tAnd3, tOr3, tNot3, eAnd, eOr, eNot, eIf, aNil, aCons, eTup, eLst, eLstM, eCall, kCall, eMeth, kMeth, clsObj, eB, one, eFld, fldD, fieldAt, L3.putAt, eProp, kProp, noX, eMake, eLc, kLst, iSeq, L3.iZip, kZip, zipL, immS, iRg1, lcNil, lcCons, lcAS, lcBT, lcBF, lcCO, loNil, loCons, loAS, loNx, loCt, loBk, loRt, L3.sFor, sForW, eLcW, wSeq, wZip, kZipW, loopW, lcW, optS, wipeD, gSet, gTupD, gsNil, gsCons, tYes3, eIsi, isiD, kdOf, isK, allB, anyB, sumB, L3.listOf, blsOf, intsOf, asL, bindOk, bindExc, bindStk, toSOk, toSExc, lineOk, addI, subI, negI, mulL, mulR, divI, modI, ltI, leI, gtI, geI, eqI, neI, intB1, intB2, lenTup, lenLst, lenScr, tup0, tup1, tup2, tup3, tup4, tup5, lst0, lst1, lst2, lst3, List.getElem?_cons_zero, List.getElem?_cons_succ, List.getElem?_nil, List.set_cons_zero, List.set_cons_succ, List.length_cons, List.length_nil, List.map_cons, List.map_nil, List.replicate_succ, List.replicate_zero, List.cons_append, List.nil_append, List.append_nil, if_true, if_false, ite_true, ite_false, Bool.false_eq_true, Bool.not_true, Bool.not_false, Bool.true_and, Bool.and_true, Bool.false_and, Bool.and_false, Bool.or_true, Bool.true_or, Bool.false_or, Bool.or_false, and_self, and_true, true_and, Nat.sub_zero, Nat.sub_self, Nat.reduceSub, Nat.reduceAdd, Nat.reduceLeDiff, Nat.reduceEqDiff, decide_true, decide_false, Nat.zero_le]
  have ct := cat_own (es := [dgA.d, dgB.d]) o (by rw [List.length_map]; simp; omega)
  unfold u_law_2_4
  generalize eLc false (iRg1 (eC (.int 9))) (gSet 7) tYes3 (eTup (aCons (eVar 7) (aCons (eBin subD (eVar 7) (eC (.int 1))) aNil))) [7] = A at *
  generalize eLc false (iRg1 (eC (.int 9))) (gSet 7) tYes3 (eTup (aCons (eVar 7) (aCons (eBin subD (eC (.int 7)) (eVar 7)) aNil))) [7] = B at *
  rw [List.map_append]
  simp only [sSet, eBin, eLst, aCons, aNil, eVar, optS, bindOk, List.getElem?_cons_zero, List.getElem?_cons_succ, r1, r2, List.length_cons, List.length_nil, lineOk, Nat.reduceAdd, Nat.reduceLeDiff, decide_true, if_true, ct, toSOk, List.set_cons_succ, List.set_cons_zero]
  rfl
theorem add_far {s0 tn x3 x5 : Option D} {n : Nat} {ls : List LnS} {h : Hh} {b : Nat} (o : Own h b n (ls.map LnS.d)) (hl : ls.length ≤ 100) (k : Int) :
    u_law_2_6 [s0, some (.ref 2), tn, x3, some (.ref n), x5, some (.int k), none, none, none] h = .nx [s0, some (.ref 2), tn, x3, some (.ref n), x5, some (.int k), none, none, none] (h.set n (.lst ((ls ++ [farS k]).map LnS.d))) := by
  have r1 : eLc false (iRg2 (eUn negD (eC (.int 3))) (eC (.int 6))) (gSet 8) tYes3 (eTup (aCons (eVar 6) (aCons (eVar 8) aNil))) [8] [s0, some (.ref 2), tn, x3, some (.ref n), x5, some (.int k), none, none, none] h = .ok (farS k).d h :=
    eLc_gen (a := -3) (n := 9) (f := ln k 0 0 1) rfl (by decide) fun t => by rw [pl_col]; simp [wipeD, runD, startD, endRt, endNx, endExc, seqE, seqNx, seqRt, seqExc, sNil, sPass, sIf, sRet, sRetN, sExpr, sSet, sAsg, sPar, kPar, setAll, sIxS, kSet, L3.sFld, eVar, eC, eBin, eTest, eChain, eUn, tAnd3, tOr3, tNot3, eAnd, eOr, eNot, eIf, aNil, aCons, eTup, eLst, eLstM, eCall, kCall, eMeth, kMeth, clsObj, eB, one, eFld, fldD, fieldAt, L3.putAt, eProp, kProp, noX, eMake, eLc, kLst, iSeq, L3.iZip, kZip, zipL, immS, iRg1, lcNil, lcCons, lcAS, lcBT, lcBF, lcCO, loNil, loCons, loAS, loNx, loCt, loBk, loRt, L3.sFor, sForW, eLcW, wSeq, wZip, kZipW, loopW, lcW, optS, wipeD, gSet, gTupD, gsNil, gsCons, tYes3, eIsi, isiD, kdOf, isK, allB, anyB, sumB, L3.listOf, blsOf, intsOf, asL, bindOk, bindExc, bindStk, toSOk, toSExc, lineOk, addI, subI, negI, mulL, mulR, divI, modI, ltI, leI, gtI, geI, eqI, neI, intB1, intB2, lenTup, lenLst, lenScr, tup0, tup1, tup2, tup3, tup4, tup5, lst0, lst1, lst2, lst3, List.getElem?_cons_zero, List.getElem?_cons_succ, List.getElem?_nil, List.set_cons_zero, List.set_cons_succ, List.length_cons, List.length_nil, List.map_cons, List.map_nil, List.replicate_succ, List.replicate_zero, List.cons_append, List.nil_append, List.append_nil, if_true, if_false, ite_true, ite_false, Bool.false_eq_true, Bool.not_true, Bool.not_false, Bool.true_and, Bool.and_true, Bool.false_and, Bool.and_false, Bool.or_true, Bool.true_or, Bool.false_or, Bool.or_false, and_self, and_true, true_and, Nat.sub_zero, Nat.sub_self, Nat.reduceSub, Nat.reduceAdd, Nat.reduceLeDiff, Nat.reduceEqDiff, decide_true, decide_false, Nat.zero_le]
  have hl2 : (ls.map LnS.d).length < 16777216 := by rw [List.length_map]; omega
  have as : (asL h (.ref n)).isSome = true := by unfold asL; dsimp only; rw [o.get]; rfl
  unfold u_law_2_6
  generalize eLc false (iRg2 (eUn negD (eC (.int 3))) (eC (.int 6))) (gSet 8) tYes3 (eTup (aCons (eVar 6) (aCons (eVar 8) aNil))) [8] = A at *
  rw [List.map_append]
  simp only [sExpr, eM, kM, aCons, aNil, eVar, optS, bindOk, List.getElem?_cons_zero, List.getElem?_cons_succ, as, if_true, r1, appendM, mut_own o, hl2, toSOk]
  rfl
theorem lanes_none {p q r : Cn} {s0 tn x5 x6 : Option D} {n : Nat} {ls : List LnS} {h : Hh} {b : Nat} (w : Own h b n (ls.map LnS.d)) (ok : ∀ l ∈ ls, LnS.Ok l) (hl : ls.length ≤ 1000) :
    u_law_2_7 [s0, some (.ref 2), tn, some (tri p q r), some (.ref n), x5, x6, none, none, none] h = .nx [s0, some (.ref 2), tn, some (tri p q r), some (.ref n), x5, x6, none, none, none] h := by
  have nn := lcs_none w.get 9 (tNot3 (eTest (eCall 2 f__law_lane_right (aCons (eVar 3) (aCons (eVar 9) aNil)) []))) (eC (.int 1)) [s0, some (.ref 2), tn, some (tri p q r), some (.ref n), x5, x6, none, none, none] (fun d m => by
    obtain ⟨l, ml, rfl⟩ := List.mem_map.mp m
    have lo := lane_ok' (p := p) (q := q) (r := r) (ok l ml) h
    simp only [tNot3, eTest, eCall, kCall, aCons, aNil, eVar, optS, bindOk, List.set_cons_succ, List.set_cons_zero, List.getElem?_cons_zero, List.getElem?_cons_succ, List.append_nil, List.length_cons, List.length_nil, Nat.reduceAdd, if_true, lo, Bool.not_true]) (by rw [List.length_map]; exact hl) (ls.map LnS.d).length 0 (by omega)
  have gt := w.get
  have lc : (eLcW false (wSeq (eVar 4)) (gSet 9) (tNot3 (eTest (eCall 2 f__law_lane_right (aCons (eVar 3) (aCons (eVar 9) aNil)) []))) (eC (.int 1)) [9]) [s0, some (.ref 2), tn, some (tri p q r), some (.ref n), x5, x6, none, none, none] h = .ok (.lst []) h := by
    generalize (tNot3 (eTest (eCall 2 f__law_lane_right (aCons (eVar 3) (aCons (eVar 9) aNil)) []))) = TT at *
    generalize tri p q r = TR at *
    generalize ls.map LnS.d = ds at *
    have ws : wSeq (eVar 4) [s0, some (.ref 2), tn, some TR, some (.ref n), x5, x6, none, none, none] h = .ok (.hp n) h := by
      simp only [wSeq, eVar, optS, bindOk, List.getElem?_cons_zero, List.getElem?_cons_succ, gt]
    unfold eLcW
    rw [ws, bindOk]
    have lw : lcW (gSet 9) TT (eC (.int 1)) (wipeD [s0, some (.ref 2), tn, some TR, some (.ref n), x5, x6, none, none, none] [9]) (.hp n) h = .ok [] h := nn
    rw [lw]
    rfl
  unfold u_law_2_7
  generalize (eLcW false (wSeq (eVar 4)) (gSet 9) (tNot3 (eTest (eCall 2 f__law_lane_right (aCons (eVar 3) (aCons (eVar 9) aNil)) []))) (eC (.int 1)) [9]) = LC at *
  have ne : neD (.lst []) (.lst []) h = .ok (.bl false) h := rfl
  simp only [sIf, eTest, eBin, eLst, aNil, lc, bindOk, List.length_nil, lineOk, Nat.zero_le, decide_true, if_true, ne, toSOk, Bool.false_eq_true, if_false, sNil]
theorem tiles_st {TR C : D} {s0 tn x4 x5 x6 : Option D} {h9 h10 h11 h12 : Hh} {v1 v2 : Int} {W Hq : Nat} (e10 : f__law_next [.ref 2, .int 4] h9 = .ok (.int v1) h10) (e11 : f__law_next [.ref 2, .int 4] h10 = .ok (.int v2) h11) (eW : 5 + v1 = (W : Int)) (eH : 4 + v2 = (Hq : Int)) (ck : kMake 1 4 3 f_Canvas___init__ [] [.int W, .int Hq] h11 = .ok C h12) (tk : f__law_tiles_right [TR, C] h12 = .ok (.bl true) h12) :
    u_law_2_8 [s0, some (.ref 2), tn, some TR, x4, x5, x6, none, none, none] h9 = .nx [s0, some (.ref 2), tn, some TR, x4, x5, x6, none, none, none] h12 := by
  have mk1 : ∀ h, addD (.int 5) (.int v1) h = .ok (.int (W : Int)) h := fun h => by rw [← eW]; rfl
  have mk2 : ∀ h, addD (.int 4) (.int v2) h = .ok (.int (Hq : Int)) h := fun h => by rw [← eH]; rfl
  have ag : (aCons (eBin addD (eC (.int 5)) (eCall 2 f__law_next (aCons (eVar 1) (aCons (eC (.int 4)) aNil)) [])) (aCons (eBin addD (eC (.int 4)) (eCall 2 f__law_next (aCons (eVar 1) (aCons (eC (.int 4)) aNil)) [])) aNil)) [s0, some (.ref 2), tn, some TR, x4, x5, x6, none, none, none] h9 = .ok [.int W, .int Hq] h11 := by
    simp only [eCall, kCall, aCons, aNil, eVar, eC, eBin, optS, bindOk, List.getElem?_cons_zero, List.getElem?_cons_succ, List.append_nil, List.length_cons, List.length_nil, Nat.reduceAdd, if_true, e10, e11, mk1, mk2]
  have mk : eMake 1 4 3 f_Canvas___init__ (aCons (eBin addD (eC (.int 5)) (eCall 2 f__law_next (aCons (eVar 1) (aCons (eC (.int 4)) aNil)) [])) (aCons (eBin addD (eC (.int 4)) (eCall 2 f__law_next (aCons (eVar 1) (aCons (eC (.int 4)) aNil)) [])) aNil)) [] [s0, some (.ref 2), tn, some TR, x4, x5, x6, none, none, none] h9 = .ok C h12 := by
    unfold eMake
    rw [ag, bindOk]
    exact ck
  unfold u_law_2_8
  generalize eMake 1 4 3 f_Canvas___init__ (aCons (eBin addD (eC (.int 5)) (eCall 2 f__law_next (aCons (eVar 1) (aCons (eC (.int 4)) aNil)) [])) (aCons (eBin addD (eC (.int 4)) (eCall 2 f__law_next (aCons (eVar 1) (aCons (eC (.int 4)) aNil)) [])) aNil)) [] = MK at *
  generalize f__law_tiles_right = FT at *
  simp only [sIf, tNot3, eTest, eCall, kCall, aCons, aNil, eVar, optS, bindOk, List.getElem?_cons_zero, List.getElem?_cons_succ, List.append_nil, List.length_cons, List.length_nil, Nat.reduceAdd, if_true, mk, tk, Bool.not_true, Bool.false_eq_true, if_false, toSOk, sNil]
end Lw
set_option autoImplicit false
set_option maxHeartbeats 8000000
set_option autoImplicit true
namespace Lw
open PySem PySem.Spec L2 L3
theorem body14_ok {s0 tn : Option D} {h : Hh} {bb N : Nat} (g : Good h bb (N + 24)) (x3 x4 x5 x6 : Option D) : ∃ y3 y4 y5 y6 h' bb',
    body14 [s0, some (.ref 2), tn, x3, x4, x5, x6, none, none, none] h = .nx [s0, some (.ref 2), tn, y3, y4, y5, y6, none, none, none] h' ∧ Good h' bb' N := by
  obtain ⟨p, h1, b1, e1, o1, g1⟩ := corner14 (N := N + 17) g
  obtain ⟨q, h2, b2, e2, o2, g2⟩ := corner14 (N := N + 10) g1
  obtain ⟨r, h3, b3, e3, o3, g3⟩ := corner14 (N := N + 3) g2
  have mk := tri_ok (h := h3) o1 o2 o3
  have st1 : u_law_2_1 [s0, some (.ref 2), tn, x3, x4, x5, x6, none, none, none] h = .nx [s0, some (.ref 2), tn, some (tri p q r), x4, x5, x6, none, none, none] (h3 ++ [.dead]) := by
    simp only [u_law_2_1, e1, e2, e3, mk, runD, startD, endRt, endNx, endExc, seqE, seqNx, seqRt, seqExc, sNil, sPass, sIf, sRet, sRetN, sExpr, sSet, sAsg, sPar, kPar, setAll, sIxS, kSet, L3.sFld, eVar, eC, eBin, eTest, eChain, eUn, tAnd3, tOr3, tNot3, eAnd, eOr, eNot, eIf, aNil, aCons, eTup, eLst, eLstM, eCall, kCall, eMeth, kMeth, clsObj, eB, one, eFld, fldD, fieldAt, L3.putAt, eProp, kProp, noX, eMake, eLc, kLst, iSeq, L3.iZip, kZip, zipL, immS, iRg1, lcNil, lcCons, lcAS, lcBT, lcBF, lcCO, loNil, loCons, loAS, loNx, loCt, loBk, loRt, L3.sFor, sForW, eLcW, wSeq, wZip, kZipW, loopW, lcW, optS, wipeD, gSet, gTupD, gsNil, gsCons, tYes3, eIsi, isiD, kdOf, isK, allB, anyB, sumB, L3.listOf, blsOf, intsOf, asL, bindOk, bindExc, bindStk, toSOk, toSExc, lineOk, addI, subI, negI, mulL, mulR, divI, modI, ltI, leI, gtI, geI, eqI, neI, intB1, intB2, lenTup, lenLst, lenScr, tup0, tup1, tup2, tup3, tup4, tup5, lst0, lst1, lst2, lst3, List.getElem?_cons_zero, List.getElem?_cons_succ, List.getElem?_nil, List.set_cons_zero, List.set_cons_succ, List.length_cons, List.length_nil, List.map_cons, List.map_nil, List.replicate_succ, List.replicate_zero, List.cons_append, List.nil_append, List.append_nil, if_true, if_false, ite_true, ite_false, Bool.false_eq_true, Bool.not_true, Bool.not_false, Bool.true_and, Bool.and_true, Bool.false_and, Bool.and_false, Bool.or_true, Bool.true_or, Bool.false_or, Bool.or_false, and_self, and_true, true_and, Nat.sub_zero, Nat.sub_self, Nat.reduceSub, Nat.reduceAdd, Nat.reduceLeDiff, Nat.reduceEqDiff, decide_true, decide_false, Nat.zero_le]
  have g4 := g3.app [.dead]
  generalize h3 ++ [.dead] = h4 at *
  have st2 : u_law_2_2 [s0, some (.ref 2), tn, some (tri p q r), x4, x5, x6, none, none, none] h4 = .nx [s0, some (.ref 2), tn, some (tri p q r), some (.ref h4.length), x5, x6, none, none, none] (h4 ++ [.lst []]) := rfl
  have w5 := Own.new g4 []
  have g5 := g4.app [.lst []]
  obtain ⟨δ', h6, e, ⟨n6, ls6, y5, rfl, w6, l6, k6, g6⟩⟩ := loop_ok (g := gSet 5) (u := u_law_2_3_1) (fun k δ h' => ∃ n' ls y5, δ = [s0, some (.ref 2), tn, some (tri p q r), some (.ref n'), y5, x6, none, none, none] ∧ Own h' b3 n' (ls.map LnS.d) ∧ ls.length = 2 * k ∧ (∀ l ∈ ls, LnS.Ok l) ∧ Good h' b3 (N + 3)) (rgD 0 7) 0 _ (h4 ++ [.lst []]) ⟨h4.length, [], x5, rfl, w5, rfl, (fun l m => by cases m), g5⟩ fun i d e δ h' ⟨n', ls, y5, e1, w, ll, lk, g'⟩ => by
    subst e1
    obtain ⟨hi, rfl⟩ := rg_get e
    have st := add_step (s0 := s0) (tn := tn) (x3 := some (tri p q r)) (x6 := x6) w (by omega) (0 + (i : Int))
    refine ⟨_, _, _, rfl, .inl st, ⟨_, ls ++ [rowS (0 + (i : Int)), colS (0 + (i : Int))], _, rfl, Own.new g' _, by rw [List.length_append, ll]; simp; omega, fun l m => ?_, g'.app _⟩⟩
    rcases List.mem_append.mp m with m | m
    · exact lk l m
    · simp only [List.mem_cons, List.not_mem_nil, or_false] at m
      rcases m with rfl | rfl
      · exact rowS_ok (by omega)
      · exact colS_ok (by omega)
  have st3 : u_law_2_3 [s0, some (.ref 2), tn, some (tri p q r), some (.ref h4.length), x5, x6, none, none, none] (h4 ++ [.lst []]) = .nx [s0, some (.ref 2), tn, some (tri p q r), some (.ref n6), y5, x6, none, none, none] h6 := e
  have hl6 : ls6.length = 14 := by rw [l6]; rfl
  have st4 := add_diag (s0 := s0) (tn := tn) (x3 := some (tri p q r)) (x5 := y5) (x6 := x6) w6 (by omega)
  have w7 := Own.new g6 ((ls6 ++ [dgA, dgB]).map LnS.d)
  have g7 := g6.app [.lst ((ls6 ++ [dgA, dgB]).map LnS.d)]
  obtain ⟨v, h8, b8, e8, l8, m8, g8, f8⟩ := next_ok (N := N + 2) g7 2001 (by omega) (by omega)
  have w8 := w7.fr f8
  have st5 : u_law_2_5 [s0, some (.ref 2), tn, some (tri p q r), some (.ref h6.length), y5, x6, none, none, none] (h6 ++ [.lst ((ls6 ++ [dgA, dgB]).map LnS.d)]) = .nx [s0, some (.ref 2), tn, some (tri p q r), some (.ref h6.length), y5, some (.int (v - 1000)), none, none, none] h8 := by
    simp only [u_law_2_5, e8, runD, startD, endRt, endNx, endExc, seqE, seqNx, seqRt, seqExc, sNil, sPass, sIf, sRet, sRetN, sExpr, sSet, sAsg, sPar, kPar, setAll, sIxS, kSet, L3.sFld, eVar, eC, eBin, eTest, eChain, eUn, tAnd3, tOr3, tNot3, eAnd, eOr, eNot, eIf, aNil, aCons, eTup, eLst, eLstM, eCall, kCall, eMeth, kMeth, clsObj, eB, one, eFld, fldD, fieldAt, L3.putAt, eProp, kProp, noX, eMake, eLc, kLst, iSeq, L3.iZip, kZip, zipL, immS, iRg1, lcNil, lcCons, lcAS, lcBT, lcBF, lcCO, loNil, loCons, loAS, loNx, loCt, loBk, loRt, L3.sFor, sForW, eLcW, wSeq, wZip, kZipW, loopW, lcW, optS, wipeD, gSet, gTupD, gsNil, gsCons, tYes3, eIsi, isiD, kdOf, isK, allB, anyB, sumB, L3.listOf, blsOf, intsOf, asL, bindOk, bindExc, bindStk, toSOk, toSExc, lineOk, addI, subI, negI, mulL, mulR, divI, modI, ltI, leI, gtI, geI, eqI, neI, intB1, intB2, lenTup, lenLst, lenScr, tup0, tup1, tup2, tup3, tup4, tup5, lst0, lst1, lst2, lst3, List.getElem?_cons_zero, List.getElem?_cons_succ, List.getElem?_nil, List.set_cons_zero, List.set_cons_succ, List.length_cons, List.length_nil, List.map_cons, List.map_nil, List.replicate_succ, List.replicate_zero, List.cons_append, List.nil_append, List.append_nil, if_true, if_false, ite_true, ite_false, Bool.false_eq_true, Bool.not_true, Bool.not_false, Bool.true_and, Bool.and_true, Bool.false_and, Bool.and_false, Bool.or_true, Bool.true_or, Bool.false_or, Bool.or_false, and_self, and_true, true_and, Nat.sub_zero, Nat.sub_self, Nat.reduceSub, Nat.reduceAdd, Nat.reduceLeDiff, Nat.reduceEqDiff, decide_true, decide_false, Nat.zero_le]
  have st6 := add_far (s0 := s0) (tn := tn) (x3 := some (tri p q r)) (x5 := y5) w8 (by rw [List.length_append, hl6]; simp) (v - 1000)
  have w9 := w8.put ((ls6 ++ [dgA, dgB] ++ [farS (v - 1000)]).map LnS.d)
  have g9 := g8.setO (by have := w8.n3; omega) (by have := w8.n3; omega) w8.nb (.lst ((ls6 ++ [dgA, dgB] ++ [farS (v - 1000)]).map LnS.d))
  have k9 : ∀ l ∈ ls6 ++ [dgA, dgB] ++ [farS (v - 1000)], LnS.Ok l := fun l m => by
    rcases List.mem_append.mp m with m | m
    · rcases List.mem_append.mp m with m | m
      · exact k6 l m
      · simp only [List.mem_cons, List.not_mem_nil, or_false] at m
        rcases m with rfl | rfl
        · exact dgA_ok
        · exact dgB_ok
    · simp only [List.mem_cons, List.not_mem_nil, or_false] at m
      subst m
      exact farS_ok (by omega)
  have n9 : (ls6 ++ [dgA, dgB] ++ [farS (v - 1000)]).length ≤ 1000 := by rw [List.length_append, List.length_append, hl6]; simp
  generalize ls6 ++ [dgA, dgB] ++ [farS (v - 1000)] = ls9 at *
  generalize h8.set h6.length (.lst (ls9.map LnS.d)) = h9 at *
  have st7 := lanes_none (p := p) (q := q) (r := r) (s0 := s0) (tn := tn) (x5 := y5) (x6 := some (.int (v - 1000))) w9 k9 n9
  obtain ⟨v1, h10, b10, e10, l10, m10, g10, f10⟩ := next_ok (N := N + 1) g9 4 (by omega) (by omega)
  obtain ⟨v2, h11, b11, e11, l11, m11, g11, f11⟩ := next_ok (N := N) g10 4 (by omega) (by omega)
  obtain ⟨W, eW⟩ : ∃ W : Nat, 5 + v1 = (W : Int) := ⟨(5 + v1).toNat, by omega⟩
  obtain ⟨Hq, eH⟩ : ∃ Hq : Nat, 4 + v2 = (Hq : Int) := ⟨(4 + v2).toNat, by omega⟩
  obtain ⟨T, z⟩ := cz14 (w := W) (hh := Hq) (by omega) (by omega)
  have ck := canvas_ok z h11
  have tk := tiles_ok (p := p) (q := q) (r := r) z (h11 ++ [.dead] ++ rowsO T W (ptsL W 0 Hq))
  have st8 := tiles_st (s0 := s0) (tn := tn) (x4 := some (.ref h6.length)) (x5 := y5) (x6 := some (.int (v - 1000))) e10 e11 eW eH ck tk
  exact ⟨_, _, _, _, _, _, seq_nx st1 (seq_nx st2 (seq_nx st3 (seq_nx st4 (seq_nx st5 (seq_nx st6 (seq_nx st7 st8)))))), (g11.app _).app _⟩
theorem law_plain (ns : List Int) (hl : ns.length ≤ 63) : ∃ h', f_law [.scr (ns.map .int)] [] = .ok (.bl true) h' := by
  obtain ⟨h1, e1, g1⟩ := begun_ok ns hl
  obtain ⟨δ', h2, e, ⟨x2, x3, x4, x5, x6, b', rfl, g'⟩⟩ := loop_ok (g := gSet 2) (u := body14) (fun n δ h' => ∃ x2 x3 x4 x5 x6 b', δ = [some (.scr (ns.map .int)), some (.ref 2), x2, x3, x4, x5, x6, none, none, none] ∧ Good h' b' (999000 - 24 * n)) (rgD 0 (2 + min ns.length 2)) 0 _ h1 ⟨none, none, none, none, none, 1, rfl, g1.weak (by omega)⟩ fun i d e δ h' ⟨x2, x3, x4, x5, x6, b', e1, g'⟩ => by
    subst e1
    obtain ⟨hi, rfl⟩ := rg_get e
    obtain ⟨y3, y4, y5, y6, h2, b2, e2, g2⟩ := body14_ok (s0 := some (.scr (ns.map .int))) (tn := some (.int (0 + (i : Int)))) (N := 999000 - 24 * (0 + i + 1)) (g'.weak (by omega)) x3 x4 x5 x6
    exact ⟨_, _, _, rfl, .inl e2, ⟨_, _, _, _, _, b2, rfl, g2⟩⟩
  have st1 : u_law_1 [some (.scr (ns.map .int)), none, none, none, none, none, none, none, none, none] [] = .nx [some (.scr (ns.map .int)), some (.ref 2), none, none, none, none, none, none, none, none] h1 := by
    simp [u_law_1, e1, runD, startD, endRt, endNx, endExc, seqE, seqNx, seqRt, seqExc, sNil, sPass, sIf, sRet, sRetN, sExpr, sSet, sAsg, sPar, kPar, setAll, sIxS, kSet, L3.sFld, eVar, eC, eBin, eTest, eChain, eUn, tAnd3, tOr3, tNot3, eAnd, eOr, eNot, eIf, aNil, aCons, eTup, eLst, eLstM, eCall, kCall, eMeth, kMeth, clsObj, eB, one, eFld, fldD, fieldAt, L3.putAt, eProp, kProp, noX, eMake, eLc, kLst, iSeq, L3.iZip, kZip, zipL, immS, iRg1, lcNil, lcCons, lcAS, lcBT, lcBF, lcCO, loNil, loCons, loAS, loNx, loCt, loBk, loRt, L3.sFor, sForW, eLcW, wSeq, wZip, kZipW, loopW, lcW, optS, wipeD, gSet, gTupD, gsNil, gsCons, tYes3, eIsi, isiD, kdOf, isK, allB, anyB, sumB, L3.listOf, blsOf, intsOf, asL, bindOk, bindExc, bindStk, toSOk, toSExc, lineOk, addI, subI, negI, mulL, mulR, divI, modI, ltI, leI, gtI, geI, eqI, neI, intB1, intB2, lenTup, lenLst, lenScr, tup0, tup1, tup2, tup3, tup4, tup5, lst0, lst1, lst2, lst3, List.getElem?_cons_zero, List.getElem?_cons_succ, List.getElem?_nil, List.set_cons_zero, List.set_cons_succ, List.length_cons, List.length_nil, List.map_cons, List.map_nil, List.replicate_succ, List.replicate_zero, List.cons_append, List.nil_append, List.append_nil, if_true, if_false, ite_true, ite_false, Bool.false_eq_true, Bool.not_true, Bool.not_false, Bool.true_and, Bool.and_true, Bool.false_and, Bool.and_false, Bool.or_true, Bool.true_or, Bool.false_or, Bool.or_false, and_self, and_true, true_and, Nat.sub_zero, Nat.sub_self, Nat.reduceSub, Nat.reduceAdd, Nat.reduceLeDiff, Nat.reduceEqDiff, decide_true, decide_false, Nat.zero_le]
  have st2 : u_law_2 [some (.scr (ns.map .int)), some (.ref 2), none, none, none, none, none, none, none, none] h1 = .nx [some (.scr (ns.map .int)), some (.ref 2), x2, x3, x4, x5, x6, none, none, none] h2 := by
    have t := turns_ok 2 2 (by omega) (by omega) ns [some (.ref 2), none, none, none, none, none, none, none, none] h1
    show (iRg1 _ _ h1).toS _ _ = _
    erw [t]
    exact e
  have st3 : ∀ δ h, u_law_3 δ h = .rt (.bl true) h := fun _ _ => rfl
  refine ⟨h2, ?_⟩
  show endD (u_law [some (.scr (ns.map .int)), none, none, none, none, none, none, none, none, none] []) = _
  unfold u_law
  rw [seq_nx st1 (seq_nx st2 (st3 _ _))]
  rfl
end Lw
set_option autoImplicit false
set_option maxHeartbeats 8000000
namespace Lw
open PySem PySem.Spec L2 L3
open He (ga ma)
def top (i : Nat) : Stmt := PySem.Challenge.pw_tilewright_k14_whole_rows_side_by_side.main.body.getD i (.Pass ⟨0, 0, 0, 0⟩)
def clsB : Stmt → List Stmt
  | .ClassDef _ _ _ b _ _ _ _ _ _ _ => b
  | _ => []
def mem (i j : Nat) : Stmt := (clsB (top i)).getD j (.Pass ⟨0, 0, 0, 0⟩)
def TX (K : PySem.W.Frag) : Tx where
  cls := fun c => match c with
    | 0 => some (ga K "Triangle", ["corners", "own_size", "own_edges"])
    | 1 => some (ga K "Canvas", ["width", "height", "own_places", "own_tiles"])
    | _ => none
  exc := fun _ => none
  src := fun _ _ _ _ => False
  srcAt := fun _ _ _ _ h => h.elim
  srcStay := fun _ _ _ _ _ h _ => h.elim
def d__law_begun : DefL := ⟨("_law_begun", none), false, "_law_begun", "_law_begun", defArgs (top 29), defBody (top 29), defScope (top 29), []⟩
def d__law_next : DefL := ⟨("_law_next", none), false, "_law_next", "_law_next", defArgs (top 30), defBody (top 30), defScope (top 30), []⟩
def d__law_corner : DefL := ⟨("_law_corner", none), false, "_law_corner", "_law_corner", defArgs (top 31), defBody (top 31), defScope (top 31), []⟩
def d_is_whole_in : DefL := ⟨("is_whole_in", none), false, "is_whole_in", "is_whole_in", defArgs (top 9), defBody (top 9), defScope (top 9), []⟩
def d_are_whole_in : DefL := ⟨("are_whole_in", none), false, "are_whole_in", "are_whole_in", defArgs (top 10), defBody (top 10), defScope (top 10), []⟩
def d_is_corner : DefL := ⟨("is_corner", none), false, "is_corner", "is_corner", defArgs (top 16), defBody (top 16), defScope (top 16), []⟩
def d_eye_row : DefL := ⟨("eye_row", none), false, "eye_row", "eye_row", defArgs (top 17), defBody (top 17), defScope (top 17), []⟩
def d_crossed_rows : DefL := ⟨("crossed_rows", none), false, "crossed_rows", "crossed_rows", defArgs (top 18), defBody (top 18), defScope (top 18), []⟩
def d_linear_edge : DefL := ⟨("linear_edge", none), false, "linear_edge", "linear_edge", defArgs (top 19), defBody (top 19), defScope (top 19), []⟩
def d_Triangle___init__ : DefL := ⟨("Triangle", some "__init__"), false, "__init__", "Triangle.__init__", defArgs (mem 22 0), defBody (mem 22 0), defScope (mem 22 0), []⟩
def d_need_whole_place : DefL := ⟨("need_whole_place", none), false, "need_whole_place", "need_whole_place", defArgs (top 20), defBody (top 20), defScope (top 20), []⟩
def d_Triangle_values_at : DefL := ⟨("Triangle", some "values_at"), false, "values_at", "Triangle.values_at", defArgs (mem 22 5), defBody (mem 22 5), defScope (mem 22 5), []⟩
def d_is_let_in : DefL := ⟨("is_let_in", none), false, "is_let_in", "is_let_in", defArgs (top 21), defBody (top 21), defScope (top 21), []⟩
def d_Triangle_is_over : DefL := ⟨("Triangle", some "is_over"), false, "is_over", "Triangle.is_over", defArgs (mem 22 7), defBody (mem 22 7), defScope (mem 22 7), []⟩
def d_Triangle_covers : DefL := ⟨("Triangle", some "covers"), false, "covers", "Triangle.covers", defArgs (mem 22 8), defBody (mem 22 8), defScope (mem 22 8), []⟩
def d_Triangle_lets_in : DefL := ⟨("Triangle", some "lets_in"), false, "lets_in", "Triangle.lets_in", defArgs (mem 22 6), defBody (mem 22 6), defScope (mem 22 6), []⟩
def d__law_turns : DefL := ⟨("_law_turns", none), false, "_law_turns", "_law_turns", defArgs (top 32), defBody (top 32), defScope (top 32), []⟩
def d__law_lane_right : DefL := ⟨("_law_lane_right", none), false, "_law_lane_right", "_law_lane_right", defArgs (top 33), defBody (top 33), defScope (top 33), []⟩
def d_number_across : DefL := ⟨("number_across", none), false, "number_across", "number_across", defArgs (top 25), defBody (top 25), defScope (top 25), []⟩
def d_number_at : DefL := ⟨("number_at", none), false, "number_at", "number_at", defArgs (top 26), defBody (top 26), defScope (top 26), []⟩
def d_Canvas___init__ : DefL := ⟨("Canvas", some "__init__"), false, "__init__", "Canvas.__init__", defArgs (mem 24 0), defBody (mem 24 0), defScope (mem 24 0), []⟩
def d_Canvas_tiles : DefL := ⟨("Canvas", some "tiles"), false, "tiles", "Canvas.tiles", defArgs (mem 24 4), defBody (mem 24 4), defScope (mem 24 4), []⟩
def d_need_tile_on : DefL := ⟨("need_tile_on", none), false, "need_tile_on", "need_tile_on", defArgs (top 27), defBody (top 27), defScope (top 27), []⟩
def d_Canvas_places_of : DefL := ⟨("Canvas", some "places_of"), false, "places_of", "Canvas.places_of", defArgs (mem 24 6), defBody (mem 24 6), defScope (mem 24 6), []⟩
def d__law_tiles_right : DefL := ⟨("_law_tiles_right", none), false, "_law_tiles_right", "_law_tiles_right", defArgs (top 34), defBody (top 34), defScope (top 34), []⟩
def d_law : DefL := ⟨("law", none), false, "law", "law", defArgs (top 35), defBody (top 35), defScope (top 35), []⟩
def fl : List Fl := [.k (.glo "_law_begun"), .k (.free "len"), .k (.free "min"), .k (.free "range"), .k (.glo "_law_corner"), .k (.mkr "Triangle"), .k (.glo "Triangle"), .k (.glo "_law_next"), .k (.glo "_law_lane_right"), .k (.mkr "Canvas"), .k (.glo "Canvas"), .k (.glo "_law_tiles_right"), .k (.free "list"), .k (.free "int"), .k (.glo "is_corner"), .k (.free "all"), .k (.glo "eye_row"), .k (.glo "crossed_rows"), .k (.glo "linear_edge"), .gc "MAX_NUMBER" c_MAX_NUMBER, .k (.glo "are_whole_in"), .k (.free "isinstance"), .k (.free "tuple"), .k (.glo "is_whole_in"), .k (.free "bool"), .k (.cls "Triangle"), .k (.meth "Triangle" "covers"), .k (.meth "Triangle" "lets_in"), .k (.glo "_law_turns"), .k (.glo "need_whole_place"), .k (.meth "Triangle" "values_at"), .k (.meth "Triangle" "is_over"), .k (.free "zip"), .k (.glo "is_let_in"), .gc "MAX_WIDTH" c_MAX_WIDTH, .gc "MAX_HEIGHT" c_MAX_HEIGHT, .k (.glo "number_across"), .k (.glo "number_at"), .gc "TILE" c_TILE, .k (.cls "Canvas"), .k (.meth "Canvas" "tiles"), .k (.meth "Canvas" "places_of"), .k (.free "max"), .k (.glo "need_tile_on"), .k (.noat "Triangle" "corners"), .k (.noat "Triangle" "own_size"), .k (.noat "Triangle" "own_edges"), .k (.noat "Canvas" "width"), .k (.noat "Canvas" "height"), .k (.noat "Canvas" "own_places"), .k (.noat "Canvas" "own_tiles"), .k (.glo "law")]
def fn : List DefL := [d__law_begun, d__law_next, d__law_corner, d_is_whole_in, d_are_whole_in, d_is_corner, d_eye_row, d_crossed_rows, d_linear_edge, d_Triangle___init__, d_need_whole_place, d_Triangle_values_at, d_is_let_in, d_Triangle_is_over, d_Triangle_covers, d_Triangle_lets_in, d__law_turns, d__law_lane_right, d_number_across, d_number_at, d_Canvas___init__, d_Canvas_tiles, d_need_tile_on, d_Canvas_places_of, d__law_tiles_right, d_law]
abbrev Bt := Bs fl fn
theorem at_corners {X : Cx} {mg : Str → Option Value} (B : Bt X.K mg) : AttrOk X (TX X.K) "corners" ix_corners := by
  intro c k e
  unfold ix_corners at e
  split at e
  · cases e; exact ⟨_, _, rfl, rfl, by decide, by decide, B.cls 25, B.noat 44⟩
  · cases e
theorem at_own_size {X : Cx} {mg : Str → Option Value} (B : Bt X.K mg) : AttrOk X (TX X.K) "own_size" ix_own_size := by
  intro c k e
  unfold ix_own_size at e
  split at e
  · cases e; exact ⟨_, _, rfl, rfl, by decide, by decide, B.cls 25, B.noat 45⟩
  · cases e
theorem at_own_edges {X : Cx} {mg : Str → Option Value} (B : Bt X.K mg) : AttrOk X (TX X.K) "own_edges" ix_own_edges := by
  intro c k e
  unfold ix_own_edges at e
  split at e
  · cases e; exact ⟨_, _, rfl, rfl, by decide, by decide, B.cls 25, B.noat 46⟩
  · cases e
theorem at_width {X : Cx} {mg : Str → Option Value} (B : Bt X.K mg) : AttrOk X (TX X.K) "width" ix_width := by
  intro c k e
  unfold ix_width at e
  split at e
  · cases e; exact ⟨_, _, rfl, rfl, by decide, by decide, B.cls 39, B.noat 47⟩
  · cases e
theorem at_height {X : Cx} {mg : Str → Option Value} (B : Bt X.K mg) : AttrOk X (TX X.K) "height" ix_height := by
  intro c k e
  unfold ix_height at e
  split at e
  · cases e; exact ⟨_, _, rfl, rfl, by decide, by decide, B.cls 39, B.noat 48⟩
  · cases e
theorem at_own_places {X : Cx} {mg : Str → Option Value} (B : Bt X.K mg) : AttrOk X (TX X.K) "own_places" ix_own_places := by
  intro c k e
  unfold ix_own_places at e
  split at e
  · cases e; exact ⟨_, _, rfl, rfl, by decide, by decide, B.cls 39, B.noat 49⟩
  · cases e
theorem at_own_tiles {X : Cx} {mg : Str → Option Value} (B : Bt X.K mg) : AttrOk X (TX X.K) "own_tiles" ix_own_tiles := by
  intro c k e
  unfold ix_own_tiles at e
  split at e
  · cases e; exact ⟨_, _, rfl, rfl, by decide, by decide, B.cls 39, B.noat 50⟩
  · cases e
abbrev N__law_begun : List Str := ["_law_script", "_law_cell"]
theorem sc__law_begun : FnScope ["_law_script", "_law_cell"] ["_law_script"] (defScope (top 29)) := ⟨rfl, rfl, rfl, by decide +kernel, rfl, by decide +kernel, by decide +kernel⟩
theorem ok__law_begun {P : Program} {w : World} {K : PySem.W.Frag} {mg : Str → Option Value} (B : Bt K mg) : ∃ fd, (∀ base, FnL P w K mg base (TX K) 1 (ga K "_law_begun") fd ["_law_script"] f__law_begun) ∧ Binds K fd ["_law_script"] [] ∧ PySem.W.keepIn K (.ref (ga K "_law_begun")) = true := by
  obtain ⟨fd, F⟩ := B.c.def_ 0 (d := d__law_begun) rfl
  refine ⟨fd, fun base => def_okD F sc__law_begun fun cdv A outer s H E W hr tk => ?_, FunD.bindsN F fun _ _ _ _ _ _ us hl => match us, hl with | [_], _ => rfl, F.kp⟩
  have hu := hr.units
  have hu1 := Nat.lt_of_le_of_lt (Nat.add_le_add_left (by decide : 1 ≤ 64) _) hu
  have sc := sc__law_begun
  exact (fss_one (fs_ret (fe_dict (fps_cons (fe_str (y := [99, 101, 108, 108, 115]) rfl) (fe_bt call_list_of cs_listM rfl (B.free 12) (by decide +kernel) (fa_cons (fe_var 0 (pv 0)) fa_nil)) (fps_cons (fe_str (y := [108, 101, 102, 116]) rfl) (fe_lcW (own := [("_law_cell", 1)]) rfl sc.nd (fw_seq (fe_var 0 (pv 0))) (blkOk_by (by show blkC N__law_begun (defScope (top 29)) _ _ = true; decide +kernel)) (fun s H C cl fp => by exact (fg_name 1 sc.nd rfl (by first | exact Or.inl rfl | exact Or.inr rfl))) (fun s H C cl fp => by exact (fts_one (ft_cmp L2.op_ge os_cmp (by rfl) (fe_var 1 (pv 1)) (fe_op L2.op_pow os_pow fe_int fe_int)))) (fun s H C cl fp => by exact (fe_var 1 (pv 1))) (by decide)) (fps_cons (fe_str (y := [97, 116]) rfl) fe_int fps_nil))) rfl rfl (by simp) (by decide))))
abbrev N__law_next : List Str := ["_law_m", "_law_many", "_law_rest", "_law_k", "_law_cell", "_law_mixed"]
theorem sc__law_next : FnScope ["_law_m", "_law_many", "_law_rest", "_law_k", "_law_cell", "_law_mixed"] ["_law_m", "_law_many"] (defScope (top 30)) := ⟨rfl, rfl, rfl, by decide +kernel, rfl, by decide +kernel, by decide +kernel⟩
theorem ok__law_next {P : Program} {w : World} {K : PySem.W.Frag} {mg : Str → Option Value} (B : Bt K mg) : ∃ fd, (∀ base, FnL P w K mg base (TX K) 1 (ga K "_law_next") fd ["_law_m", "_law_many"] f__law_next) ∧ Binds K fd ["_law_m", "_law_many"] [] ∧ PySem.W.keepIn K (.ref (ga K "_law_next")) = true := by
  obtain ⟨fd, F⟩ := B.c.def_ 1 (d := d__law_next) rfl
  refine ⟨fd, fun base => def_okD F sc__law_next fun cdv A outer s H E W hr tk => ?_, FunD.bindsN F fun _ _ _ _ _ _ us hl => match us, hl with | [_, _], _ => rfl, F.kp⟩
  have hu := hr.units
  have hu1 := Nat.lt_of_le_of_lt (Nat.add_le_add_left (by decide : 1 ≤ 64) _) hu
  have sc := sc__law_next
  exact (fss_cons (fs_while (passes_of rfl) (ft_bool (fw_and (ft_cmp (op_neP hu) os_ne (by rfl) (fe_ixA hu1 (fun _ _ => rfl) (fe_var 0 (pv 0)) (fe_str (y := [108, 101, 102, 116]) rfl)) (fe_lst fa_nil)) (fw_and1 (ft_cmp (op_eqP hu) os_eq (by rfl) (fe_ixA hu1 (fun _ _ => rfl) (fe_ixA hu1 (fun _ _ => rfl) (fe_var 0 (pv 0)) (fe_str (y := [108, 101, 102, 116]) rfl)) fe_int) fe_int)))) (fss_one (fs_ix hu1 (fe_var 0 (pv 0)) (fe_str (y := [108, 101, 102, 116]) rfl) (fe_sliceM (fe_ixA hu1 (fun _ _ => rfl) (fe_var 0 (pv 0)) (fe_str (y := [108, 101, 102, 116]) rfl)) (fo_some fe_int) fo_none)))) (fss_cons (fs_if (ft_cmp (op_neP hu) os_ne (by rfl) (fe_ixA hu1 (fun _ _ => rfl) (fe_var 0 (pv 0)) (fe_str (y := [108, 101, 102, 116]) rfl)) (fe_lst fa_nil)) (fss_cons (fs_set (i := 2) sc.nd rfl (by first | exact Or.inl rfl | exact Or.inr rfl) (fe_bt call_int1 cs_int rfl (B.free 13) (by decide +kernel) (fa_cons (fe_ixA hu1 (fun _ _ => rfl) (fe_ixA hu1 (fun _ _ => rfl) (fe_var 0 (pv 0)) (fe_str (y := [108, 101, 102, 116]) rfl)) fe_int) fa_nil))) (fss_cons (fs_ix hu1 (fe_ixA hu1 (fun _ _ => rfl) (fe_var 0 (pv 0)) (fe_str (y := [108, 101, 102, 116]) rfl)) fe_int (fe_op L2.op_fdivW os_div (fe_var 2 (pv 2)) (fe_var 1 (pv 1)))) (fss_one (fs_ret (fe_op L2.op_mod os_mod (fe_var 2 (pv 2)) (fe_var 1 (pv 1))))))) fss_nil) (fss_cons (fs_set (i := 3) sc.nd rfl (by first | exact Or.inl rfl | exact Or.inr rfl) (fe_op op_addA os_add (fe_ixA hu1 (fun _ _ => rfl) (fe_var 0 (pv 0)) (fe_str (y := [97, 116]) rfl)) fe_int)) (fss_cons (fs_ix hu1 (fe_var 0 (pv 0)) (fe_str (y := [97, 116]) rfl) (fe_var 3 (pv 3))) (fss_cons (fs_set (i := 4) sc.nd rfl (by first | exact Or.inl rfl | exact Or.inr rfl) (fe_if (ft_cmp (op_neP hu) os_ne (by rfl) (fe_ixA hu1 (fun _ _ => rfl) (fe_var 0 (pv 0)) (fe_str (y := [99, 101, 108, 108, 115]) rfl)) (fe_lst fa_nil)) (fe_ixA hu1 (fun _ _ => rfl) (fe_ixA hu1 (fun _ _ => rfl) (fe_var 0 (pv 0)) (fe_str (y := [99, 101, 108, 108, 115]) rfl)) (fe_op L2.op_mod os_mod (fe_bt call_int1 cs_int rfl (B.free 13) (by decide +kernel) (fa_cons (fe_var 3 (pv 3)) fa_nil)) (fe_b call_len cs_len rfl (B.free 1) (by decide +kernel) (fa_cons (fe_ixA hu1 (fun _ _ => rfl) (fe_var 0 (pv 0)) (fe_str (y := [99, 101, 108, 108, 115]) rfl)) fa_nil)))) fe_int)) (fss_cons (fs_set (i := 5) sc.nd rfl (by first | exact Or.inl rfl | exact Or.inr rfl) (fe_op op_mulA os_mul (fe_bt call_int1 cs_int rfl (B.free 13) (by decide +kernel) (fa_cons (fe_op op_addA os_add (fe_op op_addA os_add (fe_op L2.op_mod os_mod (fe_bt call_int1 cs_int rfl (B.free 13) (by decide +kernel) (fa_cons (fe_var 4 (pv 4)) fa_nil)) fe_int) (fe_op op_mulA os_mul fe_int (fe_var 3 (pv 3)))) (fe_op op_mulA os_mul (fe_op op_mulA os_mul fe_int (fe_var 3 (pv 3))) (fe_var 3 (pv 3)))) fa_nil)) fe_int)) (fss_cons (fs_set (i := 5) sc.nd rfl (by first | exact Or.inl rfl | exact Or.inr rfl) (fe_op op_mulA os_mul (fe_bt call_int1 cs_int rfl (B.free 13) (by decide +kernel) (fa_cons (fe_op op_addA os_add (fe_op L2.op_mod os_mod (fe_bt call_int1 cs_int rfl (B.free 13) (by decide +kernel) (fa_cons (fe_var 5 (pv 5)) fa_nil)) fe_int) (fe_op op_mulA os_mul fe_int (fe_var 3 (pv 3)))) fa_nil)) fe_int)) (fss_one (fs_ret (fe_op L2.op_mod os_mod (fe_bt call_int1 cs_int rfl (B.free 13) (by decide +kernel) (fa_cons (fe_op L2.op_fdivW os_div (fe_op L2.op_mod os_mod (fe_bt call_int1 cs_int rfl (B.free 13) (by decide +kernel) (fa_cons (fe_var 5 (pv 5)) fa_nil)) fe_int) fe_int) fa_nil)) (fe_var 1 (pv 1))))))))))))
abbrev N__law_corner : List Str := ["_law_m", "_law_more", "_law_most", "_law_x", "_law_y"]
theorem sc__law_corner : FnScope ["_law_m", "_law_more", "_law_most", "_law_x", "_law_y"] ["_law_m"] (defScope (top 31)) := ⟨rfl, rfl, rfl, by decide +kernel, rfl, by decide +kernel, by decide +kernel⟩
theorem ok__law_corner {P : Program} {w : World} {K : PySem.W.Frag} {mg : Str → Option Value} (B : Bt K mg) : ∃ fd, (∀ base, FnL P w K mg base (TX K) 2 (ga K "_law_corner") fd ["_law_m"] f__law_corner) ∧ Binds K fd ["_law_m"] [] ∧ PySem.W.keepIn K (.ref (ga K "_law_corner")) = true := by
  obtain ⟨fd, F⟩ := B.c.def_ 2 (d := d__law_corner) rfl
  obtain ⟨fd__law_next, G__law_next, b__law_next, k__law_next⟩ := ok__law_next (P := P) (w := w) B
  refine ⟨fd, fun base => def_okD F sc__law_corner fun cdv A outer s H E W hr tk => ?_, FunD.bindsN F fun _ _ _ _ _ _ us hl => match us, hl with | [_], _ => rfl, F.kp⟩
  have hu := hr.units
  have hu1 := Nat.lt_of_le_of_lt (Nat.add_le_add_left (by decide : 1 ≤ 64) _) hu
  have sc := sc__law_corner
  exact (fss_cons (fs_par (i := 1) (j := 2) rfl sc.nd rfl rfl (by decide) rfl rfl (fa_cons (fe_ixA hu1 (fun _ _ => rfl) (fe_lst (fa_cons fe_int (fa_cons fe_int (fa_cons fe_int (fa_cons (fe_un L2.un_neg us_neg fe_int) (fa_cons (fe_un L2.un_neg us_neg fe_int) (fa_cons fe_int fa_nil))))))) (fe_call tk (G__law_next base) (hr.mono (by decide)) rfl (B.glo 7) k__law_next b__law_next Dfl.nil (fa_cons (fe_var 0 (pv 0)) (fa_cons fe_int fa_nil)))) (fa_cons (fe_ixA hu1 (fun _ _ => rfl) (fe_lst (fa_cons fe_int (fa_cons fe_int (fa_cons fe_int fa_nil)))) (fe_call tk (G__law_next base) (hr.mono (by decide)) rfl (B.glo 7) k__law_next b__law_next Dfl.nil (fa_cons (fe_var 0 (pv 0)) (fa_cons fe_int fa_nil)))) fa_nil)) rfl) (fss_cons (fs_par (i := 3) (j := 4) rfl sc.nd rfl rfl (by decide) rfl rfl (fa_cons (fe_op L2.op_sub os_sub (fe_call tk (G__law_next base) (hr.mono (by decide)) rfl (B.glo 7) k__law_next b__law_next Dfl.nil (fa_cons (fe_var 0 (pv 0)) (fa_cons (fe_op op_mulA os_mul fe_int (fe_var 2 (pv 2))) fa_nil))) (fe_op L2.op_fdivW os_div (fe_var 2 (pv 2)) fe_int)) (fa_cons (fe_op L2.op_sub os_sub (fe_call tk (G__law_next base) (hr.mono (by decide)) rfl (B.glo 7) k__law_next b__law_next Dfl.nil (fa_cons (fe_var 0 (pv 0)) (fa_cons (fe_op op_mulA os_mul fe_int (fe_var 2 (pv 2))) fa_nil))) (fe_op L2.op_fdivW os_div (fe_var 2 (pv 2)) fe_int)) fa_nil)) rfl) (fss_one (fs_ret (fe_tup (fa_cons (fe_op op_mulA os_mul (fe_var 1 (pv 1)) (fe_var 3 (pv 3))) (fa_cons (fe_op op_mulA os_mul (fe_var 1 (pv 1)) (fe_var 4 (pv 4))) (fa_cons (fe_call tk (G__law_next base) (hr.mono (by decide)) rfl (B.glo 7) k__law_next b__law_next Dfl.nil (fa_cons (fe_var 0 (pv 0)) (fa_cons fe_int fa_nil))) (fa_cons (fe_op op_mulA os_mul fe_int (fe_var 1 (pv 1))) (fa_cons (fe_call tk (G__law_next base) (hr.mono (by decide)) rfl (B.glo 7) k__law_next b__law_next Dfl.nil (fa_cons (fe_var 0 (pv 0)) (fa_cons fe_int fa_nil))) (fa_cons (fe_op op_addA os_add fe_int (fe_call tk (G__law_next base) (hr.mono (by decide)) rfl (B.glo 7) k__law_next b__law_next Dfl.nil (fa_cons (fe_var 0 (pv 0)) (fa_cons fe_int fa_nil)))) fa_nil)))))))))))
abbrev N_is_whole_in : List Str := ["value", "least", "most"]
theorem sc_is_whole_in : FnScope ["value", "least", "most"] ["value", "least", "most"] (defScope (top 9)) := ⟨rfl, rfl, rfl, by decide +kernel, rfl, by decide +kernel, by decide +kernel⟩
theorem ok_is_whole_in {P : Program} {w : World} {K : PySem.W.Frag} {mg : Str → Option Value} (B : Bt K mg) : ∃ fd, (∀ base, FnL P w K mg base (TX K) 1 (ga K "is_whole_in") fd ["value", "least", "most"] f_is_whole_in) ∧ Binds K fd ["value", "least", "most"] [] ∧ PySem.W.keepIn K (.ref (ga K "is_whole_in")) = true := by
  obtain ⟨fd, F⟩ := B.c.def_ 3 (d := d_is_whole_in) rfl
  refine ⟨fd, fun base => def_okD F sc_is_whole_in fun cdv A outer s H E W hr tk => ?_, FunD.bindsN F fun _ _ _ _ _ _ us hl => match us, hl with | [_, _, _], _ => rfl, F.kp⟩
  have hu := hr.units
  have hu1 := Nat.lt_of_le_of_lt (Nat.add_le_add_left (by decide : 1 ≤ 64) _) hu
  have sc := sc_is_whole_in
  exact (fss_one (fs_ret (fe_and (fe_isi (t := .int) (fe_var 0 (pv 0)) rfl (B.free 21) rfl (B.free 13) (by decide +kernel) (by decide +kernel)) (fe_and (fe_not (fe_isi (t := .bool) (fe_var 0 (pv 0)) rfl (B.free 21) rfl (B.free 24) (by decide +kernel) (by decide +kernel))) (fe_one (fe_chain L2.op_le L2.op_le os_cmp os_cmp (by rfl) (fe_var 1 (pv 1)) (fe_var 0 (pv 0)) (fe_var 2 (pv 2))))))))
abbrev N_are_whole_in : List Str := ["value", "many", "least", "most", "part"]
theorem sc_are_whole_in : FnScope ["value", "many", "least", "most", "part"] ["value", "many", "least", "most"] (defScope (top 10)) := ⟨rfl, rfl, rfl, by decide +kernel, rfl, by decide +kernel, by decide +kernel⟩
theorem ok_are_whole_in {P : Program} {w : World} {K : PySem.W.Frag} {mg : Str → Option Value} (B : Bt K mg) : ∃ fd, (∀ base, FnL P w K mg base (TX K) 2 (ga K "are_whole_in") fd ["value", "many", "least", "most"] f_are_whole_in) ∧ Binds K fd ["value", "many", "least", "most"] [] ∧ PySem.W.keepIn K (.ref (ga K "are_whole_in")) = true := by
  obtain ⟨fd, F⟩ := B.c.def_ 4 (d := d_are_whole_in) rfl
  obtain ⟨fd_is_whole_in, G_is_whole_in, b_is_whole_in, k_is_whole_in⟩ := ok_is_whole_in (P := P) (w := w) B
  refine ⟨fd, fun base => def_okD F sc_are_whole_in fun cdv A outer s H E W hr tk => ?_, FunD.bindsN F fun _ _ _ _ _ _ us hl => match us, hl with | [_, _, _, _], _ => rfl, F.kp⟩
  have hu := hr.units
  have hu1 := Nat.lt_of_le_of_lt (Nat.add_le_add_left (by decide : 1 ≤ 64) _) hu
  have sc := sc_are_whole_in
  exact (fss_cons (fs_if (ft_bool (fw_or (ft_not (ft_val (fe_isi (t := .tuple) (fe_var 0 (pv 0)) rfl (B.free 21) rfl (B.free 22) (by decide +kernel) (by decide +kernel)))) (fw_or1 (ft_cmp (op_neP hu) os_ne (by rfl) (fe_b call_len cs_len rfl (B.free 1) (by decide +kernel) (fa_cons (fe_var 0 (pv 0)) fa_nil)) (fe_var 1 (pv 1)))))) (fss_one (fs_ret fe_bl)) fss_nil) (fss_one (fs_ret (fe_b (cr_all rfl) cs_all rfl (B.free 15) (by decide +kernel) (fa_cons (fe_lcW (own := [("part", 4)]) rfl sc.nd (fw_seq (fe_var 0 (pv 0))) (blkOk_by (by show blkC N_are_whole_in (defScope (top 10)) _ _ = true; decide +kernel)) (fun s H C cl fp => by exact (fg_name 4 sc.nd rfl (by first | exact Or.inl rfl | exact Or.inr rfl))) (fun s H C cl fp => by exact fts_nil) (fun s H C cl fp => by exact (fe_call takes0 (G_is_whole_in base) (hr.mono (by decide)) rfl (B.glo 23) k_is_whole_in b_is_whole_in Dfl.nil (fa_cons (fe_var 4 (pv 4)) (fa_cons (fe_var 2 (pv 2)) (fa_cons (fe_var 3 (pv 3)) fa_nil))))) (by decide)) fa_nil)))))
abbrev N_is_corner : List Str := ["value"]
theorem sc_is_corner : FnScope ["value"] ["value"] (defScope (top 16)) := ⟨rfl, rfl, rfl, by decide +kernel, rfl, by decide +kernel, by decide +kernel⟩
theorem ok_is_corner {P : Program} {w : World} {K : PySem.W.Frag} {mg : Str → Option Value} (B : Bt K mg) : ∃ fd, (∀ base, FnL P w K mg base (TX K) 3 (ga K "is_corner") fd ["value"] f_is_corner) ∧ Binds K fd ["value"] [] ∧ PySem.W.keepIn K (.ref (ga K "is_corner")) = true := by
  obtain ⟨fd, F⟩ := B.c.def_ 5 (d := d_is_corner) rfl
  obtain ⟨fd_are_whole_in, G_are_whole_in, b_are_whole_in, k_are_whole_in⟩ := ok_are_whole_in (P := P) (w := w) B
  refine ⟨fd, fun base => def_okD F sc_is_corner fun cdv A outer s H E W hr tk => ?_, FunD.bindsN F fun _ _ _ _ _ _ us hl => match us, hl with | [_], _ => rfl, F.kp⟩
  have hu := hr.units
  have hu1 := Nat.lt_of_le_of_lt (Nat.add_le_add_left (by decide : 1 ≤ 64) _) hu
  have sc := sc_is_corner
  exact (fss_one (fs_ret (fe_and (fe_call tk (G_are_whole_in base) (hr.mono (by decide)) rfl (B.glo 20) k_are_whole_in b_are_whole_in Dfl.nil (fa_cons (fe_var 0 (pv 0)) (fa_cons fe_int (fa_cons (fe_un L2.un_neg us_neg (fe_gc rfl (B.gc 19))) (fa_cons (fe_gc rfl (B.gc 19)) fa_nil))))) (fe_one (fe_cmp L2.op_ge os_cmp (by rfl) (fe_ixA hu1 (fun _ _ => rfl) (fe_var 0 (pv 0)) fe_int) fe_int)))))
abbrev N_eye_row : List Str := ["corner"]
theorem sc_eye_row : FnScope ["corner"] ["corner"] (defScope (top 17)) := ⟨rfl, rfl, rfl, by decide +kernel, rfl, by decide +kernel, by decide +kernel⟩
theorem ok_eye_row {P : Program} {w : World} {K : PySem.W.Frag} {mg : Str → Option Value} (B : Bt K mg) : ∃ fd, (∀ base, FnL P w K mg base (TX K) 1 (ga K "eye_row") fd ["corner"] f_eye_row) ∧ Binds K fd ["corner"] [] ∧ PySem.W.keepIn K (.ref (ga K "eye_row")) = true := by
  obtain ⟨fd, F⟩ := B.c.def_ 6 (d := d_eye_row) rfl
  refine ⟨fd, fun base => def_okD F sc_eye_row fun cdv A outer s H E W hr tk => ?_, FunD.bindsN F fun _ _ _ _ _ _ us hl => match us, hl with | [_], _ => rfl, F.kp⟩
  have hu := hr.units
  have hu1 := Nat.lt_of_le_of_lt (Nat.add_le_add_left (by decide : 1 ≤ 64) _) hu
  have sc := sc_eye_row
  exact (fss_one (fs_ret (fe_tup (fa_cons (fe_ixA hu1 (fun _ _ => rfl) (fe_var 0 (pv 0)) fe_int) (fa_cons (fe_ixA hu1 (fun _ _ => rfl) (fe_var 0 (pv 0)) fe_int) (fa_cons (fe_ixA hu1 (fun _ _ => rfl) (fe_var 0 (pv 0)) fe_int) fa_nil))))))
abbrev N_crossed_rows : List Str := ["one", "other"]
theorem sc_crossed_rows : FnScope ["one", "other"] ["one", "other"] (defScope (top 18)) := ⟨rfl, rfl, rfl, by decide +kernel, rfl, by decide +kernel, by decide +kernel⟩
theorem ok_crossed_rows {P : Program} {w : World} {K : PySem.W.Frag} {mg : Str → Option Value} (B : Bt K mg) : ∃ fd, (∀ base, FnL P w K mg base (TX K) 1 (ga K "crossed_rows") fd ["one", "other"] f_crossed_rows) ∧ Binds K fd ["one", "other"] [] ∧ PySem.W.keepIn K (.ref (ga K "crossed_rows")) = true := by
  obtain ⟨fd, F⟩ := B.c.def_ 7 (d := d_crossed_rows) rfl
  refine ⟨fd, fun base => def_okD F sc_crossed_rows fun cdv A outer s H E W hr tk => ?_, FunD.bindsN F fun _ _ _ _ _ _ us hl => match us, hl with | [_, _], _ => rfl, F.kp⟩
  have hu := hr.units
  have hu1 := Nat.lt_of_le_of_lt (Nat.add_le_add_left (by decide : 1 ≤ 64) _) hu
  have sc := sc_crossed_rows
  exact (fss_one (fs_ret (fe_tup (fa_cons (fe_op L2.op_sub os_sub (fe_op op_mulA os_mul (fe_ixA hu1 (fun _ _ => rfl) (fe_var 0 (pv 0)) fe_int) (fe_ixA hu1 (fun _ _ => rfl) (fe_var 1 (pv 1)) fe_int)) (fe_op op_mulA os_mul (fe_ixA hu1 (fun _ _ => rfl) (fe_var 0 (pv 0)) fe_int) (fe_ixA hu1 (fun _ _ => rfl) (fe_var 1 (pv 1)) fe_int))) (fa_cons (fe_op L2.op_sub os_sub (fe_op op_mulA os_mul (fe_ixA hu1 (fun _ _ => rfl) (fe_var 0 (pv 0)) fe_int) (fe_ixA hu1 (fun _ _ => rfl) (fe_var 1 (pv 1)) fe_int)) (fe_op op_mulA os_mul (fe_ixA hu1 (fun _ _ => rfl) (fe_var 0 (pv 0)) fe_int) (fe_ixA hu1 (fun _ _ => rfl) (fe_var 1 (pv 1)) fe_int))) (fa_cons (fe_op L2.op_sub os_sub (fe_op op_mulA os_mul (fe_ixA hu1 (fun _ _ => rfl) (fe_var 0 (pv 0)) fe_int) (fe_ixA hu1 (fun _ _ => rfl) (fe_var 1 (pv 1)) fe_int)) (fe_op op_mulA os_mul (fe_ixA hu1 (fun _ _ => rfl) (fe_var 0 (pv 0)) fe_int) (fe_ixA hu1 (fun _ _ => rfl) (fe_var 1 (pv 1)) fe_int))) fa_nil))))))
abbrev N_linear_edge : List Str := ["one", "other", "sign", "x", "y", "w"]
theorem sc_linear_edge : FnScope ["one", "other", "sign", "x", "y", "w"] ["one", "other", "sign"] (defScope (top 19)) := ⟨rfl, rfl, rfl, by decide +kernel, rfl, by decide +kernel, by decide +kernel⟩
theorem ok_linear_edge {P : Program} {w : World} {K : PySem.W.Frag} {mg : Str → Option Value} (B : Bt K mg) : ∃ fd, (∀ base, FnL P w K mg base (TX K) 2 (ga K "linear_edge") fd ["one", "other", "sign"] f_linear_edge) ∧ Binds K fd ["one", "other", "sign"] [] ∧ PySem.W.keepIn K (.ref (ga K "linear_edge")) = true := by
  obtain ⟨fd, F⟩ := B.c.def_ 8 (d := d_linear_edge) rfl
  obtain ⟨fd_crossed_rows, G_crossed_rows, b_crossed_rows, k_crossed_rows⟩ := ok_crossed_rows (P := P) (w := w) B
  refine ⟨fd, fun base => def_okD F sc_linear_edge fun cdv A outer s H E W hr tk => ?_, FunD.bindsN F fun _ _ _ _ _ _ us hl => match us, hl with | [_, _, _], _ => rfl, F.kp⟩
  have hu := hr.units
  have hu1 := Nat.lt_of_le_of_lt (Nat.add_le_add_left (by decide : 1 ≤ 64) _) hu
  have sc := sc_linear_edge
  exact (fss_cons (fs_asg (fg_tup rfl (fgs_cons (fg_name 3 sc.nd rfl (by first | exact Or.inl rfl | exact Or.inr rfl)) (fgs_cons (fg_name 4 sc.nd rfl (by first | exact Or.inl rfl | exact Or.inr rfl)) (fgs_cons (fg_name 5 sc.nd rfl (by first | exact Or.inl rfl | exact Or.inr rfl)) fgs_nil)))) (fe_call tk (G_crossed_rows base) (hr.mono (by decide)) rfl (B.glo 17) k_crossed_rows b_crossed_rows Dfl.nil (fa_cons (fe_var 0 (pv 0)) (fa_cons (fe_var 1 (pv 1)) fa_nil)))) (fss_one (fs_ret (fe_tup (fa_cons (fe_op op_mulA os_mul (fe_op op_mulA os_mul (fe_var 2 (pv 2)) fe_int) (fe_var 3 (pv 3))) (fa_cons (fe_op op_mulA os_mul (fe_op op_mulA os_mul (fe_var 2 (pv 2)) fe_int) (fe_var 4 (pv 4))) (fa_cons (fe_op op_mulA os_mul (fe_var 2 (pv 2)) (fe_op op_addA os_add (fe_op op_addA os_add (fe_var 3 (pv 3)) (fe_var 4 (pv 4))) (fe_op op_mulA os_mul fe_int (fe_var 5 (pv 5))))) fa_nil)))))))
abbrev N_Triangle___init__ : List Str := ["self", "one", "two", "three", "rows", "behind", "sign", "corner"]
theorem sc_Triangle___init__ : FnScope ["self", "one", "two", "three", "rows", "behind", "sign", "corner"] ["self", "one", "two", "three"] (defScope (mem 22 0)) := ⟨rfl, rfl, rfl, by decide +kernel, rfl, by decide +kernel, by decide +kernel⟩
theorem ok_Triangle___init__ {P : Program} {w : World} {K : PySem.W.Frag} {mg : Str → Option Value} (B : Bt K mg) : ∃ fd, (∀ base, FnL P w K mg base (TX K) 4 (ma K (ga K "Triangle") "__init__") fd ["self", "one", "two", "three"] f_Triangle___init__) ∧ Binds K fd ["self", "one", "two", "three"] [] ∧ PySem.W.keepIn K (.ref (ma K (ga K "Triangle") "__init__")) = true := by
  obtain ⟨fd, F⟩ := B.c.def_ 9 (d := d_Triangle___init__) rfl
  obtain ⟨fd_is_corner, G_is_corner, b_is_corner, k_is_corner⟩ := ok_is_corner (P := P) (w := w) B
  obtain ⟨fd_eye_row, G_eye_row, b_eye_row, k_eye_row⟩ := ok_eye_row (P := P) (w := w) B
  obtain ⟨fd_crossed_rows, G_crossed_rows, b_crossed_rows, k_crossed_rows⟩ := ok_crossed_rows (P := P) (w := w) B
  obtain ⟨fd_linear_edge, G_linear_edge, b_linear_edge, k_linear_edge⟩ := ok_linear_edge (P := P) (w := w) B
  refine ⟨fd, fun base => def_okD F sc_Triangle___init__ fun cdv A outer s H E W hr tk => ?_, FunD.bindsN F fun _ _ _ _ _ _ us hl => match us, hl with | [_, _, _, _], _ => rfl, F.kp⟩
  have hu := hr.units
  have hu1 := Nat.lt_of_le_of_lt (Nat.add_le_add_left (by decide : 1 ≤ 64) _) hu
  have sc := sc_Triangle___init__
  exact (fss_cons (fs_if (ft_not (ft_val (fe_b (cr_all rfl) cs_all rfl (B.free 15) (by decide +kernel) (fa_cons (fe_lcW (own := [("corner", 7)]) rfl sc.nd (fw_seq (fe_tup (fa_cons (fe_var 1 (pv 1)) (fa_cons (fe_var 2 (pv 2)) (fa_cons (fe_var 3 (pv 3)) fa_nil))))) (blkOk_by (by show blkC N_Triangle___init__ (defScope (mem 22 0)) _ _ = true; decide +kernel)) (fun s H C cl fp => by exact (fg_name 7 sc.nd rfl (by first | exact Or.inl rfl | exact Or.inr rfl))) (fun s H C cl fp => by exact fts_nil) (fun s H C cl fp => by exact (fe_call takes0 (G_is_corner base) (hr.mono (by decide)) rfl (B.glo 14) k_is_corner b_is_corner Dfl.nil (fa_cons (fe_var 7 (pv 7)) fa_nil))) (by decide)) fa_nil)))) (fss_one fs_never) fss_nil) (fss_cons (fs_fld (at_corners B) (fe_var 0 (pv 0)) (fe_tup (fa_cons (fe_var 1 (pv 1)) (fa_cons (fe_var 2 (pv 2)) (fa_cons (fe_var 3 (pv 3)) fa_nil))))) (fss_cons (by first | exact fs_setLcW (i := 4) (own := [("corner", 7)]) rfl sc.nd rfl rfl rfl (fw_seq (fe_fld (at_corners B) (fe_var 0 (pv 0)))) (blkOk_by (by show blkC N_Triangle___init__ (defScope (mem 22 0)) _ _ = true; decide +kernel)) (fun s H C cl fp => by exact (fg_name 7 sc.nd rfl (by first | exact Or.inl rfl | exact Or.inr rfl))) (fun s H C cl fp => by exact fts_nil) (fun s H C cl fp => by exact (fe_call takes0 (G_eye_row base) (hr.mono (by decide)) rfl (B.glo 16) k_eye_row b_eye_row Dfl.nil (fa_cons (fe_var 7 (pv 7)) fa_nil))) (by decide) | exact fs_set (i := 4) sc.nd rfl (by first | exact Or.inl rfl | exact Or.inr rfl) (fe_lcW (own := [("corner", 7)]) rfl sc.nd (fw_seq (fe_fld (at_corners B) (fe_var 0 (pv 0)))) (blkOk_by (by show blkC N_Triangle___init__ (defScope (mem 22 0)) _ _ = true; decide +kernel)) (fun s H C cl fp => by exact (fg_name 7 sc.nd rfl (by first | exact Or.inl rfl | exact Or.inr rfl))) (fun s H C cl fp => by exact fts_nil) (fun s H C cl fp => by exact (fe_call takes0 (G_eye_row base) (hr.mono (by decide)) rfl (B.glo 16) k_eye_row b_eye_row Dfl.nil (fa_cons (fe_var 7 (pv 7)) fa_nil))) (by decide))) (fss_cons (fs_set (i := 5) sc.nd rfl (by first | exact Or.inl rfl | exact Or.inr rfl) (fe_call tk (G_crossed_rows base) (hr.mono (by decide)) rfl (B.glo 17) k_crossed_rows b_crossed_rows Dfl.nil (fa_cons (fe_ixA hu1 (fun _ _ => rfl) (fe_var 4 (pv 4)) fe_int) (fa_cons (fe_ixA hu1 (fun _ _ => rfl) (fe_var 4 (pv 4)) fe_int) fa_nil)))) (fss_cons (fs_fld (at_own_size B) (fe_var 0 (pv 0)) (fe_op op_addA os_add (fe_op op_addA os_add (fe_op op_mulA os_mul (fe_ixA hu1 (fun _ _ => rfl) (fe_ixA hu1 (fun _ _ => rfl) (fe_var 4 (pv 4)) fe_int) fe_int) (fe_ixA hu1 (fun _ _ => rfl) (fe_var 5 (pv 5)) fe_int)) (fe_op op_mulA os_mul (fe_ixA hu1 (fun _ _ => rfl) (fe_ixA hu1 (fun _ _ => rfl) (fe_var 4 (pv 4)) fe_int) fe_int) (fe_ixA hu1 (fun _ _ => rfl) (fe_var 5 (pv 5)) fe_int))) (fe_op op_mulA os_mul (fe_ixA hu1 (fun _ _ => rfl) (fe_ixA hu1 (fun _ _ => rfl) (fe_var 4 (pv 4)) fe_int) fe_int) (fe_ixA hu1 (fun _ _ => rfl) (fe_var 5 (pv 5)) fe_int)))) (fss_cons (fs_set (i := 6) sc.nd rfl (by first | exact Or.inl rfl | exact Or.inr rfl) (fe_if (ft_cmp L2.op_lt os_cmp (by rfl) (fe_fld (at_own_size B) (fe_var 0 (pv 0))) fe_int) (fe_un L2.un_neg us_neg fe_int) fe_int)) (fss_one (fs_fld (at_own_edges B) (fe_var 0 (pv 0)) (fe_tup (fa_cons (fe_call tk (G_linear_edge base) (hr.mono (by decide)) rfl (B.glo 18) k_linear_edge b_linear_edge Dfl.nil (fa_cons (fe_ixA hu1 (fun _ _ => rfl) (fe_var 4 (pv 4)) fe_int) (fa_cons (fe_ixA hu1 (fun _ _ => rfl) (fe_var 4 (pv 4)) fe_int) (fa_cons (fe_var 6 (pv 6)) fa_nil)))) (fa_cons (fe_call tk (G_linear_edge base) (hr.mono (by decide)) rfl (B.glo 18) k_linear_edge b_linear_edge Dfl.nil (fa_cons (fe_ixA hu1 (fun _ _ => rfl) (fe_var 4 (pv 4)) fe_int) (fa_cons (fe_ixA hu1 (fun _ _ => rfl) (fe_var 4 (pv 4)) fe_int) (fa_cons (fe_var 6 (pv 6)) fa_nil)))) (fa_cons (fe_call tk (G_linear_edge base) (hr.mono (by decide)) rfl (B.glo 18) k_linear_edge b_linear_edge Dfl.nil (fa_cons (fe_ixA hu1 (fun _ _ => rfl) (fe_var 4 (pv 4)) fe_int) (fa_cons (fe_ixA hu1 (fun _ _ => rfl) (fe_var 4 (pv 4)) fe_int) (fa_cons (fe_var 6 (pv 6)) fa_nil)))) fa_nil))))))))))))
abbrev N_need_whole_place : List Str := ["value"]
theorem sc_need_whole_place : FnScope ["value"] ["value"] (defScope (top 20)) := ⟨rfl, rfl, rfl, by decide +kernel, rfl, by decide +kernel, by decide +kernel⟩
theorem ok_need_whole_place {P : Program} {w : World} {K : PySem.W.Frag} {mg : Str → Option Value} (B : Bt K mg) : ∃ fd, (∀ base, FnL P w K mg base (TX K) 3 (ga K "need_whole_place") fd ["value"] f_need_whole_place) ∧ Binds K fd ["value"] [] ∧ PySem.W.keepIn K (.ref (ga K "need_whole_place")) = true := by
  obtain ⟨fd, F⟩ := B.c.def_ 10 (d := d_need_whole_place) rfl
  obtain ⟨fd_are_whole_in, G_are_whole_in, b_are_whole_in, k_are_whole_in⟩ := ok_are_whole_in (P := P) (w := w) B
  refine ⟨fd, fun base => def_okD F sc_need_whole_place fun cdv A outer s H E W hr tk => ?_, FunD.bindsN F fun _ _ _ _ _ _ us hl => match us, hl with | [_], _ => rfl, F.kp⟩
  have hu := hr.units
  have hu1 := Nat.lt_of_le_of_lt (Nat.add_le_add_left (by decide : 1 ≤ 64) _) hu
  have sc := sc_need_whole_place
  exact (fss_one (fs_if (ft_not (ft_val (fe_call tk (G_are_whole_in base) (hr.mono (by decide)) rfl (B.glo 20) k_are_whole_in b_are_whole_in Dfl.nil (fa_cons (fe_var 0 (pv 0)) (fa_cons fe_int (fa_cons (fe_un L2.un_neg us_neg (fe_gc rfl (B.gc 19))) (fa_cons (fe_gc rfl (B.gc 19)) fa_nil))))))) (fss_one fs_never) fss_nil))
abbrev N_Triangle_values_at : List Str := ["self", "place", "i", "j", "a", "b", "c"]
theorem sc_Triangle_values_at : FnScope ["self", "place", "i", "j", "a", "b", "c"] ["self", "place"] (defScope (mem 22 5)) := ⟨rfl, rfl, rfl, by decide +kernel, rfl, by decide +kernel, by decide +kernel⟩
theorem ok_Triangle_values_at {P : Program} {w : World} {K : PySem.W.Frag} {mg : Str → Option Value} (B : Bt K mg) : ∃ fd, (∀ base, FnL P w K mg base (TX K) 1 (ma K (ga K "Triangle") "values_at") fd ["self", "place"] f_Triangle_values_at) ∧ Binds K fd ["self", "place"] [] ∧ PySem.W.keepIn K (.ref (ma K (ga K "Triangle") "values_at")) = true := by
  obtain ⟨fd, F⟩ := B.c.def_ 11 (d := d_Triangle_values_at) rfl
  refine ⟨fd, fun base => def_okD F sc_Triangle_values_at fun cdv A outer s H E W hr tk => ?_, FunD.bindsN F fun _ _ _ _ _ _ us hl => match us, hl with | [_, _], _ => rfl, F.kp⟩
  have hu := hr.units
  have hu1 := Nat.lt_of_le_of_lt (Nat.add_le_add_left (by decide : 1 ≤ 64) _) hu
  have sc := sc_Triangle_values_at
  exact (fss_cons (fs_asg (fg_tup rfl (fgs_cons (fg_name 2 sc.nd rfl (by first | exact Or.inl rfl | exact Or.inr rfl)) (fgs_cons (fg_name 3 sc.nd rfl (by first | exact Or.inl rfl | exact Or.inr rfl)) fgs_nil))) (fe_var 1 (pv 1))) (fss_one (fs_ret (fe_lcW (own := [("a", 4), ("b", 5), ("c", 6)]) rfl sc.nd (fw_seq (fe_fld (at_own_edges B) (fe_var 0 (pv 0)))) (blkOk_by (by show blkC N_Triangle_values_at (defScope (mem 22 5)) _ _ = true; decide +kernel)) (fun s H C cl fp => by exact (fg_tup rfl (fgs_cons (fg_name 4 sc.nd rfl (by first | exact Or.inl rfl | exact Or.inr rfl)) (fgs_cons (fg_name 5 sc.nd rfl (by first | exact Or.inl rfl | exact Or.inr rfl)) (fgs_cons (fg_name 6 sc.nd rfl (by first | exact Or.inl rfl | exact Or.inr rfl)) fgs_nil))))) (fun s H C cl fp => by exact fts_nil) (fun s H C cl fp => by exact (fe_op op_addA os_add (fe_op op_addA os_add (fe_op op_mulA os_mul (fe_var 4 (pv 4)) (fe_var 2 (pv 2))) (fe_op op_mulA os_mul (fe_var 5 (pv 5)) (fe_var 3 (pv 3)))) (fe_var 6 (pv 6)))) (by decide)))))
abbrev N_is_let_in : List Str := ["edge", "value"]
theorem sc_is_let_in : FnScope ["edge", "value"] ["edge", "value"] (defScope (top 21)) := ⟨rfl, rfl, rfl, by decide +kernel, rfl, by decide +kernel, by decide +kernel⟩
theorem ok_is_let_in {P : Program} {w : World} {K : PySem.W.Frag} {mg : Str → Option Value} (B : Bt K mg) : ∃ fd, (∀ base, FnL P w K mg base (TX K) 1 (ga K "is_let_in") fd ["edge", "value"] f_is_let_in) ∧ Binds K fd ["edge", "value"] [] ∧ PySem.W.keepIn K (.ref (ga K "is_let_in")) = true := by
  obtain ⟨fd, F⟩ := B.c.def_ 12 (d := d_is_let_in) rfl
  refine ⟨fd, fun base => def_okD F sc_is_let_in fun cdv A outer s H E W hr tk => ?_, FunD.bindsN F fun _ _ _ _ _ _ us hl => match us, hl with | [_, _], _ => rfl, F.kp⟩
  have hu := hr.units
  have hu1 := Nat.lt_of_le_of_lt (Nat.add_le_add_left (by decide : 1 ≤ 64) _) hu
  have sc := sc_is_let_in
  exact (fss_one (fs_ret (fe_or (fe_cmp L2.op_gt os_cmp (by rfl) (fe_var 1 (pv 1)) fe_int) (fe_one (fe_and (fe_cmp (op_eqP hu) os_eq (by rfl) (fe_var 1 (pv 1)) fe_int) (fe_one (fe_or (fe_cmp L2.op_gt os_cmp (by rfl) (fe_ixA hu1 (fun _ _ => rfl) (fe_var 0 (pv 0)) fe_int) fe_int) (fe_one (fe_and (fe_cmp (op_eqP hu) os_eq (by rfl) (fe_ixA hu1 (fun _ _ => rfl) (fe_var 0 (pv 0)) fe_int) fe_int) (fe_one (fe_cmp L2.op_gt os_cmp (by rfl) (fe_ixA hu1 (fun _ _ => rfl) (fe_var 0 (pv 0)) fe_int) fe_int)))))))))))
abbrev N_Triangle_is_over : List Str := ["self", "values", "edge", "value"]
theorem sc_Triangle_is_over : FnScope ["self", "values", "edge", "value"] ["self", "values"] (defScope (mem 22 7)) := ⟨rfl, rfl, rfl, by decide +kernel, rfl, by decide +kernel, by decide +kernel⟩
theorem ok_Triangle_is_over {P : Program} {w : World} {K : PySem.W.Frag} {mg : Str → Option Value} (B : Bt K mg) : ∃ fd, (∀ base, FnL P w K mg base (TX K) 2 (ma K (ga K "Triangle") "is_over") fd ["self", "values"] f_Triangle_is_over) ∧ Binds K fd ["self", "values"] [] ∧ PySem.W.keepIn K (.ref (ma K (ga K "Triangle") "is_over")) = true := by
  obtain ⟨fd, F⟩ := B.c.def_ 13 (d := d_Triangle_is_over) rfl
  obtain ⟨fd_is_let_in, G_is_let_in, b_is_let_in, k_is_let_in⟩ := ok_is_let_in (P := P) (w := w) B
  refine ⟨fd, fun base => def_okD F sc_Triangle_is_over fun cdv A outer s H E W hr tk => ?_, FunD.bindsN F fun _ _ _ _ _ _ us hl => match us, hl with | [_, _], _ => rfl, F.kp⟩
  have hu := hr.units
  have hu1 := Nat.lt_of_le_of_lt (Nat.add_le_add_left (by decide : 1 ≤ 64) _) hu
  have sc := sc_Triangle_is_over
  exact (fss_one (fs_ret (fe_and (fe_cmp (op_neP hu) os_ne (by rfl) (fe_fld (at_own_size B) (fe_var 0 (pv 0))) fe_int) (fe_one (fe_b (cr_all rfl) cs_all rfl (B.free 15) (by decide +kernel) (fa_cons (fe_lcW (own := [("edge", 2), ("value", 3)]) rfl sc.nd (fw_zip rfl (B.free 32) (fa_cons (fe_fld (at_own_edges B) (fe_var 0 (pv 0))) (fa_cons (fe_var 1 (pv 1)) fa_nil))) (blkOk_by (by show blkC N_Triangle_is_over (defScope (mem 22 7)) _ _ = true; decide +kernel)) (fun s H C cl fp => by exact (fg_tup rfl (fgs_cons (fg_name 2 sc.nd rfl (by first | exact Or.inl rfl | exact Or.inr rfl)) (fgs_cons (fg_name 3 sc.nd rfl (by first | exact Or.inl rfl | exact Or.inr rfl)) fgs_nil)))) (fun s H C cl fp => by exact fts_nil) (fun s H C cl fp => by exact (fe_call takes0 (G_is_let_in base) (hr.mono (by decide)) rfl (B.glo 33) k_is_let_in b_is_let_in Dfl.nil (fa_cons (fe_var 2 (pv 2)) (fa_cons (fe_var 3 (pv 3)) fa_nil)))) (by decide)) fa_nil))))))
abbrev N_Triangle_covers : List Str := ["self", "place"]
theorem sc_Triangle_covers : FnScope ["self", "place"] ["self", "place"] (defScope (mem 22 8)) := ⟨rfl, rfl, rfl, by decide +kernel, rfl, by decide +kernel, by decide +kernel⟩
theorem ok_Triangle_covers {P : Program} {w : World} {K : PySem.W.Frag} {mg : Str → Option Value} (B : Bt K mg) : ∃ fd, (∀ base, FnL P w K mg base (TX K) 4 (ma K (ga K "Triangle") "covers") fd ["self", "place"] f_Triangle_covers) ∧ Binds K fd ["self", "place"] [] ∧ PySem.W.keepIn K (.ref (ma K (ga K "Triangle") "covers")) = true := by
  obtain ⟨fd, F⟩ := B.c.def_ 14 (d := d_Triangle_covers) rfl
  obtain ⟨fd_need_whole_place, G_need_whole_place, b_need_whole_place, k_need_whole_place⟩ := ok_need_whole_place (P := P) (w := w) B
  obtain ⟨fd_Triangle_values_at, G_Triangle_values_at, b_Triangle_values_at, k_Triangle_values_at⟩ := ok_Triangle_values_at (P := P) (w := w) B
  obtain ⟨fd_Triangle_is_over, G_Triangle_is_over, b_Triangle_is_over, k_Triangle_is_over⟩ := ok_Triangle_is_over (P := P) (w := w) B
  refine ⟨fd, fun base => def_okD F sc_Triangle_covers fun cdv A outer s H E W hr tk => ?_, FunD.bindsN F fun _ _ _ _ _ _ us hl => match us, hl with | [_, _], _ => rfl, F.kp⟩
  have hu := hr.units
  have hu1 := Nat.lt_of_le_of_lt (Nat.add_le_add_left (by decide : 1 ≤ 64) _) hu
  have sc := sc_Triangle_covers
  exact (fss_cons (fs_expr (fe_call tk (G_need_whole_place base) (hr.mono (by decide)) rfl (B.glo 29) k_need_whole_place b_need_whole_place Dfl.nil (fa_cons (fe_var 1 (pv 1)) fa_nil))) (fss_one (fs_ret (fe_meth (c := 0) tk ⟨⟨_, rfl, by decide⟩, B.cls 25, B.meth 31⟩ (G_Triangle_is_over base) (hr.mono (by decide)) b_Triangle_is_over Dfl.nil (fe_var 0 (pv 0)) (fa_cons (fe_meth (c := 0) tk ⟨⟨_, rfl, by decide⟩, B.cls 25, B.meth 30⟩ (G_Triangle_values_at base) (hr.mono (by decide)) b_Triangle_values_at Dfl.nil (fe_var 0 (pv 0)) (fa_cons (fe_var 1 (pv 1)) fa_nil)) fa_nil)))))
abbrev N_Triangle_lets_in : List Str := ["self", "edge", "place"]
theorem sc_Triangle_lets_in : FnScope ["self", "edge", "place"] ["self", "edge", "place"] (defScope (mem 22 6)) := ⟨rfl, rfl, rfl, by decide +kernel, rfl, by decide +kernel, by decide +kernel⟩
theorem ok_Triangle_lets_in {P : Program} {w : World} {K : PySem.W.Frag} {mg : Str → Option Value} (B : Bt K mg) : ∃ fd, (∀ base, FnL P w K mg base (TX K) 4 (ma K (ga K "Triangle") "lets_in") fd ["self", "edge", "place"] f_Triangle_lets_in) ∧ Binds K fd ["self", "edge", "place"] [] ∧ PySem.W.keepIn K (.ref (ma K (ga K "Triangle") "lets_in")) = true := by
  obtain ⟨fd, F⟩ := B.c.def_ 15 (d := d_Triangle_lets_in) rfl
  obtain ⟨fd_is_whole_in, G_is_whole_in, b_is_whole_in, k_is_whole_in⟩ := ok_is_whole_in (P := P) (w := w) B
  obtain ⟨fd_need_whole_place, G_need_whole_place, b_need_whole_place, k_need_whole_place⟩ := ok_need_whole_place (P := P) (w := w) B
  obtain ⟨fd_Triangle_values_at, G_Triangle_values_at, b_Triangle_values_at, k_Triangle_values_at⟩ := ok_Triangle_values_at (P := P) (w := w) B
  obtain ⟨fd_is_let_in, G_is_let_in, b_is_let_in, k_is_let_in⟩ := ok_is_let_in (P := P) (w := w) B
  refine ⟨fd, fun base => def_okD F sc_Triangle_lets_in fun cdv A outer s H E W hr tk => ?_, FunD.bindsN F fun _ _ _ _ _ _ us hl => match us, hl with | [_, _, _], _ => rfl, F.kp⟩
  have hu := hr.units
  have hu1 := Nat.lt_of_le_of_lt (Nat.add_le_add_left (by decide : 1 ≤ 64) _) hu
  have sc := sc_Triangle_lets_in
  exact (fss_cons (fs_if (ft_not (ft_val (fe_call tk (G_is_whole_in base) (hr.mono (by decide)) rfl (B.glo 23) k_is_whole_in b_is_whole_in Dfl.nil (fa_cons (fe_var 1 (pv 1)) (fa_cons fe_int (fa_cons fe_int fa_nil)))))) (fss_one fs_never) fss_nil) (fss_cons (fs_expr (fe_call tk (G_need_whole_place base) (hr.mono (by decide)) rfl (B.glo 29) k_need_whole_place b_need_whole_place Dfl.nil (fa_cons (fe_var 2 (pv 2)) fa_nil))) (fss_one (fs_ret (fe_call tk (G_is_let_in base) (hr.mono (by decide)) rfl (B.glo 33) k_is_let_in b_is_let_in Dfl.nil (fa_cons (fe_ixA hu1 (fun _ _ => rfl) (fe_fld (at_own_edges B) (fe_var 0 (pv 0))) (fe_var 1 (pv 1))) (fa_cons (fe_ixA hu1 (fun _ _ => rfl) (fe_meth (c := 0) tk ⟨⟨_, rfl, by decide⟩, B.cls 25, B.meth 30⟩ (G_Triangle_values_at base) (hr.mono (by decide)) b_Triangle_values_at Dfl.nil (fe_var 0 (pv 0)) (fa_cons (fe_var 2 (pv 2)) fa_nil)) (fe_var 1 (pv 1))) fa_nil)))))))
abbrev N__law_turns : List Str := ["_law_row", "_law_k"]
theorem sc__law_turns : FnScope ["_law_row", "_law_k"] ["_law_row"] (defScope (top 32)) := ⟨rfl, rfl, rfl, by decide +kernel, rfl, by decide +kernel, by decide +kernel⟩
theorem ok__law_turns {P : Program} {w : World} {K : PySem.W.Frag} {mg : Str → Option Value} (B : Bt K mg) : ∃ fd, (∀ base, FnL P w K mg base (TX K) 1 (ga K "_law_turns") fd ["_law_row"] f__law_turns) ∧ Binds K fd ["_law_row"] [] ∧ PySem.W.keepIn K (.ref (ga K "_law_turns")) = true := by
  obtain ⟨fd, F⟩ := B.c.def_ 16 (d := d__law_turns) rfl
  refine ⟨fd, fun base => def_okD F sc__law_turns fun cdv A outer s H E W hr tk => ?_, FunD.bindsN F fun _ _ _ _ _ _ us hl => match us, hl with | [_], _ => rfl, F.kp⟩
  have hu := hr.units
  have hu1 := Nat.lt_of_le_of_lt (Nat.add_le_add_left (by decide : 1 ≤ 64) _) hu
  have sc := sc__law_turns
  exact (fss_one (fs_ret (fe_b call_len cs_len rfl (B.free 1) (by decide +kernel) (fa_cons (fe_lc (own := [("_law_k", 1)]) rfl sc.nd (fi_range1 rfl (B.free 3) (fe_op L2.op_sub os_sub (fe_b call_len cs_len rfl (B.free 1) (by decide +kernel) (fa_cons (fe_var 0 (pv 0)) fa_nil)) fe_int)) (blkOk_by (by show blkC N__law_turns (defScope (top 32)) _ _ = true; decide +kernel)) (fun s H C cl fp => by exact (fg_name 1 sc.nd rfl (by first | exact Or.inl rfl | exact Or.inr rfl))) (fun s H C cl fp => by exact (fts_one (ft_cmp (op_neP hu) os_ne (by rfl) (fe_ixA hu1 (fun _ _ => rfl) (fe_var 0 (pv 0)) (fe_var 1 (pv 1))) (fe_ixA hu1 (fun _ _ => rfl) (fe_var 0 (pv 0)) (fe_op op_addA os_add (fe_var 1 (pv 1)) fe_int))))) (fun s H C cl fp => by exact (fe_var 1 (pv 1))) (by decide)) fa_nil))))
abbrev N__law_lane_right : List Str := ["_law_made", "_law_lane", "_law_over", "_law_edge", "_law_spot"]
theorem sc__law_lane_right : FnScope ["_law_made", "_law_lane", "_law_over", "_law_edge", "_law_spot"] ["_law_made", "_law_lane"] (defScope (top 33)) := ⟨rfl, rfl, rfl, by decide +kernel, rfl, by decide +kernel, by decide +kernel⟩
theorem ok__law_lane_right {P : Program} {w : World} {K : PySem.W.Frag} {mg : Str → Option Value} (B : Bt K mg) : ∃ fd, (∀ base, FnL P w K mg base (TX K) 5 (ga K "_law_lane_right") fd ["_law_made", "_law_lane"] f__law_lane_right) ∧ Binds K fd ["_law_made", "_law_lane"] [] ∧ PySem.W.keepIn K (.ref (ga K "_law_lane_right")) = true := by
  obtain ⟨fd, F⟩ := B.c.def_ 17 (d := d__law_lane_right) rfl
  obtain ⟨fd_Triangle_covers, G_Triangle_covers, b_Triangle_covers, k_Triangle_covers⟩ := ok_Triangle_covers (P := P) (w := w) B
  obtain ⟨fd_Triangle_lets_in, G_Triangle_lets_in, b_Triangle_lets_in, k_Triangle_lets_in⟩ := ok_Triangle_lets_in (P := P) (w := w) B
  obtain ⟨fd__law_turns, G__law_turns, b__law_turns, k__law_turns⟩ := ok__law_turns (P := P) (w := w) B
  refine ⟨fd, fun base => def_okD F sc__law_lane_right fun cdv A outer s H E W hr tk => ?_, FunD.bindsN F fun _ _ _ _ _ _ us hl => match us, hl with | [_, _], _ => rfl, F.kp⟩
  have hu := hr.units
  have hu1 := Nat.lt_of_le_of_lt (Nat.add_le_add_left (by decide : 1 ≤ 64) _) hu
  have sc := sc__law_lane_right
  exact (fss_cons (by first | exact fs_setLcW (i := 2) (own := [("_law_spot", 4)]) rfl sc.nd rfl rfl rfl (fw_seq (fe_var 1 (pv 1))) (blkOk_by (by show blkC N__law_lane_right (defScope (top 33)) _ _ = true; decide +kernel)) (fun s H C cl fp => by exact (fg_name 4 sc.nd rfl (by first | exact Or.inl rfl | exact Or.inr rfl))) (fun s H C cl fp => by exact fts_nil) (fun s H C cl fp => by exact (fe_meth (c := 0) takes0 ⟨⟨_, rfl, by decide⟩, B.cls 25, B.meth 26⟩ (G_Triangle_covers base) (hr.mono (by decide)) b_Triangle_covers Dfl.nil (fe_var 0 (pv 0)) (fa_cons (fe_var 4 (pv 4)) fa_nil))) (by decide) | exact fs_set (i := 2) sc.nd rfl (by first | exact Or.inl rfl | exact Or.inr rfl) (fe_lcW (own := [("_law_spot", 4)]) rfl sc.nd (fw_seq (fe_var 1 (pv 1))) (blkOk_by (by show blkC N__law_lane_right (defScope (top 33)) _ _ = true; decide +kernel)) (fun s H C cl fp => by exact (fg_name 4 sc.nd rfl (by first | exact Or.inl rfl | exact Or.inr rfl))) (fun s H C cl fp => by exact fts_nil) (fun s H C cl fp => by exact (fe_meth (c := 0) takes0 ⟨⟨_, rfl, by decide⟩, B.cls 25, B.meth 26⟩ (G_Triangle_covers base) (hr.mono (by decide)) b_Triangle_covers Dfl.nil (fe_var 0 (pv 0)) (fa_cons (fe_var 4 (pv 4)) fa_nil))) (by decide))) (fss_cons (fs_for (passes_of rfl) rfl (fi_range1 rfl (B.free 3) fe_int) (fg_name 3 sc.nd rfl (by first | exact Or.inl rfl | exact Or.inr rfl)) (fss_one (fs_if (ft_cmp L2.op_gt os_cmp (by rfl) (fe_call tk (G__law_turns base) (hr.mono (by decide)) rfl (B.glo 28) k__law_turns b__law_turns Dfl.nil (fa_cons (fe_lcW (own := [("_law_spot", 4)]) rfl sc.nd (fw_seq (fe_var 1 (pv 1))) (blkOk_by (by show blkC N__law_lane_right (defScope (top 33)) _ _ = true; decide +kernel)) (fun s H C cl fp => by exact (fg_name 4 sc.nd rfl (by first | exact Or.inl rfl | exact Or.inr rfl))) (fun s H C cl fp => by exact fts_nil) (fun s H C cl fp => by exact (fe_meth (c := 0) takes0 ⟨⟨_, rfl, by decide⟩, B.cls 25, B.meth 27⟩ (G_Triangle_lets_in base) (hr.mono (by decide)) b_Triangle_lets_in Dfl.nil (fe_var 0 (pv 0)) (fa_cons (fe_var 3 (pv 3)) (fa_cons (fe_var 4 (pv 4)) fa_nil)))) (by decide)) fa_nil)) fe_int) (fss_one (fs_ret fe_bl)) fss_nil))) (fss_one (fs_ret (fe_cmp (op_inP hu) os_in (by rfl) (fe_call tk (G__law_turns base) (hr.mono (by decide)) rfl (B.glo 28) k__law_turns b__law_turns Dfl.nil (fa_cons (fe_op op_addA os_add (fe_op op_addA os_add (fe_lst (fa_cons fe_bl fa_nil)) (fe_var 2 (pv 2))) (fe_lst (fa_cons fe_bl fa_nil))) fa_nil)) (fe_tup (fa_cons fe_int (fa_cons fe_int fa_nil))))))))
abbrev N_number_across : List Str := ["size"]
theorem sc_number_across : FnScope ["size"] ["size"] (defScope (top 25)) := ⟨rfl, rfl, rfl, by decide +kernel, rfl, by decide +kernel, by decide +kernel⟩
theorem ok_number_across {P : Program} {w : World} {K : PySem.W.Frag} {mg : Str → Option Value} (B : Bt K mg) : ∃ fd, (∀ base, FnL P w K mg base (TX K) 1 (ga K "number_across") fd ["size"] f_number_across) ∧ Binds K fd ["size"] [] ∧ PySem.W.keepIn K (.ref (ga K "number_across")) = true := by
  obtain ⟨fd, F⟩ := B.c.def_ 18 (d := d_number_across) rfl
  refine ⟨fd, fun base => def_okD F sc_number_across fun cdv A outer s H E W hr tk => ?_, FunD.bindsN F fun _ _ _ _ _ _ us hl => match us, hl with | [_], _ => rfl, F.kp⟩
  have hu := hr.units
  have hu1 := Nat.lt_of_le_of_lt (Nat.add_le_add_left (by decide : 1 ≤ 64) _) hu
  have sc := sc_number_across
  exact (fss_one (fs_ret (fe_op L2.op_fdivW os_div (fe_op L2.op_sub os_sub (fe_op op_addA os_add (fe_var 0 (pv 0)) (fe_gc rfl (B.gc 38))) fe_int) (fe_gc rfl (B.gc 38)))))
abbrev N_number_at : List Str := ["width", "place"]
theorem sc_number_at : FnScope ["width", "place"] ["width", "place"] (defScope (top 26)) := ⟨rfl, rfl, rfl, by decide +kernel, rfl, by decide +kernel, by decide +kernel⟩
theorem ok_number_at {P : Program} {w : World} {K : PySem.W.Frag} {mg : Str → Option Value} (B : Bt K mg) : ∃ fd, (∀ base, FnL P w K mg base (TX K) 2 (ga K "number_at") fd ["width", "place"] f_number_at) ∧ Binds K fd ["width", "place"] [] ∧ PySem.W.keepIn K (.ref (ga K "number_at")) = true := by
  obtain ⟨fd, F⟩ := B.c.def_ 19 (d := d_number_at) rfl
  obtain ⟨fd_number_across, G_number_across, b_number_across, k_number_across⟩ := ok_number_across (P := P) (w := w) B
  refine ⟨fd, fun base => def_okD F sc_number_at fun cdv A outer s H E W hr tk => ?_, FunD.bindsN F fun _ _ _ _ _ _ us hl => match us, hl with | [_, _], _ => rfl, F.kp⟩
  have hu := hr.units
  have hu1 := Nat.lt_of_le_of_lt (Nat.add_le_add_left (by decide : 1 ≤ 64) _) hu
  have sc := sc_number_at
  exact (fss_one (fs_ret (fe_op op_addA os_add (fe_op op_mulA os_mul (fe_op L2.op_fdivW os_div (fe_ixA hu1 (fun _ _ => rfl) (fe_var 1 (pv 1)) fe_int) (fe_gc rfl (B.gc 38))) (fe_call tk (G_number_across base) (hr.mono (by decide)) rfl (B.glo 36) k_number_across b_number_across Dfl.nil (fa_cons (fe_var 0 (pv 0)) fa_nil))) (fe_op L2.op_fdivW os_div (fe_ixA hu1 (fun _ _ => rfl) (fe_var 1 (pv 1)) fe_int) (fe_gc rfl (B.gc 38))))))
abbrev N_Canvas___init__ : List Str := ["self", "width", "height", "rows", "place", "j", "i", "tile", "row"]
theorem sc_Canvas___init__ : FnScope ["self", "width", "height", "rows", "place", "j", "i", "tile", "row"] ["self", "width", "height"] (defScope (mem 24 0)) := ⟨rfl, rfl, rfl, by decide +kernel, rfl, by decide +kernel, by decide +kernel⟩
theorem ok_Canvas___init__ {P : Program} {w : World} {K : PySem.W.Frag} {mg : Str → Option Value} (B : Bt K mg) : ∃ fd, (∀ base, FnL P w K mg base (TX K) 3 (ma K (ga K "Canvas") "__init__") fd ["self", "width", "height"] f_Canvas___init__) ∧ Binds K fd ["self", "width", "height"] [] ∧ PySem.W.keepIn K (.ref (ma K (ga K "Canvas") "__init__")) = true := by
  obtain ⟨fd, F⟩ := B.c.def_ 20 (d := d_Canvas___init__) rfl
  obtain ⟨fd_is_whole_in, G_is_whole_in, b_is_whole_in, k_is_whole_in⟩ := ok_is_whole_in (P := P) (w := w) B
  obtain ⟨fd_number_across, G_number_across, b_number_across, k_number_across⟩ := ok_number_across (P := P) (w := w) B
  obtain ⟨fd_number_at, G_number_at, b_number_at, k_number_at⟩ := ok_number_at (P := P) (w := w) B
  refine ⟨fd, fun base => def_okD F sc_Canvas___init__ fun cdv A outer s H E W hr tk => ?_, FunD.bindsN F fun _ _ _ _ _ _ us hl => match us, hl with | [_, _, _], _ => rfl, F.kp⟩
  have hu := hr.units
  have hu1 := Nat.lt_of_le_of_lt (Nat.add_le_add_left (by decide : 1 ≤ 64) _) hu
  have sc := sc_Canvas___init__
  exact (fss_cons (fs_if (ft_bool (fw_or (ft_not (ft_val (fe_call tk (G_is_whole_in base) (hr.mono (by decide)) rfl (B.glo 23) k_is_whole_in b_is_whole_in Dfl.nil (fa_cons (fe_var 1 (pv 1)) (fa_cons fe_int (fa_cons (fe_gc rfl (B.gc 34)) fa_nil)))))) (fw_or1 (ft_not (ft_val (fe_call tk (G_is_whole_in base) (hr.mono (by decide)) rfl (B.glo 23) k_is_whole_in b_is_whole_in Dfl.nil (fa_cons (fe_var 2 (pv 2)) (fa_cons fe_int (fa_cons (fe_gc rfl (B.gc 35)) fa_nil))))))))) (fss_one fs_never) fss_nil) (fss_cons (fs_fld (at_width B) (fe_var 0 (pv 0)) (fe_var 1 (pv 1))) (fss_cons (fs_fld (at_height B) (fe_var 0 (pv 0)) (fe_var 2 (pv 2))) (fss_cons (fs_fld (at_own_places B) (fe_var 0 (pv 0)) (fe_bt call_tuple_of cs_tuple rfl (B.free 22) (by decide +kernel) (fa_cons (fe_lc2 (own := [("j", 5), ("i", 6)]) (vs1 := [6]) rfl sc.nd (fi_range1 rfl (B.free 3) (fe_var 2 (pv 2))) (blkOk_by (by show blkC N_Canvas___init__ (defScope (mem 24 0)) _ _ = true; decide +kernel)) (by decide) (fun s H C cl fp => by exact (fg_name 5 sc.nd rfl (by first | exact Or.inl rfl | exact Or.inr rfl))) (fun s H C cl fp => by exact (fi_range1 rfl (B.free 3) (fe_var 1 (pv 1)))) (fun s H C cl fp => by exact (fg_name 6 sc.nd rfl (by first | exact Or.inl rfl | exact Or.inr rfl))) (fun s H C cl fp => by exact (fe_tup (fa_cons (fe_var 6 (pv 6)) (fa_cons (fe_var 5 (pv 5)) fa_nil)))) (by decide) (by decide)) fa_nil))) (fss_cons (by first | exact fs_setLc (i := 3) (own := [("tile", 7)]) rfl sc.nd rfl rfl rfl (fi_range1 rfl (B.free 3) (fe_op op_mulA os_mul (fe_call tk (G_number_across base) (hr.mono (by decide)) rfl (B.glo 36) k_number_across b_number_across Dfl.nil (fa_cons (fe_var 1 (pv 1)) fa_nil)) (fe_call tk (G_number_across base) (hr.mono (by decide)) rfl (B.glo 36) k_number_across b_number_across Dfl.nil (fa_cons (fe_var 2 (pv 2)) fa_nil)))) (blkOk_by (by show blkC N_Canvas___init__ (defScope (mem 24 0)) _ _ = true; decide +kernel)) (fun s H C cl fp => by exact (fg_name 7 sc.nd rfl (by first | exact Or.inl rfl | exact Or.inr rfl))) (fun s H C cl fp => by exact fts_nil) (fun s H C cl fp => by exact (fe_lstM fa_nil)) (by decide) | exact fs_set (i := 3) sc.nd rfl (by first | exact Or.inl rfl | exact Or.inr rfl) (fe_lc (own := [("tile", 7)]) rfl sc.nd (fi_range1 rfl (B.free 3) (fe_op op_mulA os_mul (fe_call tk (G_number_across base) (hr.mono (by decide)) rfl (B.glo 36) k_number_across b_number_across Dfl.nil (fa_cons (fe_var 1 (pv 1)) fa_nil)) (fe_call tk (G_number_across base) (hr.mono (by decide)) rfl (B.glo 36) k_number_across b_number_across Dfl.nil (fa_cons (fe_var 2 (pv 2)) fa_nil)))) (blkOk_by (by show blkC N_Canvas___init__ (defScope (mem 24 0)) _ _ = true; decide +kernel)) (fun s H C cl fp => by exact (fg_name 7 sc.nd rfl (by first | exact Or.inl rfl | exact Or.inr rfl))) (fun s H C cl fp => by exact fts_nil) (fun s H C cl fp => by exact (fe_lstM fa_nil)) (by decide))) (fss_cons (fs_forW (passes_of rfl) rfl (fw_seq (fe_fld (at_own_places B) (fe_var 0 (pv 0)))) (fg_name 4 sc.nd rfl (by first | exact Or.inl rfl | exact Or.inr rfl)) (fss_one (fs_expr (fe_m PySem.F.slot_list_append (by rfl) mt_append ms_append (fe_ixA hu1 (fun _ _ => rfl) (fe_var 3 (pv 3)) (fe_call tk (G_number_at base) (hr.mono (by decide)) rfl (B.glo 37) k_number_at b_number_at Dfl.nil (fa_cons (fe_var 1 (pv 1)) (fa_cons (fe_var 4 (pv 4)) fa_nil)))) (fa_cons (fe_var 4 (pv 4)) fa_nil))))) (fss_one (fs_fld (at_own_tiles B) (fe_var 0 (pv 0)) (fe_lcW (own := [("row", 8)]) rfl sc.nd (fw_seq (fe_var 3 (pv 3))) (blkOk_by (by show blkC N_Canvas___init__ (defScope (mem 24 0)) _ _ = true; decide +kernel)) (fun s H C cl fp => by exact (fg_name 8 sc.nd rfl (by first | exact Or.inl rfl | exact Or.inr rfl))) (fun s H C cl fp => by exact fts_nil) (fun s H C cl fp => by exact (fe_bt call_tuple_of cs_tuple rfl (B.free 22) (by decide +kernel) (fa_cons (fe_var 8 (pv 8)) fa_nil))) (by decide))))))))))
abbrev N_Canvas_tiles : List Str := ["self"]
theorem sc_Canvas_tiles : FnScope ["self"] ["self"] (defScope (mem 24 4)) := ⟨rfl, rfl, rfl, by decide +kernel, rfl, by decide +kernel, by decide +kernel⟩
theorem ok_Canvas_tiles {P : Program} {w : World} {K : PySem.W.Frag} {mg : Str → Option Value} (B : Bt K mg) : ∃ fd, (∀ base, FnL P w K mg base (TX K) 1 (ma K (ga K "Canvas") "tiles") fd ["self"] f_Canvas_tiles) ∧ Binds K fd ["self"] [] ∧ PySem.W.keepIn K (.ref (ma K (ga K "Canvas") "tiles")) = true := by
  obtain ⟨fd, F⟩ := B.c.def_ 21 (d := d_Canvas_tiles) rfl
  refine ⟨fd, fun base => def_okD F sc_Canvas_tiles fun cdv A outer s H E W hr tk => ?_, FunD.bindsN F fun _ _ _ _ _ _ us hl => match us, hl with | [_], _ => rfl, F.kp⟩
  have hu := hr.units
  have hu1 := Nat.lt_of_le_of_lt (Nat.add_le_add_left (by decide : 1 ≤ 64) _) hu
  have sc := sc_Canvas_tiles
  exact (fss_one (fs_ret (fe_b call_len cs_len rfl (B.free 1) (by decide +kernel) (fa_cons (fe_fld (at_own_tiles B) (fe_var 0 (pv 0))) fa_nil))))
abbrev N_need_tile_on : List Str := ["canvas", "value"]
theorem sc_need_tile_on : FnScope ["canvas", "value"] ["canvas", "value"] (defScope (top 27)) := ⟨rfl, rfl, rfl, by decide +kernel, rfl, by decide +kernel, by decide +kernel⟩
theorem ok_need_tile_on {P : Program} {w : World} {K : PySem.W.Frag} {mg : Str → Option Value} (B : Bt K mg) : ∃ fd, (∀ base, FnL P w K mg base (TX K) 2 (ga K "need_tile_on") fd ["canvas", "value"] f_need_tile_on) ∧ Binds K fd ["canvas", "value"] [] ∧ PySem.W.keepIn K (.ref (ga K "need_tile_on")) = true := by
  obtain ⟨fd, F⟩ := B.c.def_ 22 (d := d_need_tile_on) rfl
  obtain ⟨fd_is_whole_in, G_is_whole_in, b_is_whole_in, k_is_whole_in⟩ := ok_is_whole_in (P := P) (w := w) B
  refine ⟨fd, fun base => def_okD F sc_need_tile_on fun cdv A outer s H E W hr tk => ?_, FunD.bindsN F fun _ _ _ _ _ _ us hl => match us, hl with | [_, _], _ => rfl, F.kp⟩
  have hu := hr.units
  have hu1 := Nat.lt_of_le_of_lt (Nat.add_le_add_left (by decide : 1 ≤ 64) _) hu
  have sc := sc_need_tile_on
  exact (fss_one (fs_if (ft_not (ft_val (fe_call tk (G_is_whole_in base) (hr.mono (by decide)) rfl (B.glo 23) k_is_whole_in b_is_whole_in Dfl.nil (fa_cons (fe_var 1 (pv 1)) (fa_cons fe_int (fa_cons (fe_op L2.op_sub os_sub (fe_b call_len cs_len rfl (B.free 1) (by decide +kernel) (fa_cons (fe_fld (at_own_tiles B) (fe_var 0 (pv 0))) fa_nil)) fe_int) fa_nil)))))) (fss_one fs_never) fss_nil))
abbrev N_Canvas_places_of : List Str := ["self", "tile"]
theorem sc_Canvas_places_of : FnScope ["self", "tile"] ["self", "tile"] (defScope (mem 24 6)) := ⟨rfl, rfl, rfl, by decide +kernel, rfl, by decide +kernel, by decide +kernel⟩
theorem ok_Canvas_places_of {P : Program} {w : World} {K : PySem.W.Frag} {mg : Str → Option Value} (B : Bt K mg) : ∃ fd, (∀ base, FnL P w K mg base (TX K) 3 (ma K (ga K "Canvas") "places_of") fd ["self", "tile"] f_Canvas_places_of) ∧ Binds K fd ["self", "tile"] [] ∧ PySem.W.keepIn K (.ref (ma K (ga K "Canvas") "places_of")) = true := by
  obtain ⟨fd, F⟩ := B.c.def_ 23 (d := d_Canvas_places_of) rfl
  obtain ⟨fd_need_tile_on, G_need_tile_on, b_need_tile_on, k_need_tile_on⟩ := ok_need_tile_on (P := P) (w := w) B
  refine ⟨fd, fun base => def_okD F sc_Canvas_places_of fun cdv A outer s H E W hr tk => ?_, FunD.bindsN F fun _ _ _ _ _ _ us hl => match us, hl with | [_, _], _ => rfl, F.kp⟩
  have hu := hr.units
  have hu1 := Nat.lt_of_le_of_lt (Nat.add_le_add_left (by decide : 1 ≤ 64) _) hu
  have sc := sc_Canvas_places_of
  exact (fss_cons (fs_expr (fe_call tk (G_need_tile_on base) (hr.mono (by decide)) rfl (B.glo 43) k_need_tile_on b_need_tile_on Dfl.nil (fa_cons (fe_var 0 (pv 0)) (fa_cons (fe_var 1 (pv 1)) fa_nil)))) (fss_one (fs_ret (fe_ixA hu1 (fun _ _ => rfl) (fe_fld (at_own_tiles B) (fe_var 0 (pv 0))) (fe_var 1 (pv 1))))))
abbrev N__law_tiles_right : List Str := ["_law_made", "_law_grid", "_law_k", "_law_spots", "_law_left", "_law_right", "_law_top", "_law_low", "_law_edge", "_law_outer", "_law_inner", "_law_i", "_law_j", "_law_spot"]
theorem sc__law_tiles_right : FnScope ["_law_made", "_law_grid", "_law_k", "_law_spots", "_law_left", "_law_right", "_law_top", "_law_low", "_law_edge", "_law_outer", "_law_inner", "_law_i", "_law_j", "_law_spot"] ["_law_made", "_law_grid"] (defScope (top 34)) := ⟨rfl, rfl, rfl, by decide +kernel, rfl, by decide +kernel, by decide +kernel⟩
theorem ok__law_tiles_right {P : Program} {w : World} {K : PySem.W.Frag} {mg : Str → Option Value} (B : Bt K mg) : ∃ fd, (∀ base, FnL P w K mg base (TX K) 5 (ga K "_law_tiles_right") fd ["_law_made", "_law_grid"] f__law_tiles_right) ∧ Binds K fd ["_law_made", "_law_grid"] [] ∧ PySem.W.keepIn K (.ref (ga K "_law_tiles_right")) = true := by
  obtain ⟨fd, F⟩ := B.c.def_ 24 (d := d__law_tiles_right) rfl
  obtain ⟨fd_Canvas_tiles, G_Canvas_tiles, b_Canvas_tiles, k_Canvas_tiles⟩ := ok_Canvas_tiles (P := P) (w := w) B
  obtain ⟨fd_Canvas_places_of, G_Canvas_places_of, b_Canvas_places_of, k_Canvas_places_of⟩ := ok_Canvas_places_of (P := P) (w := w) B
  obtain ⟨fd_Triangle_lets_in, G_Triangle_lets_in, b_Triangle_lets_in, k_Triangle_lets_in⟩ := ok_Triangle_lets_in (P := P) (w := w) B
  refine ⟨fd, fun base => def_okD F sc__law_tiles_right fun cdv A outer s H E W hr tk => ?_, FunD.bindsN F fun _ _ _ _ _ _ us hl => match us, hl with | [_, _], _ => rfl, F.kp⟩
  have hu := hr.units
  have hu1 := Nat.lt_of_le_of_lt (Nat.add_le_add_left (by decide : 1 ≤ 64) _) hu
  have sc := sc__law_tiles_right
  exact (fss_cons (fs_for (passes_of rfl) rfl (fi_range1 rfl (B.free 3) (fe_meth0 (c := 1) tk ⟨⟨_, rfl, by decide⟩, B.cls 39, B.meth 40⟩ (G_Canvas_tiles base) (hr.mono (by decide)) b_Canvas_tiles Dfl.nil (fe_var 1 (pv 1)))) (fg_name 2 sc.nd rfl (by first | exact Or.inl rfl | exact Or.inr rfl)) (fss_cons (fs_set (i := 3) sc.nd rfl (by first | exact Or.inl rfl | exact Or.inr rfl) (fe_meth (c := 1) tk ⟨⟨_, rfl, by decide⟩, B.cls 39, B.meth 41⟩ (G_Canvas_places_of base) (hr.mono (by decide)) b_Canvas_places_of Dfl.nil (fe_var 1 (pv 1)) (fa_cons (fe_var 2 (pv 2)) fa_nil))) (fss_cons (fs_par (i := 4) (j := 5) rfl sc.nd rfl rfl (by decide) rfl rfl (fa_cons (fe_b (cr_minS rfl) cs_minS rfl (B.free 2) (by decide +kernel) (fa_cons (fe_lcW (own := [("_law_i", 11), ("_law_j", 12)]) rfl sc.nd (fw_seq (fe_var 3 (pv 3))) (blkOk_by (by show blkC N__law_tiles_right (defScope (top 34)) _ _ = true; decide +kernel)) (fun s H C cl fp => by exact (fg_tup rfl (fgs_cons (fg_name 11 sc.nd rfl (by first | exact Or.inl rfl | exact Or.inr rfl)) (fgs_cons (fg_name 12 sc.nd rfl (by first | exact Or.inl rfl | exact Or.inr rfl)) fgs_nil)))) (fun s H C cl fp => by exact fts_nil) (fun s H C cl fp => by exact (fe_var 11 (pv 11))) (by decide)) fa_nil)) (fa_cons (fe_b (cr_maxS rfl) cs_maxS rfl (B.free 42) (by decide +kernel) (fa_cons (fe_lcW (own := [("_law_i", 11), ("_law_j", 12)]) rfl sc.nd (fw_seq (fe_var 3 (pv 3))) (blkOk_by (by show blkC N__law_tiles_right (defScope (top 34)) _ _ = true; decide +kernel)) (fun s H C cl fp => by exact (fg_tup rfl (fgs_cons (fg_name 11 sc.nd rfl (by first | exact Or.inl rfl | exact Or.inr rfl)) (fgs_cons (fg_name 12 sc.nd rfl (by first | exact Or.inl rfl | exact Or.inr rfl)) fgs_nil)))) (fun s H C cl fp => by exact fts_nil) (fun s H C cl fp => by exact (fe_var 11 (pv 11))) (by decide)) fa_nil)) fa_nil)) rfl) (fss_cons (fs_par (i := 6) (j := 7) rfl sc.nd rfl rfl (by decide) rfl rfl (fa_cons (fe_b (cr_minS rfl) cs_minS rfl (B.free 2) (by decide +kernel) (fa_cons (fe_lcW (own := [("_law_i", 11), ("_law_j", 12)]) rfl sc.nd (fw_seq (fe_var 3 (pv 3))) (blkOk_by (by show blkC N__law_tiles_right (defScope (top 34)) _ _ = true; decide +kernel)) (fun s H C cl fp => by exact (fg_tup rfl (fgs_cons (fg_name 11 sc.nd rfl (by first | exact Or.inl rfl | exact Or.inr rfl)) (fgs_cons (fg_name 12 sc.nd rfl (by first | exact Or.inl rfl | exact Or.inr rfl)) fgs_nil)))) (fun s H C cl fp => by exact fts_nil) (fun s H C cl fp => by exact (fe_var 12 (pv 12))) (by decide)) fa_nil)) (fa_cons (fe_b (cr_maxS rfl) cs_maxS rfl (B.free 42) (by decide +kernel) (fa_cons (fe_lcW (own := [("_law_i", 11), ("_law_j", 12)]) rfl sc.nd (fw_seq (fe_var 3 (pv 3))) (blkOk_by (by show blkC N__law_tiles_right (defScope (top 34)) _ _ = true; decide +kernel)) (fun s H C cl fp => by exact (fg_tup rfl (fgs_cons (fg_name 11 sc.nd rfl (by first | exact Or.inl rfl | exact Or.inr rfl)) (fgs_cons (fg_name 12 sc.nd rfl (by first | exact Or.inl rfl | exact Or.inr rfl)) fgs_nil)))) (fun s H C cl fp => by exact fts_nil) (fun s H C cl fp => by exact (fe_var 12 (pv 12))) (by decide)) fa_nil)) fa_nil)) rfl) (fss_one (fs_for (passes_of rfl) rfl (fi_range1 rfl (B.free 3) fe_int) (fg_name 8 sc.nd rfl (by first | exact Or.inl rfl | exact Or.inr rfl)) (fss_cons (by first | exact fs_setLcW (i := 9) (own := [("_law_spot", 13)]) rfl sc.nd rfl rfl rfl (fw_seq (fe_tup (fa_cons (fe_tup (fa_cons (fe_var 4 (pv 4)) (fa_cons (fe_var 6 (pv 6)) fa_nil))) (fa_cons (fe_tup (fa_cons (fe_var 5 (pv 5)) (fa_cons (fe_var 6 (pv 6)) fa_nil))) (fa_cons (fe_tup (fa_cons (fe_var 4 (pv 4)) (fa_cons (fe_var 7 (pv 7)) fa_nil))) (fa_cons (fe_tup (fa_cons (fe_var 5 (pv 5)) (fa_cons (fe_var 7 (pv 7)) fa_nil))) fa_nil)))))) (blkOk_by (by show blkC N__law_tiles_right (defScope (top 34)) _ _ = true; decide +kernel)) (fun s H C cl fp => by exact (fg_name 13 sc.nd rfl (by first | exact Or.inl rfl | exact Or.inr rfl))) (fun s H C cl fp => by exact fts_nil) (fun s H C cl fp => by exact (fe_meth (c := 0) takes0 ⟨⟨_, rfl, by decide⟩, B.cls 25, B.meth 27⟩ (G_Triangle_lets_in base) (hr.mono (by decide)) b_Triangle_lets_in Dfl.nil (fe_var 0 (pv 0)) (fa_cons (fe_var 8 (pv 8)) (fa_cons (fe_var 13 (pv 13)) fa_nil)))) (by decide) | exact fs_set (i := 9) sc.nd rfl (by first | exact Or.inl rfl | exact Or.inr rfl) (fe_lcW (own := [("_law_spot", 13)]) rfl sc.nd (fw_seq (fe_tup (fa_cons (fe_tup (fa_cons (fe_var 4 (pv 4)) (fa_cons (fe_var 6 (pv 6)) fa_nil))) (fa_cons (fe_tup (fa_cons (fe_var 5 (pv 5)) (fa_cons (fe_var 6 (pv 6)) fa_nil))) (fa_cons (fe_tup (fa_cons (fe_var 4 (pv 4)) (fa_cons (fe_var 7 (pv 7)) fa_nil))) (fa_cons (fe_tup (fa_cons (fe_var 5 (pv 5)) (fa_cons (fe_var 7 (pv 7)) fa_nil))) fa_nil)))))) (blkOk_by (by show blkC N__law_tiles_right (defScope (top 34)) _ _ = true; decide +kernel)) (fun s H C cl fp => by exact (fg_name 13 sc.nd rfl (by first | exact Or.inl rfl | exact Or.inr rfl))) (fun s H C cl fp => by exact fts_nil) (fun s H C cl fp => by exact (fe_meth (c := 0) takes0 ⟨⟨_, rfl, by decide⟩, B.cls 25, B.meth 27⟩ (G_Triangle_lets_in base) (hr.mono (by decide)) b_Triangle_lets_in Dfl.nil (fe_var 0 (pv 0)) (fa_cons (fe_var 8 (pv 8)) (fa_cons (fe_var 13 (pv 13)) fa_nil)))) (by decide))) (fss_cons (by first | exact fs_setLcW (i := 10) (own := [("_law_spot", 13)]) rfl sc.nd rfl rfl rfl (fw_seq (fe_var 3 (pv 3))) (blkOk_by (by show blkC N__law_tiles_right (defScope (top 34)) _ _ = true; decide +kernel)) (fun s H C cl fp => by exact (fg_name 13 sc.nd rfl (by first | exact Or.inl rfl | exact Or.inr rfl))) (fun s H C cl fp => by exact fts_nil) (fun s H C cl fp => by exact (fe_meth (c := 0) takes0 ⟨⟨_, rfl, by decide⟩, B.cls 25, B.meth 27⟩ (G_Triangle_lets_in base) (hr.mono (by decide)) b_Triangle_lets_in Dfl.nil (fe_var 0 (pv 0)) (fa_cons (fe_var 8 (pv 8)) (fa_cons (fe_var 13 (pv 13)) fa_nil)))) (by decide) | exact fs_set (i := 10) sc.nd rfl (by first | exact Or.inl rfl | exact Or.inr rfl) (fe_lcW (own := [("_law_spot", 13)]) rfl sc.nd (fw_seq (fe_var 3 (pv 3))) (blkOk_by (by show blkC N__law_tiles_right (defScope (top 34)) _ _ = true; decide +kernel)) (fun s H C cl fp => by exact (fg_name 13 sc.nd rfl (by first | exact Or.inl rfl | exact Or.inr rfl))) (fun s H C cl fp => by exact fts_nil) (fun s H C cl fp => by exact (fe_meth (c := 0) takes0 ⟨⟨_, rfl, by decide⟩, B.cls 25, B.meth 27⟩ (G_Triangle_lets_in base) (hr.mono (by decide)) b_Triangle_lets_in Dfl.nil (fe_var 0 (pv 0)) (fa_cons (fe_var 8 (pv 8)) (fa_cons (fe_var 13 (pv 13)) fa_nil)))) (by decide))) (fss_cons (fs_if (ft_bool (fw_and (ft_cmp (op_eqP hu) os_eq (by rfl) (fe_var 9 (pv 9)) (fe_op op_mulA os_mul (fe_lst (fa_cons fe_bl fa_nil)) fe_int)) (fw_and1 (ft_cmp (op_neP hu) os_ne (by rfl) (fe_var 10 (pv 10)) (fe_op op_mulA os_mul (fe_lst (fa_cons fe_bl fa_nil)) (fe_b call_len cs_len rfl (B.free 1) (by decide +kernel) (fa_cons (fe_var 3 (pv 3)) fa_nil))))))) (fss_one (fs_ret fe_bl)) fss_nil) (fss_one (fs_if (ft_bool (fw_and (ft_cmp (op_eqP hu) os_eq (by rfl) (fe_var 9 (pv 9)) (fe_op op_mulA os_mul (fe_lst (fa_cons fe_bl fa_nil)) fe_int)) (fw_and1 (ft_cmp (op_neP hu) os_ne (by rfl) (fe_var 10 (pv 10)) (fe_op op_mulA os_mul (fe_lst (fa_cons fe_bl fa_nil)) (fe_b call_len cs_len rfl (B.free 1) (by decide +kernel) (fa_cons (fe_var 3 (pv 3)) fa_nil))))))) (fss_one (fs_ret fe_bl)) fss_nil))))))))))) (fss_one (fs_ret fe_bl)))
abbrev N_law : List Str := ["_law_script", "_law_m", "_law_turn", "_law_made", "_law_lanes", "_law_k", "_law_far", "_law_i", "_law_j", "_law_lane"]
theorem sc_law : FnScope ["_law_script", "_law_m", "_law_turn", "_law_made", "_law_lanes", "_law_k", "_law_far", "_law_i", "_law_j", "_law_lane"] ["_law_script"] (defScope (top 35)) := ⟨rfl, rfl, rfl, by decide +kernel, rfl, by decide +kernel, by decide +kernel⟩
theorem ok_law {P : Program} {w : World} {K : PySem.W.Frag} {mg : Str → Option Value} (B : Bt K mg) : ∃ fd, (∀ base, FnL P w K mg base (TX K) 6 (ga K "law") fd ["_law_script"] f_law) ∧ Binds K fd ["_law_script"] [] ∧ PySem.W.keepIn K (.ref (ga K "law")) = true ∧ ∀ (s : Shared) (u : Value), BindsTo s fd ⟨[u], []⟩ [("_law_script", u)] := by
  obtain ⟨fd, F⟩ := B.c.def_ 25 (d := d_law) rfl
  obtain ⟨fd__law_begun, G__law_begun, b__law_begun, k__law_begun⟩ := ok__law_begun (P := P) (w := w) B
  obtain ⟨fd__law_corner, G__law_corner, b__law_corner, k__law_corner⟩ := ok__law_corner (P := P) (w := w) B
  obtain ⟨fd_Triangle___init__, G_Triangle___init__, b_Triangle___init__, k_Triangle___init__⟩ := ok_Triangle___init__ (P := P) (w := w) B
  obtain ⟨fd__law_next, G__law_next, b__law_next, k__law_next⟩ := ok__law_next (P := P) (w := w) B
  obtain ⟨fd__law_lane_right, G__law_lane_right, b__law_lane_right, k__law_lane_right⟩ := ok__law_lane_right (P := P) (w := w) B
  obtain ⟨fd_Canvas___init__, G_Canvas___init__, b_Canvas___init__, k_Canvas___init__⟩ := ok_Canvas___init__ (P := P) (w := w) B
  obtain ⟨fd__law_tiles_right, G__law_tiles_right, b__law_tiles_right, k__law_tiles_right⟩ := ok__law_tiles_right (P := P) (w := w) B
  have bA := FunD.bindsA (ps := ["_law_script"]) F fun _ _ _ _ _ _ us hl => match us, hl with | [_], _ => rfl
  refine ⟨fd, fun base => def_okD F sc_law fun cdv A outer s H E W hr tk => ?_, FunD.bindsN F fun _ _ _ _ _ _ us hl => match us, hl with | [_], _ => rfl, F.kp, fun s v => bA s [v] rfl⟩
  have hu := hr.units
  have hu1 := Nat.lt_of_le_of_lt (Nat.add_le_add_left (by decide : 1 ≤ 64) _) hu
  have sc := sc_law
  exact (fss_cons (fs_set (i := 1) sc.nd rfl (by first | exact Or.inl rfl | exact Or.inr rfl) (fe_call tk (G__law_begun base) (hr.mono (by decide)) rfl (B.glo 0) k__law_begun b__law_begun Dfl.nil (fa_cons (fe_var 0 (pv 0)) fa_nil))) (fss_cons (fs_for (passes_of rfl) rfl (fi_range1 rfl (B.free 3) (fe_op op_addA os_add fe_int (fe_b (call_min2 rfl) cs_min2 rfl (B.free 2) (by decide +kernel) (fa_cons (fe_b call_len cs_len rfl (B.free 1) (by decide +kernel) (fa_cons (fe_var 0 (pv 0)) fa_nil)) (fa_cons fe_int fa_nil))))) (fg_name 2 sc.nd rfl (by first | exact Or.inl rfl | exact Or.inr rfl)) (fss_cons (fs_set (i := 3) sc.nd rfl (by first | exact Or.inl rfl | exact Or.inr rfl) (fe_make (c := 0) tk ⟨⟨_, rfl, rfl⟩, B.mkr 5⟩ (G_Triangle___init__ base) (hr.mono (by decide)) rfl (B.glo 6) b_Triangle___init__ Dfl.nil (fa_cons (fe_call tk (G__law_corner base) (hr.mono (by decide)) rfl (B.glo 4) k__law_corner b__law_corner Dfl.nil (fa_cons (fe_var 1 (pv 1)) fa_nil)) (fa_cons (fe_call tk (G__law_corner base) (hr.mono (by decide)) rfl (B.glo 4) k__law_corner b__law_corner Dfl.nil (fa_cons (fe_var 1 (pv 1)) fa_nil)) (fa_cons (fe_call tk (G__law_corner base) (hr.mono (by decide)) rfl (B.glo 4) k__law_corner b__law_corner Dfl.nil (fa_cons (fe_var 1 (pv 1)) fa_nil)) fa_nil))))) (fss_cons (fs_set (i := 4) sc.nd rfl (by first | exact Or.inl rfl | exact Or.inr rfl) (fe_lstM fa_nil)) (fss_cons (fs_for (passes_of rfl) rfl (fi_range1 rfl (B.free 3) fe_int) (fg_name 5 sc.nd rfl (by first | exact Or.inl rfl | exact Or.inr rfl)) (fss_one (fs_set (i := 4) sc.nd rfl (by first | exact Or.inl rfl | exact Or.inr rfl) (fe_op op_addA os_catM (fe_var 4 (pv 4)) (fe_lst (fa_cons (fe_lc (own := [("_law_i", 7)]) rfl sc.nd (fi_range2 rfl (B.free 3) (fe_un L2.un_neg us_neg fe_int) fe_int) (blkOk_by (by show blkC N_law (defScope (top 35)) _ _ = true; decide +kernel)) (fun s H C cl fp => by exact (fg_name 7 sc.nd rfl (by first | exact Or.inl rfl | exact Or.inr rfl))) (fun s H C cl fp => by exact fts_nil) (fun s H C cl fp => by exact (fe_tup (fa_cons (fe_var 7 (pv 7)) (fa_cons (fe_var 5 (pv 5)) fa_nil)))) (by decide)) (fa_cons (fe_lc (own := [("_law_j", 8)]) rfl sc.nd (fi_range2 rfl (B.free 3) (fe_un L2.un_neg us_neg fe_int) fe_int) (blkOk_by (by show blkC N_law (defScope (top 35)) _ _ = true; decide +kernel)) (fun s H C cl fp => by exact (fg_name 8 sc.nd rfl (by first | exact Or.inl rfl | exact Or.inr rfl))) (fun s H C cl fp => by exact fts_nil) (fun s H C cl fp => by exact (fe_tup (fa_cons (fe_var 5 (pv 5)) (fa_cons (fe_var 8 (pv 8)) fa_nil)))) (by decide)) fa_nil))))))) (fss_cons (fs_set (i := 4) sc.nd rfl (by first | exact Or.inl rfl | exact Or.inr rfl) (fe_op op_addA os_catM (fe_var 4 (pv 4)) (fe_lst (fa_cons (fe_lc (own := [("_law_i", 7)]) rfl sc.nd (fi_range1 rfl (B.free 3) fe_int) (blkOk_by (by show blkC N_law (defScope (top 35)) _ _ = true; decide +kernel)) (fun s H C cl fp => by exact (fg_name 7 sc.nd rfl (by first | exact Or.inl rfl | exact Or.inr rfl))) (fun s H C cl fp => by exact fts_nil) (fun s H C cl fp => by exact (fe_tup (fa_cons (fe_var 7 (pv 7)) (fa_cons (fe_op L2.op_sub os_sub (fe_var 7 (pv 7)) fe_int) fa_nil)))) (by decide)) (fa_cons (fe_lc (own := [("_law_i", 7)]) rfl sc.nd (fi_range1 rfl (B.free 3) fe_int) (blkOk_by (by show blkC N_law (defScope (top 35)) _ _ = true; decide +kernel)) (fun s H C cl fp => by exact (fg_name 7 sc.nd rfl (by first | exact Or.inl rfl | exact Or.inr rfl))) (fun s H C cl fp => by exact fts_nil) (fun s H C cl fp => by exact (fe_tup (fa_cons (fe_var 7 (pv 7)) (fa_cons (fe_op L2.op_sub os_sub fe_int (fe_var 7 (pv 7))) fa_nil)))) (by decide)) fa_nil))))) (fss_cons (fs_set (i := 6) sc.nd rfl (by first | exact Or.inl rfl | exact Or.inr rfl) (fe_op L2.op_sub os_sub (fe_call tk (G__law_next base) (hr.mono (by decide)) rfl (B.glo 7) k__law_next b__law_next Dfl.nil (fa_cons (fe_var 1 (pv 1)) (fa_cons fe_int fa_nil))) fe_int)) (fss_cons (fs_expr (fe_m PySem.F.slot_list_append (by rfl) mt_append ms_append (fe_var 4 (pv 4)) (fa_cons (fe_lc (own := [("_law_j", 8)]) rfl sc.nd (fi_range2 rfl (B.free 3) (fe_un L2.un_neg us_neg fe_int) fe_int) (blkOk_by (by show blkC N_law (defScope (top 35)) _ _ = true; decide +kernel)) (fun s H C cl fp => by exact (fg_name 8 sc.nd rfl (by first | exact Or.inl rfl | exact Or.inr rfl))) (fun s H C cl fp => by exact fts_nil) (fun s H C cl fp => by exact (fe_tup (fa_cons (fe_var 6 (pv 6)) (fa_cons (fe_var 8 (pv 8)) fa_nil)))) (by decide)) fa_nil))) (fss_cons (fs_if (ft_cmp (op_neP hu) os_ne (by rfl) (fe_lcW (own := [("_law_lane", 9)]) rfl sc.nd (fw_seq (fe_var 4 (pv 4))) (blkOk_by (by show blkC N_law (defScope (top 35)) _ _ = true; decide +kernel)) (fun s H C cl fp => by exact (fg_name 9 sc.nd rfl (by first | exact Or.inl rfl | exact Or.inr rfl))) (fun s H C cl fp => by exact (fts_one (ft_not (ft_val (fe_call takes0 (G__law_lane_right base) (hr.mono (by decide)) rfl (B.glo 8) k__law_lane_right b__law_lane_right Dfl.nil (fa_cons (fe_var 3 (pv 3)) (fa_cons (fe_var 9 (pv 9)) fa_nil))))))) (fun s H C cl fp => by exact fe_int) (by decide)) (fe_lst fa_nil)) (fss_one (fs_ret fe_bl)) fss_nil) (fss_one (fs_if (ft_not (ft_val (fe_call tk (G__law_tiles_right base) (hr.mono (by decide)) rfl (B.glo 11) k__law_tiles_right b__law_tiles_right Dfl.nil (fa_cons (fe_var 3 (pv 3)) (fa_cons (fe_make (c := 1) tk ⟨⟨_, rfl, rfl⟩, B.mkr 9⟩ (G_Canvas___init__ base) (hr.mono (by decide)) rfl (B.glo 10) b_Canvas___init__ Dfl.nil (fa_cons (fe_op op_addA os_add fe_int (fe_call tk (G__law_next base) (hr.mono (by decide)) rfl (B.glo 7) k__law_next b__law_next Dfl.nil (fa_cons (fe_var 1 (pv 1)) (fa_cons fe_int fa_nil)))) (fa_cons (fe_op op_addA os_add fe_int (fe_call tk (G__law_next base) (hr.mono (by decide)) rfl (B.glo 7) k__law_next b__law_next Dfl.nil (fa_cons (fe_var 1 (pv 1)) (fa_cons fe_int fa_nil)))) fa_nil))) fa_nil))))) (fss_one (fs_ret fe_bl)) fss_nil)))))))))) (fss_one (fs_ret fe_bl))))
def nm0 : List Str := ["_wall", "Invalid", "BadCanvas", "BadPlace", "BadCorner", "BadTile", "BadNumber", "is_whole_in", "are_whole_in", "MAX_WIDTH", "MAX_HEIGHT", "TILE", "MAX_NUMBER", "is_corner", "eye_row", "crossed_rows", "linear_edge", "need_whole_place", "is_let_in", "Triangle", "Canvas", "number_across", "number_at", "need_tile_on", "_law_begun", "_law_next", "_law_corner", "_law_turns", "_law_lane_right", "_law_tiles_right"]
def nms : List Str := nm0
abbrev Rw : PySem.W.OpenRow := PySem.W.OpenLaw.row PySem.Challenge.rw_tilewright_k14_whole_rows_side_by_side
abbrev hk : PySem.W.Hook := hookL 7 fl fn
def ob (s : PySem.W.SharedT) : AlL := obsLG 7 fl fn (HandSHeadRun.getT s)
theorem ob_eq (s : PySem.W.SharedT) : ob s = hk.obs s.abs := obsLG_eq (HandSHeadRun.getT_eq s)
theorem run (w : World) : HandSHeadRun.RunEq Rw (PySem.W.view Rw.prog [35]) hk ob 4000 nms w := by
  intro os
  kernel_rfl
end Lw
open PySem PySem.W PySem.Calls PyProof.Rows
theorem holds_of (hp : ∀ ns : List Int, ns.length ≤ 63 → ∃ h', Lw.f_law [.scr (ns.map L3.D.int)] [] = .ok (.bl true) h') : PySem.Challenge.rw_tilewright_k14_whole_rows_side_by_side.Holds := by
  w_on; o_law
  refine HandSHeadRun.head_any (r := OpenLaw.row PySem.Challenge.rw_tilewright_k14_whole_rows_side_by_side) (q := view (OpenLaw.row PySem.Challenge.rw_tilewright_k14_whole_rows_side_by_side).prog [35]) (H := Lw.hk) (ob := Lw.ob) (M := 4000) (loose := Lw.nms) (d := HandSHeadRun.topDef (OpenLaw.row PySem.Challenge.rw_tilewright_k14_whole_rows_side_by_side).prog 35) (kwd := []) Lw.ob_eq
    (by kernel_rfl) (fun s => by kernel_rfl) Lw.run (by kernel_rfl) (by kernel_rfl) (by kernel_rfl) (by rfl) (by first | assumption | decide +kernel) (by decide +kernel) ⟨rfl, rfl, rfl, rfl, rfl, by decide +kernel⟩ ?hw ?hc
  case hw => w_witness2
  case hc =>
    refine L3.law_end (l := PySem.Challenge.rw_tilewright_k14_whole_rows_side_by_side) (n := 63) (k := 6) (TX := Lw.TX) (x := "law") rfl (by decide) (by kernel_rfl) ⟨rfl, by decide, by decide⟩ (by kernel_rfl) 51 rfl ?F hp (params := default) (body := []) (scope := default)
    intro w mg K B
    obtain ⟨fd, h1, h2, h3, h4⟩ := Lw.ok_law (P := PySem.Challenge.pw_tilewright_k14_whole_rows_side_by_side) (w := w) B
    exact ⟨fd, h1, h4⟩
set_option autoImplicit false
theorem PySem.Challenge.cw_tilewright_k14_whole_rows_side_by_side_holds : PySem.Challenge.rw_tilewright_k14_whole_rows_side_by_side.Holds := by
  exact holds_of Lw.law_plain
